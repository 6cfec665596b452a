-- Laid by a program for this claim (the printer, turned): Lean checks it.
import Derived.Test.YtaacknjgfipejaaPx0
import Derived.Test.YtaacknjgfipejaaPx37
namespace Go.Proofs.Ytaacknjgfipejaa.P
open Go.RowKit Go.Proofs.YtaacknjgfipejaaW.PrintWords Go.Proofs.YtaacknjgfipejaaW.PrintLast Go.Proofs.YtaacknjgfipejaaW.PrintMore
attribute [local go_sem] max2_int min2_int max_two min_two max_three min_three max_four min_four   -- for this text's walks alone
set_option linter.unusedVariables false
set_option linter.unusedSimpArgs false

/-! ### impl_TrieFind: function 28 -/
mutual
def impl_TrieFind.l0 : Nat → List (S82) → ByteArray → Int → Int → Int → Option (Int)
  | 0, _, _, _, _, _ => none
  | k + 1, x0, x1, x5, x14, x15 => if x15 < x14 then (if 0 ≤ x5 then (if x5 < (x0.length : Int) then (impl_TrieFind.l1 k x0 x1 x15 (-1) x14 x15 ((rd_T82 x0 x5).f1) (((rd_T82 x0 x5).f1).length : Int) 0) else (none)) else (none)) else (some x5)
def impl_TrieFind.l1 : Nat → List (S82) → ByteArray → Int → Int → Int → Int → List Int → Int → Int → Option (Int)
  | 0, _, _, _, _, _, _, _, _, _ => none
  | k + 1, x0, x1, x6, x7, x14, x15, x22, x23, x24 => if x24 < x23 then (if 0 ≤ x24 then (if x24 < (x22.length : Int) then (if 0 ≤ (rd x22 x24) then (if (rd x22 x24) < (x0.length : Int) then (if 0 ≤ x6 then (if x6 < (x1.size : Int) then (if ((rd_T82 x0 (rd x22 x24)).f0) = (wrap64 (bt x1 x6)) then (if (rd x22 x24) < 0 then (some (-1)) else (impl_TrieFind.l0 k x0 x1 (rd x22 x24) x14 (wrap64 (x15 + 1)))) else (impl_TrieFind.l1 k x0 x1 x6 x7 x14 x15 x22 x23 (wrap64 (x24 + 1)))) else (none)) else (none)) else (none)) else (none)) else (none)) else (none)) else (if x7 < 0 then (some (-1)) else (impl_TrieFind.l0 k x0 x1 x7 x14 (wrap64 (x15 + 1))))
end
def impl_TrieFind.f (k : Nat) (l0 : List (S82)) (a1 : ByteArray) : Option (Int) := (impl_isTree.f k l0).bind fun t614 => (if t614 = true then (impl_TrieFind.l0 k l0 a1 0 (a1.size : Int) 0) else (some (-1)))
theorem impl_TrieFind.mono_l : ∀ k, (∀ y0 y1 y2 y3 y4, LeO (impl_TrieFind.l0 k y0 y1 y2 y3 y4) (impl_TrieFind.l0 (k + 1) y0 y1 y2 y3 y4)) ∧ (∀ y0 y1 y2 y3 y4 y5 y6 y7 y8, LeO (impl_TrieFind.l1 k y0 y1 y2 y3 y4 y5 y6 y7 y8) (impl_TrieFind.l1 (k + 1) y0 y1 y2 y3 y4 y5 y6 y7 y8))
  | 0 => ⟨fun _ _ _ _ _ r h => by simp [impl_TrieFind.l0] at h, fun _ _ _ _ _ _ _ _ _ r h => by simp [impl_TrieFind.l1] at h⟩
  | k + 1 => by
    obtain ⟨ih0, ih1⟩ := impl_TrieFind.mono_l k
    refine ⟨?_, ?_⟩
    · intro y0 y1 y2 y3 y4
      unfold impl_TrieFind.l0
      repeat' first
      | (with_reducible exact ih0 _ _ _ _ _)
      | (with_reducible exact ih1 _ _ _ _ _ _ _ _ _)
      | (with_reducible exact impl_isTree.mono _ _)
      | (with_reducible exact LeO.refl _)
      | (with_reducible exact LeO.none _)
      | (with_reducible refine LeO.ite ?_ ?_)
      | (with_reducible refine LeO.bind ?_ (fun _ => ?_))
      | exact ih0 _ _ _ _ _
      | exact ih1 _ _ _ _ _ _ _ _ _
      | exact impl_isTree.mono _ _
      | exact LeO.none _
      | refine LeO.ite ?_ ?_
      | refine LeO.bind ?_ (fun _ => ?_)
    · intro y0 y1 y2 y3 y4 y5 y6 y7 y8
      unfold impl_TrieFind.l1
      repeat' first
      | (with_reducible exact ih0 _ _ _ _ _)
      | (with_reducible exact ih1 _ _ _ _ _ _ _ _ _)
      | (with_reducible exact impl_isTree.mono _ _)
      | (with_reducible exact LeO.refl _)
      | (with_reducible exact LeO.none _)
      | (with_reducible refine LeO.ite ?_ ?_)
      | (with_reducible refine LeO.bind ?_ (fun _ => ?_))
      | exact ih0 _ _ _ _ _
      | exact ih1 _ _ _ _ _ _ _ _ _
      | exact impl_isTree.mono _ _
      | exact LeO.none _
      | refine LeO.ite ?_ ?_
      | refine LeO.bind ?_ (fun _ => ?_)
theorem impl_TrieFind.mono : ∀ a0 a1 k, LeO (impl_TrieFind.f k a0 a1) (impl_TrieFind.f (k + 1) a0 a1) := by
  intro a0 a1 k
  obtain ⟨ih0, ih1⟩ := impl_TrieFind.mono_l k
  unfold impl_TrieFind.f
  repeat' first
      | (with_reducible exact ih0 _ _ _ _ _)
      | (with_reducible exact ih1 _ _ _ _ _ _ _ _ _)
      | (with_reducible exact impl_isTree.mono _ _)
      | (with_reducible exact LeO.refl _)
      | (with_reducible exact LeO.none _)
      | (with_reducible refine LeO.ite ?_ ?_)
      | (with_reducible refine LeO.bind ?_ (fun _ => ?_))
      | exact ih0 _ _ _ _ _
      | exact ih1 _ _ _ _ _ _ _ _ _
      | exact impl_isTree.mono _ _
      | exact LeO.none _
      | refine LeO.ite ?_ ?_
      | refine LeO.bind ?_ (fun _ => ?_)
set_option maxHeartbeats 8000000 in
set_option maxRecDepth 100000 in
theorem impl_TrieFind.calls (k : Nat) (A0 : Option Addr) (c0 : Nat) (l0 : List (S82)) (a1 : ByteArray) (r : Int) (w : World) (hr0 : Kd.C k82 w A0 l0.length l0) (hc0 : l0.length ≤ c0) (h : impl_TrieFind.f k l0 a1 = some r) :
    Calls Try.prog 28 #[.slice A0 l0.length c0, .string a1] w fun e w' => e = .returned (.int .i64 r) ∧ Below w.heap.size w w' := by
  have HR0 := Aside0.mk hr0
  have HC0 := Aside0.mk hc0
  clear hr0 hc0
  have HB := Aside0.mk (Below.refl w.heap.size w)
  have H : ((impl_isTree.f k l0).bind fun t614 => (if t614 = true then (impl_TrieFind.l0 k l0 a1 0 (a1.size : Int) 0) else (some (-1)))) = some r := h
  clear h
  replace H := Option.bind_eq_some_iff.mp H
  obtain ⟨t614, A30, H⟩ := H
  replace H : (if t614 = true then (impl_TrieFind.l0 k l0 a1 0 (a1.size : Int) 0) else (some (-1))) = some r := H
  have A3 := Aside0.mk A30
  clear A30
  by_cases c4 : t614 = true
  · subst c4
    have H1 : (impl_TrieFind.l0 k l0 a1 0 (a1.size : Int) 0) = some r := by rw [if_pos rfl] at H; exact H
    clear H
    have H := H1
    clear H1
    have H' := Aside0.mk H
    clear H
    go_enter Try.func28, Try.ntmps28
    go_wp2_with (first | (go_at_call 55; (with_reducible refine (impl_isTree.calls k _ _ l0 true _ ?side1 ?side2 A3.out).mono ?_); (case side1 => repeat (first | exact HR0.out | (with_reducible refine Kd.C_alloc ?_ _) | (with_reducible refine Kd.C_drewN ?_ _) | (with_reducible refine Kd.C_drew ?_))); (case side2 => exact HC0.out); rintro e w5 ⟨rfl, hb⟩; have n0_ := Aside0.mk (below_step (by repeat (first | (with_reducible first | exact HB.out | apply below_alloc | apply pw_below_drewN | apply below_drew1) | exact HB.out)) hb); clear HB; have HB := n0_; clear n0_; (try clear hb); (try clear hb2); (try clear hk); (try clear hi)))
    repeat (go_quiet (first | (go_at_call 55; (with_reducible refine (impl_isTree.calls k _ _ l0 true _ ?side1 ?side2 A3.out).mono ?_); (case side1 => repeat (first | exact HR0.out | (with_reducible refine Kd.C_alloc ?_ _) | (with_reducible refine Kd.C_drewN ?_ _) | (with_reducible refine Kd.C_drew ?_))); (case side2 => exact HC0.out); rintro e w5 ⟨rfl, hb⟩; have n0_ := Aside0.mk (below_step (by repeat (first | (with_reducible first | exact HB.out | apply below_alloc | apply pw_below_drewN | apply below_drew1) | exact HB.out)) hb); clear HB; have HB := n0_; clear n0_; (try clear hb); (try clear hb2); (try clear hk); (try clear hi))); try go_wp2_with (first | (go_at_call 55; (with_reducible refine (impl_isTree.calls k _ _ l0 true _ ?side1 ?side2 A3.out).mono ?_); (case side1 => repeat (first | exact HR0.out | (with_reducible refine Kd.C_alloc ?_ _) | (with_reducible refine Kd.C_drewN ?_ _) | (with_reducible refine Kd.C_drew ?_))); (case side2 => exact HC0.out); rintro e w5 ⟨rfl, hb⟩; have n0_ := Aside0.mk (below_step (by repeat (first | (with_reducible first | exact HB.out | apply below_alloc | apply pw_below_drewN | apply below_drew1) | exact HB.out)) hb); clear HB; have HB := n0_; clear n0_; (try clear hb); (try clear hb2); (try clear hk); (try clear hi))))
    go_loopg [5, 15] k (fun kq v5 v15 w' => ∃ (x5_1 : Int) (x15_1 : Int), v5 = .int .i64 x5_1 ∧ v15 = .int .i64 x15_1 ∧ Aside0 (impl_TrieFind.l0 kq l0 a1 x5_1 (a1.size : Int) x15_1 = some r) ∧ Aside0 (kq ≤ k) ∧ Aside0 (Below w.heap.size w w'))
    case atStart => exact ⟨(0), (0), (by first | rfl | (simp; done) | (simp [*]; done)), (by first | rfl | (simp; done) | (simp [*]; done)), H', ⟨Nat.le_refl _⟩, ⟨by repeat (first | (with_reducible first | exact HB.out | apply below_alloc | apply pw_below_drewN | apply below_drew1) | exact HB.out)⟩⟩
    case round =>
      clear H'
      try clear c2
      try clear p2
      try clear c4
      obtain ⟨x5_1, x15_1, rfl, rfl, HA, HK1, HB⟩ := hrel
      cases gk with
      | zero => exact absurd HA.out (by simp [impl_TrieFind.l0])
      | succ k1 =>
        have H := HA.out
        clear HA
        simp only [impl_TrieFind.l0] at H
        by_cases c6 : x15_1 < (a1.size : Int)
        · rw [if_pos c6] at H
          have c6b0 : decide (x15_1 < (a1.size : Int)) = true := decide_eq_true c6
          clear c6
          by_cases c7 : 0 ≤ x5_1
          · rw [if_pos c7] at H
            have c7b0 : decide (0 ≤ x5_1) = true := decide_eq_true c7
            clear c7
            by_cases c8 : x5_1 < (l0.length : Int)
            · rw [if_pos c8] at H
              have c8b0 : decide (x5_1 < (l0.length : Int)) = true := decide_eq_true c8
              clear c8
              have H' := Aside0.mk H
              clear H
              have p615 : 0 ≤ (x5_1 : Int) := of_decide_eq_true (by first | (with_reducible assumption) | assumption)
              have q615 : x5_1 < (l0.length : Int) := of_decide_eq_true (by first | (with_reducible assumption) | assumption)
              obtain ⟨ad615, A615_1, c615_1, A615_2, c615_2, e615, hx615_0, hx615_1, hx615_2, hl615_1, hi615_1, hl615_2, hi615_2⟩ := at_T82 HR0.out x5_1 p615 q615
              cases e615
              replace hx615_0 := (HB.out.cell (World.block_lt_of_cell? w _ hx615_0)).trans hx615_0
              replace hx615_1 := (HB.out.cell (World.block_lt_of_cell? w _ hx615_1)).trans hx615_1
              replace hx615_2 := (HB.out.cell (World.block_lt_of_cell? w _ hx615_2)).trans hx615_2
              have HR615_1 := Aside0.mk hi615_1
              have HC615_1 := Aside0.mk hl615_1
              clear hi615_1 hl615_1
              have HR615_2 := Aside0.mk hi615_2
              have HC615_2 := Aside0.mk hl615_2
              clear hi615_2 hl615_2
              replace p615 := eq_true p615
              replace q615 := eq_true q615
              go_wp2
              repeat (go_quiet (fail); try go_wp2)
              go_loopg [7, 24] k1 (fun kq v7 v24 w' => ∃ (x7_2 : Int) (x24_2 : Int), v7 = .int .i64 x7_2 ∧ v24 = .int .i64 x24_2 ∧ Aside0 (impl_TrieFind.l1 kq l0 a1 x15_1 x7_2 (a1.size : Int) x15_1 ((rd_T82 l0 x5_1).f1) (((rd_T82 l0 x5_1).f1).length : Int) x24_2 = some r) ∧ Aside0 (kq ≤ k1) ∧ Aside0 (Below w.heap.size w w'))
              case atStart => exact ⟨((-1)), (0), (by first | rfl | (simp; done) | (simp [*]; done)), (by first | rfl | (simp; done) | (simp [*]; done)), H', ⟨Nat.le_refl _⟩, ⟨by repeat (first | (with_reducible first | exact HB.out | apply below_alloc | apply pw_below_drewN | apply below_drew1) | exact HB.out)⟩⟩
              case round =>
                clear H'
                try clear c2
                try clear p2
                try clear c4
                try clear c6
                try clear c6b0
                try clear p6
                try clear q6
                try clear hx6
                try clear c7
                try clear c7b0
                try clear c8
                try clear c8b0
                try clear hx615_0
                try clear hx615_1
                try clear hx615_2
                try clear p2
                try clear p615
                try clear q615
                obtain ⟨x7_2, x24_2, rfl, rfl, HA, HK2, HB⟩ := hrel
                cases gk with
                | zero => exact absurd HA.out (by simp [impl_TrieFind.l1])
                | succ k2 =>
                  have H := HA.out
                  clear HA
                  simp only [impl_TrieFind.l1] at H
                  by_cases c9 : x24_2 < (((rd_T82 l0 x5_1).f1).length : Int)
                  · rw [if_pos c9] at H
                    have c9b0 : decide (x24_2 < (((rd_T82 l0 x5_1).f1).length : Int)) = true := decide_eq_true c9
                    clear c9
                    by_cases c10 : 0 ≤ x24_2
                    · rw [if_pos c10] at H
                      have c10b0 : decide (0 ≤ x24_2) = true := decide_eq_true c10
                      clear c10
                      by_cases c11 : x24_2 < (((rd_T82 l0 x5_1).f1).length : Int)
                      · rw [if_pos c11] at H
                        have c11b0 : decide (x24_2 < (((rd_T82 l0 x5_1).f1).length : Int)) = true := decide_eq_true c11
                        clear c11
                        by_cases c12 : 0 ≤ (rd ((rd_T82 l0 x5_1).f1) x24_2)
                        · rw [if_pos c12] at H
                          have c12b0 : decide (0 ≤ (rd ((rd_T82 l0 x5_1).f1) x24_2)) = true := decide_eq_true c12
                          clear c12
                          by_cases c13 : (rd ((rd_T82 l0 x5_1).f1) x24_2) < (l0.length : Int)
                          · rw [if_pos c13] at H
                            have c13b0 : decide ((rd ((rd_T82 l0 x5_1).f1) x24_2) < (l0.length : Int)) = true := decide_eq_true c13
                            clear c13
                            by_cases c14 : 0 ≤ x15_1
                            · rw [if_pos c14] at H
                              have c14b0 : decide (0 ≤ x15_1) = true := decide_eq_true c14
                              clear c14
                              by_cases c15 : x15_1 < (a1.size : Int)
                              · rw [if_pos c15] at H
                                have c15b0 : decide (x15_1 < (a1.size : Int)) = true := decide_eq_true c15
                                clear c15
                                by_cases c17 : ((rd_T82 l0 (rd ((rd_T82 l0 x5_1).f1) x24_2)).f0) = (wrap64 (bt a1 x15_1))
                                · rw [if_pos c17] at H
                                  have c17b0 : (((rd_T82 l0 (rd ((rd_T82 l0 x5_1).f1) x24_2)).f0) == (wrap64 (bt a1 x15_1))) = true := beq_iff_eq.mpr c17
                                  have c17b1 : (((rd_T82 l0 (rd ((rd_T82 l0 x5_1).f1) x24_2)).f0) != (wrap64 (bt a1 x15_1))) = false := bne_eq_false_iff_eq.mpr c17
                                  clear c17
                                  by_cases c18 : (rd ((rd_T82 l0 x5_1).f1) x24_2) < 0
                                  · rw [if_pos c18] at H
                                    have c18b0 : decide ((rd ((rd_T82 l0 x5_1).f1) x24_2) < 0) = true := decide_eq_true c18
                                    clear c18
                                    obtain rfl := Option.some.inj H
                                    have p616 : 0 ≤ (x24_2 : Int) := of_decide_eq_true (by first | (with_reducible assumption) | assumption)
                                    have q616 : x24_2 < (((rd_T82 l0 x5_1).f1).length : Int) := of_decide_eq_true (by first | (with_reducible assumption) | assumption)
                                    obtain ⟨ad616, e616, hx616_0⟩ := Kd.at_int HR615_1.out x24_2 p616 q616
                                    cases e616
                                    replace hx616_0 := (HB.out.cell (World.block_lt_of_cell? w _ hx616_0)).trans hx616_0
                                    replace p616 := eq_true p616
                                    replace q616 := eq_true q616
                                    have p617 : 0 ≤ ((rd ((rd_T82 l0 x5_1).f1) x24_2) : Int) := of_decide_eq_true (by first | (with_reducible assumption) | assumption)
                                    have q617 : (rd ((rd_T82 l0 x5_1).f1) x24_2) < (l0.length : Int) := of_decide_eq_true (by first | (with_reducible assumption) | assumption)
                                    obtain ⟨ad617, A617_1, c617_1, A617_2, c617_2, e617, hx617_0, hx617_1, hx617_2, hl617_1, hi617_1, hl617_2, hi617_2⟩ := at_T82 HR0.out (rd ((rd_T82 l0 x5_1).f1) x24_2) p617 q617
                                    obtain rfl : ad615 = ad617 := (by injection e617)
                                    replace hx617_0 := (HB.out.cell (World.block_lt_of_cell? w _ hx617_0)).trans hx617_0
                                    replace hx617_1 := (HB.out.cell (World.block_lt_of_cell? w _ hx617_1)).trans hx617_1
                                    replace hx617_2 := (HB.out.cell (World.block_lt_of_cell? w _ hx617_2)).trans hx617_2
                                    have HR617_1 := Aside0.mk hi617_1
                                    have HC617_1 := Aside0.mk hl617_1
                                    clear hi617_1 hl617_1
                                    have HR617_2 := Aside0.mk hi617_2
                                    have HC617_2 := Aside0.mk hl617_2
                                    clear hi617_2 hl617_2
                                    replace p617 := eq_true p617
                                    replace q617 := eq_true q617
                                    have p16 : 0 ≤ (x15_1 : Int) := of_decide_eq_true (by first | (with_reducible assumption) | assumption)
                                    have q16 : x15_1 < (a1.size : Int) := of_decide_eq_true (by first | (with_reducible assumption) | assumption)
                                    have hx16 := bt_at a1 x15_1
                                    replace p16 := eq_true p16
                                    replace q16 := eq_true q16
                                    go_wp2
                                    repeat (go_quiet (fail); try go_wp2)
                                    go_ret
                                    exact ⟨by first | rfl | (simp [errW_none, errW_some] <;> rfl) | (simp [*, errW_none, errW_some] <;> rfl) | (simp only [pw_eq_nil]; rfl), by repeat (first | (with_reducible first | exact HB.out | apply below_alloc | apply pw_below_drewN | apply below_drew1) | exact HB.out)⟩
                                  · rw [if_neg c18] at H
                                    have c18b0 : decide ((rd ((rd_T82 l0 x5_1).f1) x24_2) < 0) = false := decide_eq_false c18
                                    clear c18
                                    have H' := Aside0.mk H
                                    clear H
                                    have p616 : 0 ≤ (x24_2 : Int) := of_decide_eq_true (by first | (with_reducible assumption) | assumption)
                                    have q616 : x24_2 < (((rd_T82 l0 x5_1).f1).length : Int) := of_decide_eq_true (by first | (with_reducible assumption) | assumption)
                                    obtain ⟨ad616, e616, hx616_0⟩ := Kd.at_int HR615_1.out x24_2 p616 q616
                                    cases e616
                                    replace hx616_0 := (HB.out.cell (World.block_lt_of_cell? w _ hx616_0)).trans hx616_0
                                    replace p616 := eq_true p616
                                    replace q616 := eq_true q616
                                    have p617 : 0 ≤ ((rd ((rd_T82 l0 x5_1).f1) x24_2) : Int) := of_decide_eq_true (by first | (with_reducible assumption) | assumption)
                                    have q617 : (rd ((rd_T82 l0 x5_1).f1) x24_2) < (l0.length : Int) := of_decide_eq_true (by first | (with_reducible assumption) | assumption)
                                    obtain ⟨ad617, A617_1, c617_1, A617_2, c617_2, e617, hx617_0, hx617_1, hx617_2, hl617_1, hi617_1, hl617_2, hi617_2⟩ := at_T82 HR0.out (rd ((rd_T82 l0 x5_1).f1) x24_2) p617 q617
                                    obtain rfl : ad615 = ad617 := (by injection e617)
                                    replace hx617_0 := (HB.out.cell (World.block_lt_of_cell? w _ hx617_0)).trans hx617_0
                                    replace hx617_1 := (HB.out.cell (World.block_lt_of_cell? w _ hx617_1)).trans hx617_1
                                    replace hx617_2 := (HB.out.cell (World.block_lt_of_cell? w _ hx617_2)).trans hx617_2
                                    have HR617_1 := Aside0.mk hi617_1
                                    have HC617_1 := Aside0.mk hl617_1
                                    clear hi617_1 hl617_1
                                    have HR617_2 := Aside0.mk hi617_2
                                    have HC617_2 := Aside0.mk hl617_2
                                    clear hi617_2 hl617_2
                                    replace p617 := eq_true p617
                                    replace q617 := eq_true q617
                                    have p16 : 0 ≤ (x15_1 : Int) := of_decide_eq_true (by first | (with_reducible assumption) | assumption)
                                    have q16 : x15_1 < (a1.size : Int) := of_decide_eq_true (by first | (with_reducible assumption) | assumption)
                                    have hx16 := bt_at a1 x15_1
                                    replace p16 := eq_true p16
                                    replace q16 := eq_true q16
                                    go_wp2
                                    repeat (go_quiet (fail); try go_wp2)
                                    go_roundg k2
                                    case measure => have := HK1.out; have := HK2.out; omega
                                    case rel => exact ⟨(rd ((rd_T82 l0 x5_1).f1) x24_2), (wrap64 (x15_1 + 1)), (by first | rfl | (simp; done) | (simp [*]; done)), (by first | rfl | (simp; done) | (simp [*]; done)), H', ⟨by have := HK1.out; have := HK2.out; omega⟩, ⟨by repeat (first | (with_reducible first | exact HB.out | apply below_alloc | apply pw_below_drewN | apply below_drew1) | exact HB.out)⟩⟩
                                · rw [if_neg c17] at H
                                  have c17b0 : (((rd_T82 l0 (rd ((rd_T82 l0 x5_1).f1) x24_2)).f0) == (wrap64 (bt a1 x15_1))) = false := beq_eq_false_iff_ne.mpr c17
                                  have c17b1 : (((rd_T82 l0 (rd ((rd_T82 l0 x5_1).f1) x24_2)).f0) != (wrap64 (bt a1 x15_1))) = true := bne_iff_ne.mpr c17
                                  have H' := Aside0.mk H
                                  clear H
                                  have p616 : 0 ≤ (x24_2 : Int) := of_decide_eq_true (by first | (with_reducible assumption) | assumption)
                                  have q616 : x24_2 < (((rd_T82 l0 x5_1).f1).length : Int) := of_decide_eq_true (by first | (with_reducible assumption) | assumption)
                                  obtain ⟨ad616, e616, hx616_0⟩ := Kd.at_int HR615_1.out x24_2 p616 q616
                                  cases e616
                                  replace hx616_0 := (HB.out.cell (World.block_lt_of_cell? w _ hx616_0)).trans hx616_0
                                  replace p616 := eq_true p616
                                  replace q616 := eq_true q616
                                  have p617 : 0 ≤ ((rd ((rd_T82 l0 x5_1).f1) x24_2) : Int) := of_decide_eq_true (by first | (with_reducible assumption) | assumption)
                                  have q617 : (rd ((rd_T82 l0 x5_1).f1) x24_2) < (l0.length : Int) := of_decide_eq_true (by first | (with_reducible assumption) | assumption)
                                  obtain ⟨ad617, A617_1, c617_1, A617_2, c617_2, e617, hx617_0, hx617_1, hx617_2, hl617_1, hi617_1, hl617_2, hi617_2⟩ := at_T82 HR0.out (rd ((rd_T82 l0 x5_1).f1) x24_2) p617 q617
                                  obtain rfl : ad615 = ad617 := (by injection e617)
                                  replace hx617_0 := (HB.out.cell (World.block_lt_of_cell? w _ hx617_0)).trans hx617_0
                                  replace hx617_1 := (HB.out.cell (World.block_lt_of_cell? w _ hx617_1)).trans hx617_1
                                  replace hx617_2 := (HB.out.cell (World.block_lt_of_cell? w _ hx617_2)).trans hx617_2
                                  have HR617_1 := Aside0.mk hi617_1
                                  have HC617_1 := Aside0.mk hl617_1
                                  clear hi617_1 hl617_1
                                  have HR617_2 := Aside0.mk hi617_2
                                  have HC617_2 := Aside0.mk hl617_2
                                  clear hi617_2 hl617_2
                                  replace p617 := eq_true p617
                                  replace q617 := eq_true q617
                                  have p16 : 0 ≤ (x15_1 : Int) := of_decide_eq_true (by first | (with_reducible assumption) | assumption)
                                  have q16 : x15_1 < (a1.size : Int) := of_decide_eq_true (by first | (with_reducible assumption) | assumption)
                                  have hx16 := bt_at a1 x15_1
                                  replace p16 := eq_true p16
                                  replace q16 := eq_true q16
                                  go_wp2
                                  repeat (go_quiet (fail); try go_wp2)
                                  go_roundg k2
                                  case measure => have := HK1.out; have := HK2.out; omega
                                  case rel => exact ⟨(x7_2), (wrap64 (x24_2 + 1)), (by first | rfl | (simp; done) | (simp [*]; done)), (by first | rfl | (simp; done) | (simp [*]; done)), H', ⟨by have := HK1.out; have := HK2.out; omega⟩, ⟨by repeat (first | (with_reducible first | exact HB.out | apply below_alloc | apply pw_below_drewN | apply below_drew1) | exact HB.out)⟩⟩
                              · rw [if_neg c15] at H
                                exact absurd H (by simp)
                            · rw [if_neg c14] at H
                              exact absurd H (by simp)
                          · rw [if_neg c13] at H
                            exact absurd H (by simp)
                        · rw [if_neg c12] at H
                          exact absurd H (by simp)
                      · rw [if_neg c11] at H
                        exact absurd H (by simp)
                    · rw [if_neg c10] at H
                      exact absurd H (by simp)
                  · rw [if_neg c9] at H
                    have c9b0 : decide (x24_2 < (((rd_T82 l0 x5_1).f1).length : Int)) = false := decide_eq_false c9
                    clear c9
                    by_cases c19 : x7_2 < 0
                    · rw [if_pos c19] at H
                      have c19b0 : decide (x7_2 < 0) = true := decide_eq_true c19
                      clear c19
                      obtain rfl := Option.some.inj H
                      go_wp2
                      repeat (go_quiet (fail); try go_wp2)
                      go_ret
                      exact ⟨by first | rfl | (simp [errW_none, errW_some] <;> rfl) | (simp [*, errW_none, errW_some] <;> rfl) | (simp only [pw_eq_nil]; rfl), by repeat (first | (with_reducible first | exact HB.out | apply below_alloc | apply pw_below_drewN | apply below_drew1) | exact HB.out)⟩
                    · rw [if_neg c19] at H
                      have c19b0 : decide (x7_2 < 0) = false := decide_eq_false c19
                      clear c19
                      have H' := Aside0.mk H
                      clear H
                      go_wp2
                      repeat (go_quiet (fail); try go_wp2)
                      go_roundg k2
                      case measure => have := HK1.out; have := HK2.out; omega
                      case rel => exact ⟨(x7_2), (wrap64 (x15_1 + 1)), (by first | rfl | (simp; done) | (simp [*]; done)), (by first | rfl | (simp; done) | (simp [*]; done)), H', ⟨by have := HK1.out; have := HK2.out; omega⟩, ⟨by repeat (first | (with_reducible first | exact HB.out | apply below_alloc | apply pw_below_drewN | apply below_drew1) | exact HB.out)⟩⟩
            · rw [if_neg c8] at H
              exact absurd H (by simp)
          · rw [if_neg c7] at H
            exact absurd H (by simp)
        · rw [if_neg c6] at H
          have c6b0 : decide (x15_1 < (a1.size : Int)) = false := decide_eq_false c6
          clear c6
          obtain rfl := Option.some.inj H
          go_wp2
          repeat (go_quiet (fail); try go_wp2)
          go_ret
          exact ⟨by first | rfl | (simp [errW_none, errW_some] <;> rfl) | (simp [*, errW_none, errW_some] <;> rfl) | (simp only [pw_eq_nil]; rfl), by repeat (first | (with_reducible first | exact HB.out | apply below_alloc | apply pw_below_drewN | apply below_drew1) | exact HB.out)⟩
  · replace c4 := Bool.eq_false_iff.mpr c4
    subst c4
    have H1 : (some (-1)) = some r := by rw [if_neg (show ¬ (false = true) by decide)] at H; exact H
    clear H
    have H := H1
    clear H1
    obtain rfl := Option.some.inj H
    go_enter Try.func28, Try.ntmps28
    go_wp2_with (first | (go_at_call 55; (with_reducible refine (impl_isTree.calls k _ _ l0 false _ ?side1 ?side2 A3.out).mono ?_); (case side1 => repeat (first | exact HR0.out | (with_reducible refine Kd.C_alloc ?_ _) | (with_reducible refine Kd.C_drewN ?_ _) | (with_reducible refine Kd.C_drew ?_))); (case side2 => exact HC0.out); rintro e w20 ⟨rfl, hb⟩; have n0_ := Aside0.mk (below_step (by repeat (first | (with_reducible first | exact HB.out | apply below_alloc | apply pw_below_drewN | apply below_drew1) | exact HB.out)) hb); clear HB; have HB := n0_; clear n0_; (try clear hb); (try clear hb2); (try clear hk); (try clear hi)))
    repeat (go_quiet (first | (go_at_call 55; (with_reducible refine (impl_isTree.calls k _ _ l0 false _ ?side1 ?side2 A3.out).mono ?_); (case side1 => repeat (first | exact HR0.out | (with_reducible refine Kd.C_alloc ?_ _) | (with_reducible refine Kd.C_drewN ?_ _) | (with_reducible refine Kd.C_drew ?_))); (case side2 => exact HC0.out); rintro e w20 ⟨rfl, hb⟩; have n0_ := Aside0.mk (below_step (by repeat (first | (with_reducible first | exact HB.out | apply below_alloc | apply pw_below_drewN | apply below_drew1) | exact HB.out)) hb); clear HB; have HB := n0_; clear n0_; (try clear hb); (try clear hb2); (try clear hk); (try clear hi))); try go_wp2_with (first | (go_at_call 55; (with_reducible refine (impl_isTree.calls k _ _ l0 false _ ?side1 ?side2 A3.out).mono ?_); (case side1 => repeat (first | exact HR0.out | (with_reducible refine Kd.C_alloc ?_ _) | (with_reducible refine Kd.C_drewN ?_ _) | (with_reducible refine Kd.C_drew ?_))); (case side2 => exact HC0.out); rintro e w20 ⟨rfl, hb⟩; have n0_ := Aside0.mk (below_step (by repeat (first | (with_reducible first | exact HB.out | apply below_alloc | apply pw_below_drewN | apply below_drew1) | exact HB.out)) hb); clear HB; have HB := n0_; clear n0_; (try clear hb); (try clear hb2); (try clear hk); (try clear hi))))
    go_ret
    exact ⟨by first | rfl | (simp [errW_none, errW_some] <;> rfl) | (simp [*, errW_none, errW_some] <;> rfl) | (simp only [pw_eq_nil]; rfl), by repeat (first | (with_reducible first | exact HB.out | apply below_alloc | apply pw_below_drewN | apply below_drew1) | exact HB.out)⟩

end Go.Proofs.Ytaacknjgfipejaa.P
