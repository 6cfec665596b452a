-- Laid by a program for this claim (the printer, turned): Lean checks it.
import Derived.Test.YtaacknjgfipejaaPx0
import Derived.Test.YtaacknjgfipejaaPx1
namespace Go.Proofs.Ytaacknjgfipejaa.P
open Go.RowKit Go.Proofs.YtaacknjgfipejaaW.PrintWords Go.Proofs.YtaacknjgfipejaaW.PrintLast Go.Proofs.YtaacknjgfipejaaW.PrintMore
attribute [local go_sem] max2_int min2_int max_two min_two max_three min_three max_four min_four   -- for this text's walks alone
set_option linter.unusedVariables false
set_option linter.unusedSimpArgs false

/-! ### spec_l1Tree: function 52 -/
mutual
def spec_l1Tree.j0 : Nat → List (S82) → Bool → Option (Bool)
  | 0, _, _ => none
  | k + 1, x0, x14 => if x14 = true then (some false) else (if 0 ≤ (x0.length : Int) then (if ((x0.length : Int) : Int).toNat ≤ 35184372088832 then (spec_l1Tree.l0 k x0 (List.replicate ((x0.length : Int) : Int).toNat 0) 0) else (none)) else (none))
def spec_l1Tree.l0 : Nat → List (S82) → List Int → Int → Option (Bool)
  | 0, _, _, _ => none
  | k + 1, x0, x3, x4 => if x4 < (x0.length : Int) then (spec_l1Tree.l1 k x0 x3 x4 0) else (some true)
def spec_l1Tree.l1 : Nat → List (S82) → List Int → Int → Int → Option (Bool)
  | 0, _, _, _, _ => none
  | k + 1, x0, x3, x4, x5 => if 0 ≤ x4 then (if x4 < (x0.length : Int) then (if x5 < (((rd_T82 x0 x4).f1).length : Int) then (if 0 ≤ x5 then ((spec_l6In.f (rd ((rd_T82 x0 x4).f1) x5) (wrap64 (x4 + 1)) (wrap64 ((x0.length : Int) - 1))).bind fun t572 => (if t572 = true then (if 0 ≤ (rd ((rd_T82 x0 x4).f1) x5) then (if (rd ((rd_T82 x0 x4).f1) x5) < (x3.length : Int) then (if (rd x3 (rd ((rd_T82 x0 x4).f1) x5)) > 0 then (some false) else (spec_l1Tree.l1 k x0 (x3.set ((rd ((rd_T82 x0 x4).f1) x5) : Int).toNat 1) x4 (wrap64 (x5 + 1)))) else (none)) else (none)) else (some false))) else (none)) else (spec_l1Tree.l0 k x0 x3 (wrap64 (x4 + 1)))) else (none)) else (none)
end
def spec_l1Tree.f (k : Nat) (l0 : List (S82)) : Option (Bool) := if (l0.length : Int) < 1 then (spec_l1Tree.j0 k l0 true) else (spec_l1Tree.j0 k l0 (decide ((l0.length : Int) > 241)))
theorem spec_l1Tree.mono_l : ∀ k, (∀ y0 y1, LeO (spec_l1Tree.j0 k y0 y1) (spec_l1Tree.j0 (k + 1) y0 y1)) ∧ (∀ y0 y1 y2, LeO (spec_l1Tree.l0 k y0 y1 y2) (spec_l1Tree.l0 (k + 1) y0 y1 y2)) ∧ (∀ y0 y1 y2 y3, LeO (spec_l1Tree.l1 k y0 y1 y2 y3) (spec_l1Tree.l1 (k + 1) y0 y1 y2 y3))
  | 0 => ⟨fun _ _ r h => by simp [spec_l1Tree.j0] at h, fun _ _ _ r h => by simp [spec_l1Tree.l0] at h, fun _ _ _ _ r h => by simp [spec_l1Tree.l1] at h⟩
  | k + 1 => by
    obtain ⟨ih0, ih1, ih2⟩ := spec_l1Tree.mono_l k
    refine ⟨?_, ?_, ?_⟩
    · intro y0 y1
      unfold spec_l1Tree.j0
      repeat' first
      | (with_reducible exact ih0 _ _)
      | (with_reducible exact ih1 _ _ _)
      | (with_reducible exact ih2 _ _ _ _)
      | (with_reducible exact LeO.refl _)
      | (with_reducible exact LeO.none _)
      | (with_reducible refine LeO.ite ?_ ?_)
      | (with_reducible refine LeO.bind ?_ (fun _ => ?_))
      | exact ih0 _ _
      | exact ih1 _ _ _
      | exact ih2 _ _ _ _
      | exact LeO.none _
      | refine LeO.ite ?_ ?_
      | refine LeO.bind ?_ (fun _ => ?_)
    · intro y0 y1 y2
      unfold spec_l1Tree.l0
      repeat' first
      | (with_reducible exact ih0 _ _)
      | (with_reducible exact ih1 _ _ _)
      | (with_reducible exact ih2 _ _ _ _)
      | (with_reducible exact LeO.refl _)
      | (with_reducible exact LeO.none _)
      | (with_reducible refine LeO.ite ?_ ?_)
      | (with_reducible refine LeO.bind ?_ (fun _ => ?_))
      | exact ih0 _ _
      | exact ih1 _ _ _
      | exact ih2 _ _ _ _
      | exact LeO.none _
      | refine LeO.ite ?_ ?_
      | refine LeO.bind ?_ (fun _ => ?_)
    · intro y0 y1 y2 y3
      unfold spec_l1Tree.l1
      repeat' first
      | (with_reducible exact ih0 _ _)
      | (with_reducible exact ih1 _ _ _)
      | (with_reducible exact ih2 _ _ _ _)
      | (with_reducible exact LeO.refl _)
      | (with_reducible exact LeO.none _)
      | (with_reducible refine LeO.ite ?_ ?_)
      | (with_reducible refine LeO.bind ?_ (fun _ => ?_))
      | exact ih0 _ _
      | exact ih1 _ _ _
      | exact ih2 _ _ _ _
      | exact LeO.none _
      | refine LeO.ite ?_ ?_
      | refine LeO.bind ?_ (fun _ => ?_)
theorem spec_l1Tree.mono : ∀ a0 k, LeO (spec_l1Tree.f k a0) (spec_l1Tree.f (k + 1) a0) := by
  intro a0 k
  obtain ⟨ih0, ih1, ih2⟩ := spec_l1Tree.mono_l k
  unfold spec_l1Tree.f
  repeat' first
      | (with_reducible exact ih0 _ _)
      | (with_reducible exact ih1 _ _ _)
      | (with_reducible exact ih2 _ _ _ _)
      | (with_reducible exact LeO.refl _)
      | (with_reducible exact LeO.none _)
      | (with_reducible refine LeO.ite ?_ ?_)
      | (with_reducible refine LeO.bind ?_ (fun _ => ?_))
      | exact ih0 _ _
      | exact ih1 _ _ _
      | exact ih2 _ _ _ _
      | exact LeO.none _
      | refine LeO.ite ?_ ?_
      | refine LeO.bind ?_ (fun _ => ?_)
set_option maxHeartbeats 8000000 in
set_option maxRecDepth 100000 in
theorem spec_l1Tree.calls (k : Nat) (A0 : Option Addr) (c0 : Nat) (l0 : List (S82)) (r : Bool) (w : World) (hr0 : Kd.C k82 w A0 l0.length l0) (hc0 : l0.length ≤ c0) (h : spec_l1Tree.f k l0 = some r) :
    Calls Try.prog 52 #[.slice A0 l0.length c0] w fun e w' => e = .returned (.bool r) ∧ Below w.heap.size w w' := by
  have HR0 := Aside0.mk hr0
  have HC0 := Aside0.mk hc0
  clear hr0 hc0
  have HB := Aside0.mk (Below.refl w.heap.size w)
  have H : (if (l0.length : Int) < 1 then (spec_l1Tree.j0 k l0 true) else (spec_l1Tree.j0 k l0 (decide ((l0.length : Int) > 241)))) = some r := h
  clear h
  have HC2 := Aside0.mk H
  clear H
  go_enter Try.func52, Try.ntmps52
  go_upto_region 1 with (fail)
  go_cut [14] (fun v14 wc => ∃ (kq : Nat) (x14_1 : Bool), v14 = .bool x14_1 ∧ Aside0 (spec_l1Tree.j0 kq l0 x14_1 = some r) ∧ Aside0 (kq ≤ k) ∧ Aside0 (Below w.heap.size w wc))
  case first =>
    have H := HC2.out
    clear HC2
    by_cases c3 : (l0.length : Int) < 1
    · rw [if_pos c3] at H
      have c3b0 : decide ((l0.length : Int) < 1) = true := decide_eq_true c3
      have c3b1 : decide (l0.length < 1) = true := decide_eq_true (by omega)
      clear c3
      (first | rw [c3b0] | (simp only [i64_w, i32_w]; rw [c3b0]) | skip)
      have H' := Aside0.mk H
      clear H
      go_wp2
      go_meet
      case rel => exact ⟨_, (true), (by first | rfl | (simp; done) | (simp [*]; done)), H', ⟨by first | omega | exact Nat.le_refl _⟩, ⟨by repeat (first | (with_reducible first | exact HB.out | apply below_alloc | apply pw_below_drewN | apply below_drew1) | exact HB.out)⟩⟩
    · rw [if_neg c3] at H
      have c3b0 : decide ((l0.length : Int) < 1) = false := decide_eq_false c3
      have c3b1 : decide (l0.length < 1) = false := decide_eq_false (by omega)
      clear c3
      (first | rw [c3b0] | (simp only [i64_w, i32_w]; rw [c3b0]) | skip)
      have H' := Aside0.mk H
      clear H
      go_wp2
      go_meet
      case rel => exact ⟨_, (decide ((l0.length : Int) > 241)), (by first | rfl | (simp; done) | (simp [*]; done)), H', ⟨by first | omega | exact Nat.le_refl _⟩, ⟨by repeat (first | (with_reducible first | exact HB.out | apply below_alloc | apply pw_below_drewN | apply below_drew1) | exact HB.out)⟩⟩
  case rest =>
    clear HC2
    try clear p2
    try clear c3
    try clear c3b0
    try clear c3b1
    obtain ⟨kq, x14_1, rfl, HA, HJ1, HB⟩ := hcut
    cases kq with
    | zero => exact absurd HA.out (by simp [spec_l1Tree.j0])
    | succ kj1 =>
      have H := HA.out
      clear HA
      simp only [spec_l1Tree.j0] at H
      by_cases c4 : x14_1 = true
      · subst c4
        have H1 : (some false) = some r := by rw [if_pos rfl] at H; exact H
        clear H
        have H := H1
        clear H1
        obtain rfl := Option.some.inj H
        go_wp2
        go_ret
        exact ⟨by first | rfl | (simp [errW_none, errW_some] <;> rfl) | (simp [*, errW_none, errW_some] <;> rfl) | (simp only [pw_eq_nil]; rfl), by repeat (first | (with_reducible first | exact HB.out | apply below_alloc | apply pw_below_drewN | apply below_drew1) | exact HB.out)⟩
      · replace c4 := Bool.eq_false_iff.mpr c4
        subst c4
        have H1 : (if 0 ≤ (l0.length : Int) then (if ((l0.length : Int) : Int).toNat ≤ 35184372088832 then (spec_l1Tree.l0 kj1 l0 (List.replicate ((l0.length : Int) : Int).toNat 0) 0) else (none)) else (none)) = some r := by rw [if_neg (show ¬ (false = true) by decide)] at H; exact H
        clear H
        have H := H1
        clear H1
        by_cases c5 : 0 ≤ (l0.length : Int)
        · rw [if_pos c5] at H
          have c5b0 := eq_true c5
          have c5b1 : decide (0 ≤ (l0.length : Int)) = true := decide_eq_true c5
          clear c5
          by_cases c6 : ((l0.length : Int) : Int).toNat ≤ 35184372088832
          · rw [if_pos c6] at H
            have c6b0 := eq_true c6
            have c6b1 : decide (((l0.length : Int) : Int).toNat ≤ 35184372088832) = true := decide_eq_true c6
            clear c6
            obtain ⟨y566, hy566⟩ : ∃ y_ : List Int, y_ = (List.replicate ((l0.length : Int) : Int).toNat 0) := ⟨_, rfl⟩
            replace H : (spec_l1Tree.l0 kj1 l0 y566 0) = some r := by first | (rw [hy566]; with_reducible exact H) | (have H2_ := (Option.bind_some _ _).symm.trans H; rw [hy566]; with_reducible exact H2_) | (have H2_ := (Option.bind_some _ _).symm.trans H; with_reducible exact H2_) | with_reducible exact H | (rw [hy566]; exact H) | exact H
            have Ny566 := Aside0.mk hy566
            clear hy566
            have H' := Aside0.mk H
            clear H
            go_wp2_with (first | ((with_reducible refine gate_dst (N := 17) rfl ?_); (try (refine gate_guard (by rfl) ?_; dsimp only)); refine Kd.R_make (Kd.int .i64) _ 3 rfl (N := 17) rfl 32 _ _ rfl (l0.length : Int) rfl rfl Try.underlying32 (.int .i64 0) 8 info3 rfl (by decide) (by omega) 0 (ok := fun _ => True) (okp := fun _ => True) rfl (fun _ hk => hk) trivial (of_decide_eq_true (by first | (with_reducible assumption) | assumption)) (Nat.le_trans (Nat.mul_le_mul_right _ (of_decide_eq_true (by first | (with_reducible assumption) | assumption) : (l0.length : Int).toNat ≤ 35184372088832)) (by omega)) (Below.refl _ _) (Nat.le_refl _) ?_; intro v567 w7 ho8 hb hg_ hnew_; clear hg_ hnew_; (first | rw [← Ny566.out] at ho8 | (simp only [Int.reduceToNat] at ho8; rw [← Ny566.out] at ho8)); have n0_ := Aside0.mk (Kd.R_lower ho8 (below_size (by repeat (first | (with_reducible first | exact HB.out | apply below_alloc | apply pw_below_drewN | apply below_drew1) | exact HB.out)))); have n1_ := Aside0.mk (below_step (by repeat (first | (with_reducible first | exact HB.out | apply below_alloc | apply pw_below_drewN | apply below_drew1) | exact HB.out)) hb); clear HB; have HO568 := n0_; have HB := n1_; clear n0_ n1_; clear hb ho8))
            go_loopg [4] kj1 (fun kq v4 w' => ∃ (x3_2 : List Int) (x4_2 : Int), v4 = .int .i64 x4_2 ∧ Aside0 (spec_l1Tree.l0 kq l0 x3_2 x4_2 = some r) ∧ Aside0 (kq ≤ kj1) ∧ Aside0 (Kd.R (Kd.int .i64) 3 w' w.heap.size (fun _ => True) v567 x3_2) ∧ Aside0 (Below w.heap.size w w'))
            case atStart => exact ⟨(y566), (0), (by first | rfl | (simp; done) | (simp [*]; done)), H', ⟨Nat.le_refl _⟩, ⟨by (with_reducible repeat (first | apply Kd.R_alloc | apply Kd.R_drewN | apply Kd.R_drew)); exact HO568.out⟩, ⟨by repeat (first | (with_reducible first | exact HB.out | apply below_alloc | apply pw_below_drewN | apply below_drew1) | exact HB.out)⟩⟩
            case round =>
              clear H'
              try clear p2
              try clear c3
              try clear c3b0
              try clear c3b1
              try clear c4
              try clear c5
              try clear c5b0
              try clear c5b1
              try clear c6
              try clear c6b0
              try clear c6b1
              try clear p2
              obtain ⟨x3_2, x4_2, rfl, HA, HK2, HO_3, HB⟩ := hrel
              cases gk with
              | zero => exact absurd HA.out (by simp [spec_l1Tree.l0])
              | succ k2 =>
                have H := HA.out
                clear HA
                simp only [spec_l1Tree.l0] at H
                by_cases c9 : x4_2 < (l0.length : Int)
                · rw [if_pos c9] at H
                  have c9b0 : decide (x4_2 < (l0.length : Int)) = true := decide_eq_true c9
                  clear c9
                  have H' := Aside0.mk H
                  clear H
                  go_wp2
                  go_loopg [5] k2 (fun kq v5 w' => ∃ (x3_3 : List Int) (x5_3 : Int), v5 = .int .i64 x5_3 ∧ Aside0 (spec_l1Tree.l1 kq l0 x3_3 x4_2 x5_3 = some r) ∧ Aside0 (kq ≤ k2) ∧ Aside0 (Kd.R (Kd.int .i64) 3 w' w.heap.size (fun _ => True) v567 x3_3) ∧ Aside0 (Below w.heap.size w w'))
                  case atStart => exact ⟨(x3_2), (0), (by first | rfl | (simp; done) | (simp [*]; done)), H', ⟨Nat.le_refl _⟩, ⟨by (with_reducible repeat (first | apply Kd.R_alloc | apply Kd.R_drewN | apply Kd.R_drew)); exact HO_3.out⟩, ⟨by repeat (first | (with_reducible first | exact HB.out | apply below_alloc | apply pw_below_drewN | apply below_drew1) | exact HB.out)⟩⟩
                  case round =>
                    clear H'
                    try clear p2
                    try clear c3
                    try clear c3b0
                    try clear c3b1
                    try clear c4
                    try clear c5
                    try clear c5b0
                    try clear c5b1
                    try clear c6
                    try clear c6b0
                    try clear c6b1
                    try clear c9
                    try clear c9b0
                    try clear p2
                    obtain ⟨x3_3, x5_3, rfl, HA, HK3, HO_3, HB⟩ := hrel
                    cases gk with
                    | zero => exact absurd HA.out (by simp [spec_l1Tree.l1])
                    | succ k3 =>
                      have H := HA.out
                      clear HA
                      simp only [spec_l1Tree.l1] at H
                      by_cases c10 : 0 ≤ x4_2
                      · rw [if_pos c10] at H
                        have c10b0 : decide (0 ≤ x4_2) = true := decide_eq_true c10
                        clear c10
                        by_cases c11 : x4_2 < (l0.length : Int)
                        · rw [if_pos c11] at H
                          have c11b0 : decide (x4_2 < (l0.length : Int)) = true := decide_eq_true c11
                          clear c11
                          by_cases c12 : x5_3 < (((rd_T82 l0 x4_2).f1).length : Int)
                          · rw [if_pos c12] at H
                            have c12b0 : decide (x5_3 < (((rd_T82 l0 x4_2).f1).length : Int)) = true := decide_eq_true c12
                            clear c12
                            by_cases c13 : 0 ≤ x5_3
                            · rw [if_pos c13] at H
                              have c13b0 : decide (0 ≤ x5_3) = true := decide_eq_true c13
                              clear c13
                              replace H := Option.bind_eq_some_iff.mp H
                              obtain ⟨t572, A140, H⟩ := H
                              replace H : (if t572 = true then (if 0 ≤ (rd ((rd_T82 l0 x4_2).f1) x5_3) then (if (rd ((rd_T82 l0 x4_2).f1) x5_3) < (x3_3.length : Int) then (if (rd x3_3 (rd ((rd_T82 l0 x4_2).f1) x5_3)) > 0 then (some false) else (spec_l1Tree.l1 k3 l0 (x3_3.set ((rd ((rd_T82 l0 x4_2).f1) x5_3) : Int).toNat 1) x4_2 (wrap64 (x5_3 + 1)))) else (none)) else (none)) else (some false)) = some r := H
                              have A14 := Aside0.mk A140
                              clear A140
                              by_cases c15 : t572 = true
                              · subst c15
                                have H1 : (if 0 ≤ (rd ((rd_T82 l0 x4_2).f1) x5_3) then (if (rd ((rd_T82 l0 x4_2).f1) x5_3) < (x3_3.length : Int) then (if (rd x3_3 (rd ((rd_T82 l0 x4_2).f1) x5_3)) > 0 then (some false) else (spec_l1Tree.l1 k3 l0 (x3_3.set ((rd ((rd_T82 l0 x4_2).f1) x5_3) : Int).toNat 1) x4_2 (wrap64 (x5_3 + 1)))) else (none)) else (none)) = some r := by rw [if_pos rfl] at H; exact H
                                clear H
                                have H := H1
                                clear H1
                                by_cases c16 : 0 ≤ (rd ((rd_T82 l0 x4_2).f1) x5_3)
                                · rw [if_pos c16] at H
                                  have c16b0 : decide (0 ≤ (rd ((rd_T82 l0 x4_2).f1) x5_3)) = true := decide_eq_true c16
                                  clear c16
                                  by_cases c17 : (rd ((rd_T82 l0 x4_2).f1) x5_3) < (x3_3.length : Int)
                                  · rw [if_pos c17] at H
                                    have c17b0 : decide ((rd ((rd_T82 l0 x4_2).f1) x5_3) < (x3_3.length : Int)) = true := decide_eq_true c17
                                    clear c17
                                    by_cases c18 : (rd x3_3 (rd ((rd_T82 l0 x4_2).f1) x5_3)) > 0
                                    · rw [if_pos c18] at H
                                      have c18b0 : decide (0 < (rd x3_3 (rd ((rd_T82 l0 x4_2).f1) x5_3))) = true := decide_eq_true c18
                                      clear c18
                                      obtain rfl := Option.some.inj H
                                      have p569 : 0 ≤ (x4_2 : Int) := of_decide_eq_true (by first | (with_reducible assumption) | assumption)
                                      have q569 : x4_2 < (l0.length : Int) := of_decide_eq_true (by first | (with_reducible assumption) | assumption)
                                      obtain ⟨ad569, A569_1, c569_1, A569_2, c569_2, e569, hx569_0, hx569_1, hx569_2, hl569_1, hi569_1, hl569_2, hi569_2⟩ := at_T82 HR0.out x4_2 p569 q569
                                      cases e569
                                      replace hx569_0 := (HB.out.cell (World.block_lt_of_cell? w _ hx569_0)).trans hx569_0
                                      replace hx569_1 := (HB.out.cell (World.block_lt_of_cell? w _ hx569_1)).trans hx569_1
                                      replace hx569_2 := (HB.out.cell (World.block_lt_of_cell? w _ hx569_2)).trans hx569_2
                                      have HR569_1 := Aside0.mk hi569_1
                                      have HC569_1 := Aside0.mk hl569_1
                                      clear hi569_1 hl569_1
                                      have HR569_2 := Aside0.mk hi569_2
                                      have HC569_2 := Aside0.mk hl569_2
                                      clear hi569_2 hl569_2
                                      replace p569 := eq_true p569
                                      replace q569 := eq_true q569
                                      have p570 : 0 ≤ (x4_2 : Int) := of_decide_eq_true (by first | (with_reducible assumption) | assumption)
                                      have q570 : x4_2 < (l0.length : Int) := of_decide_eq_true (by first | (with_reducible assumption) | assumption)
                                      obtain ⟨ad570, A570_1, c570_1, A570_2, c570_2, e570, hx570_0, hx570_1, hx570_2, hl570_1, hi570_1, hl570_2, hi570_2⟩ := at_T82 HR0.out x4_2 p570 q570
                                      obtain rfl : ad569 = ad570 := (by injection e570)
                                      replace hx570_0 := (HB.out.cell (World.block_lt_of_cell? w _ hx570_0)).trans hx570_0
                                      replace hx570_1 := (HB.out.cell (World.block_lt_of_cell? w _ hx570_1)).trans hx570_1
                                      replace hx570_2 := (HB.out.cell (World.block_lt_of_cell? w _ hx570_2)).trans hx570_2
                                      have HR570_1 := Aside0.mk hi570_1
                                      have HC570_1 := Aside0.mk hl570_1
                                      clear hi570_1 hl570_1
                                      have HR570_2 := Aside0.mk hi570_2
                                      have HC570_2 := Aside0.mk hl570_2
                                      clear hi570_2 hl570_2
                                      replace p570 := eq_true p570
                                      replace q570 := eq_true q570
                                      have ea_ := Option.some.inj (hx569_1.symm.trans hx570_1)
                                      injection ea_ with ea_ en_ ec_
                                      subst ea_
                                      subst ec_
                                      clear en_
                                      have ea_ := Option.some.inj (hx569_2.symm.trans hx570_2)
                                      injection ea_ with ea_ en_ ec_
                                      subst ea_
                                      subst ec_
                                      clear en_
                                      have p571 : 0 ≤ (x5_3 : Int) := of_decide_eq_true (by first | (with_reducible assumption) | assumption)
                                      have q571 : x5_3 < (((rd_T82 l0 x4_2).f1).length : Int) := of_decide_eq_true (by first | (with_reducible assumption) | assumption)
                                      obtain ⟨ad571, e571, hx571_0⟩ := Kd.at_int HR570_1.out x5_3 p571 q571
                                      cases e571
                                      replace hx571_0 := (HB.out.cell (World.block_lt_of_cell? w _ hx571_0)).trans hx571_0
                                      replace p571 := eq_true p571
                                      replace q571 := eq_true q571
                                      go_wp2_with (first | ((with_reducible refine gate_callee (f := 44) rfl ?_); refine goesL_ (some 48) rfl rfl Try.func44 (by kernel_rfl) rfl #[.int .i64 (rd ((rd_T82 l0 x4_2).f1) x5_3), .int .i64 (wrap64 (x4_2 + 1)), .int .i64 (wrap64 ((l0.length : Int) - 1))] rfl (by (try simp only [List.map_toArray, List.map_cons, List.map_nil]); first | done | rfl | (simp only [List.length_drop, List.length_take]; rfl)) ?_; (with_reducible refine (spec_l6In.calls (rd ((rd_T82 l0 x4_2).f1) x5_3) (wrap64 (x4_2 + 1)) (wrap64 ((l0.length : Int) - 1)) true _ A14.out).mono ?_); rintro e w' ⟨rfl, ⟨nd, rfl⟩⟩; refine ⟨_, rfl, ?_⟩; obtain ⟨Ao19, co19, eo19⟩ := Kd.R_slice HO_3.out; subst eo19; have p573 : 0 ≤ ((rd ((rd_T82 l0 x4_2).f1) x5_3) : Int) := of_decide_eq_true (by first | (with_reducible assumption) | assumption); have q573 : (rd ((rd_T82 l0 x4_2).f1) x5_3) < (x3_3.length : Int) := of_decide_eq_true (by first | (with_reducible assumption) | assumption); obtain ⟨ad573, e573, hx573_0⟩ := Kd.at_int (Kd.R_reads' HO_3.out).2.2 (rd ((rd_T82 l0 x4_2).f1) x5_3) p573 q573; cases e573; replace p573 := eq_true p573; replace q573 := eq_true q573))
                                      go_ret
                                      exact ⟨by first | rfl | (simp [errW_none, errW_some] <;> rfl) | (simp [*, errW_none, errW_some] <;> rfl) | (simp only [pw_eq_nil]; rfl), by repeat (first | (with_reducible first | exact HB.out | apply below_alloc | apply pw_below_drewN | apply below_drew1) | exact HB.out)⟩
                                    · rw [if_neg c18] at H
                                      have c18b0 : decide (0 < (rd x3_3 (rd ((rd_T82 l0 x4_2).f1) x5_3))) = false := decide_eq_false c18
                                      clear c18
                                      obtain ⟨y574, hy574⟩ : ∃ y_ : List Int, y_ = (x3_3.set ((rd ((rd_T82 l0 x4_2).f1) x5_3) : Int).toNat 1) := ⟨_, rfl⟩
                                      replace H : (spec_l1Tree.l1 k3 l0 y574 x4_2 (wrap64 (x5_3 + 1))) = some r := by first | (rw [hy574]; with_reducible exact H) | (have H2_ := (Option.bind_some _ _).symm.trans H; rw [hy574]; with_reducible exact H2_) | (have H2_ := (Option.bind_some _ _).symm.trans H; with_reducible exact H2_) | with_reducible exact H | (rw [hy574]; exact H) | exact H
                                      have Ny574 := Aside0.mk hy574
                                      clear hy574
                                      have H' := Aside0.mk H
                                      clear H
                                      have p569 : 0 ≤ (x4_2 : Int) := of_decide_eq_true (by first | (with_reducible assumption) | assumption)
                                      have q569 : x4_2 < (l0.length : Int) := of_decide_eq_true (by first | (with_reducible assumption) | assumption)
                                      obtain ⟨ad569, A569_1, c569_1, A569_2, c569_2, e569, hx569_0, hx569_1, hx569_2, hl569_1, hi569_1, hl569_2, hi569_2⟩ := at_T82 HR0.out x4_2 p569 q569
                                      cases e569
                                      replace hx569_0 := (HB.out.cell (World.block_lt_of_cell? w _ hx569_0)).trans hx569_0
                                      replace hx569_1 := (HB.out.cell (World.block_lt_of_cell? w _ hx569_1)).trans hx569_1
                                      replace hx569_2 := (HB.out.cell (World.block_lt_of_cell? w _ hx569_2)).trans hx569_2
                                      have HR569_1 := Aside0.mk hi569_1
                                      have HC569_1 := Aside0.mk hl569_1
                                      clear hi569_1 hl569_1
                                      have HR569_2 := Aside0.mk hi569_2
                                      have HC569_2 := Aside0.mk hl569_2
                                      clear hi569_2 hl569_2
                                      replace p569 := eq_true p569
                                      replace q569 := eq_true q569
                                      have p570 : 0 ≤ (x4_2 : Int) := of_decide_eq_true (by first | (with_reducible assumption) | assumption)
                                      have q570 : x4_2 < (l0.length : Int) := of_decide_eq_true (by first | (with_reducible assumption) | assumption)
                                      obtain ⟨ad570, A570_1, c570_1, A570_2, c570_2, e570, hx570_0, hx570_1, hx570_2, hl570_1, hi570_1, hl570_2, hi570_2⟩ := at_T82 HR0.out x4_2 p570 q570
                                      obtain rfl : ad569 = ad570 := (by injection e570)
                                      replace hx570_0 := (HB.out.cell (World.block_lt_of_cell? w _ hx570_0)).trans hx570_0
                                      replace hx570_1 := (HB.out.cell (World.block_lt_of_cell? w _ hx570_1)).trans hx570_1
                                      replace hx570_2 := (HB.out.cell (World.block_lt_of_cell? w _ hx570_2)).trans hx570_2
                                      have HR570_1 := Aside0.mk hi570_1
                                      have HC570_1 := Aside0.mk hl570_1
                                      clear hi570_1 hl570_1
                                      have HR570_2 := Aside0.mk hi570_2
                                      have HC570_2 := Aside0.mk hl570_2
                                      clear hi570_2 hl570_2
                                      replace p570 := eq_true p570
                                      replace q570 := eq_true q570
                                      have ea_ := Option.some.inj (hx569_1.symm.trans hx570_1)
                                      injection ea_ with ea_ en_ ec_
                                      subst ea_
                                      subst ec_
                                      clear en_
                                      have ea_ := Option.some.inj (hx569_2.symm.trans hx570_2)
                                      injection ea_ with ea_ en_ ec_
                                      subst ea_
                                      subst ec_
                                      clear en_
                                      have p571 : 0 ≤ (x5_3 : Int) := of_decide_eq_true (by first | (with_reducible assumption) | assumption)
                                      have q571 : x5_3 < (((rd_T82 l0 x4_2).f1).length : Int) := of_decide_eq_true (by first | (with_reducible assumption) | assumption)
                                      obtain ⟨ad571, e571, hx571_0⟩ := Kd.at_int HR570_1.out x5_3 p571 q571
                                      cases e571
                                      replace hx571_0 := (HB.out.cell (World.block_lt_of_cell? w _ hx571_0)).trans hx571_0
                                      replace p571 := eq_true p571
                                      replace q571 := eq_true q571
                                      go_wp2_with (first | ((with_reducible refine gate_callee (f := 44) rfl ?_); refine goesL_ (some 48) rfl rfl Try.func44 (by kernel_rfl) rfl #[.int .i64 (rd ((rd_T82 l0 x4_2).f1) x5_3), .int .i64 (wrap64 (x4_2 + 1)), .int .i64 (wrap64 ((l0.length : Int) - 1))] rfl (by (try simp only [List.map_toArray, List.map_cons, List.map_nil]); first | done | rfl | (simp only [List.length_drop, List.length_take]; rfl)) ?_; (with_reducible refine (spec_l6In.calls (rd ((rd_T82 l0 x4_2).f1) x5_3) (wrap64 (x4_2 + 1)) (wrap64 ((l0.length : Int) - 1)) true _ A14.out).mono ?_); rintro e w' ⟨rfl, ⟨nd, rfl⟩⟩; refine ⟨_, rfl, ?_⟩; (try (rw [drewN_self wr]; generalize hq_ : World.drewN wr _ = wr; have n0_ : Aside0 (Kd.R (Kd.int .i64) 3 wr w.heap.size (fun _ => True) v567 x3_3) := ⟨by rw [← hq_]; exact (by (with_reducible repeat (first | apply Kd.R_alloc | apply Kd.R_drewN | apply Kd.R_drew)); exact HO_3.out)⟩; have n1_ : Aside0 (Below w.heap.size w wr) := ⟨by rw [← hq_]; exact (by repeat (first | (with_reducible first | exact HB.out | apply below_alloc | apply pw_below_drewN | apply below_drew1) | exact HB.out))⟩; clear HO_3 HB hq_; have HO_3 := n0_; have HB := n1_; clear n0_ n1_)); obtain ⟨Ao21, co21, eo21⟩ := Kd.R_slice HO_3.out; subst eo21; have p573 : 0 ≤ ((rd ((rd_T82 l0 x4_2).f1) x5_3) : Int) := of_decide_eq_true (by first | (with_reducible assumption) | assumption); have q573 : (rd ((rd_T82 l0 x4_2).f1) x5_3) < (x3_3.length : Int) := of_decide_eq_true (by first | (with_reducible assumption) | assumption); obtain ⟨ad573, e573, hx573_0⟩ := Kd.at_int (Kd.R_reads' HO_3.out).2.2 (rd ((rd_T82 l0 x4_2).f1) x5_3) p573 q573; cases e573; replace p573 := eq_true p573; replace q573 := eq_true q573; have p20 : 0 ≤ ((rd ((rd_T82 l0 x4_2).f1) x5_3) : Int) := of_decide_eq_true (by first | (with_reducible assumption) | assumption); have q20 : ((rd ((rd_T82 l0 x4_2).f1) x5_3) : Int) < ((x3_3.length : Int) : Int) := of_decide_eq_true (by first | (with_reducible assumption) | assumption); obtain ⟨go20, co20, eo20, gb20, gl20, cl20, HG20⟩ := Kd.R_form HO_3.out (by omega); (first | cases eo20 | (injection eo20 with ea_ en_ ec_; (first | subst ea_ | (injection ea_ with ea_; subst ea_)); subst ec_; clear en_)); have GB20 := Aside0.mk gb20; have GG20 := Aside0.mk HG20; clear gb20 gl20 HG20; (first | simp only [add_plain] at hx573_0 | skip); obtain ⟨hx20_0, hf20_0⟩ := Kd.R_celln 0 HO_3.out ((rd ((rd_T82 l0 x4_2).f1) x5_3) : Int) p20 q20; replace p20 := eq_true p20; replace q20 := eq_true q20; obtain ⟨hy22_, hz22_⟩ := Kd.R_celln 0 HO_3.out ((rd ((rd_T82 l0 x4_2).f1) x5_3) : Int) (of_decide_eq_true (by first | (with_reducible assumption) | assumption)) (of_decide_eq_true (by first | (with_reducible assumption) | assumption)); have HP22 := Kd.R_putg HO_3.out ((rd ((rd_T82 l0 x4_2).f1) x5_3) : Int) 1) | ((with_reducible refine gate_store (t := 3) (p := 59) rfl ?_); refine store_event (t := 3) (p := 59) (v := ?vo_w23) (w1 := (wr.setCell ⟨go20, ((rd ((rd_T82 l0 x4_2).f1) x5_3) : Int).toNat, none⟩ (.int .i64 1))) ?hg ?ho ?hn ?hr ?_; (case ho => rfl); (case hg => rfl); (case hn => rfl); (case hr => first | (go_simp; done) | (go_simp; rfl)); intro w23 hw; have hg : wr.grownBy w23 (some go20) := (by rw [hw]; exact HP22.2); have hp_ : Kd.R (Kd.int .i64) 3 w23 w.heap.size (fun _ => True) (.slice (some ⟨go20, 0, none⟩) x3_3.length co21) y574 := (by rw [hw, Ny574.out]; exact HP22.1); clear HP22; have n0_ := Aside0.mk (hp_); have n1_ := Aside0.mk ((by rw [hw]; exact below_set (HB.out) GB20.out : Below w.heap.size w w23)); clear HO_3; clear HB; have HO_3 := n0_; have HB := n1_; clear n0_ n1_; clear hg hw hp_))
                                      go_roundg k3
                                      case measure => have := HJ1.out; have := HK2.out; have := HK3.out; omega
                                      case rel => exact ⟨(y574), (wrap64 (x5_3 + 1)), (by first | rfl | (simp; done) | (simp [*]; done)), H', ⟨by have := HJ1.out; have := HK2.out; have := HK3.out; omega⟩, ⟨by (with_reducible repeat (first | apply Kd.R_alloc | apply Kd.R_drewN | apply Kd.R_drew)); exact HO_3.out⟩, ⟨by repeat (first | (with_reducible first | exact HB.out | apply below_alloc | apply pw_below_drewN | apply below_drew1) | exact HB.out)⟩⟩
                                  · rw [if_neg c17] at H
                                    exact absurd H (by simp)
                                · rw [if_neg c16] at H
                                  exact absurd H (by simp)
                              · replace c15 := Bool.eq_false_iff.mpr c15
                                subst c15
                                have H1 : (some false) = some r := by rw [if_neg (show ¬ (false = true) by decide)] at H; exact H
                                clear H
                                have H := H1
                                clear H1
                                obtain rfl := Option.some.inj H
                                have p569 : 0 ≤ (x4_2 : Int) := of_decide_eq_true (by first | (with_reducible assumption) | assumption)
                                have q569 : x4_2 < (l0.length : Int) := of_decide_eq_true (by first | (with_reducible assumption) | assumption)
                                obtain ⟨ad569, A569_1, c569_1, A569_2, c569_2, e569, hx569_0, hx569_1, hx569_2, hl569_1, hi569_1, hl569_2, hi569_2⟩ := at_T82 HR0.out x4_2 p569 q569
                                cases e569
                                replace hx569_0 := (HB.out.cell (World.block_lt_of_cell? w _ hx569_0)).trans hx569_0
                                replace hx569_1 := (HB.out.cell (World.block_lt_of_cell? w _ hx569_1)).trans hx569_1
                                replace hx569_2 := (HB.out.cell (World.block_lt_of_cell? w _ hx569_2)).trans hx569_2
                                have HR569_1 := Aside0.mk hi569_1
                                have HC569_1 := Aside0.mk hl569_1
                                clear hi569_1 hl569_1
                                have HR569_2 := Aside0.mk hi569_2
                                have HC569_2 := Aside0.mk hl569_2
                                clear hi569_2 hl569_2
                                replace p569 := eq_true p569
                                replace q569 := eq_true q569
                                have p570 : 0 ≤ (x4_2 : Int) := of_decide_eq_true (by first | (with_reducible assumption) | assumption)
                                have q570 : x4_2 < (l0.length : Int) := of_decide_eq_true (by first | (with_reducible assumption) | assumption)
                                obtain ⟨ad570, A570_1, c570_1, A570_2, c570_2, e570, hx570_0, hx570_1, hx570_2, hl570_1, hi570_1, hl570_2, hi570_2⟩ := at_T82 HR0.out x4_2 p570 q570
                                obtain rfl : ad569 = ad570 := (by injection e570)
                                replace hx570_0 := (HB.out.cell (World.block_lt_of_cell? w _ hx570_0)).trans hx570_0
                                replace hx570_1 := (HB.out.cell (World.block_lt_of_cell? w _ hx570_1)).trans hx570_1
                                replace hx570_2 := (HB.out.cell (World.block_lt_of_cell? w _ hx570_2)).trans hx570_2
                                have HR570_1 := Aside0.mk hi570_1
                                have HC570_1 := Aside0.mk hl570_1
                                clear hi570_1 hl570_1
                                have HR570_2 := Aside0.mk hi570_2
                                have HC570_2 := Aside0.mk hl570_2
                                clear hi570_2 hl570_2
                                replace p570 := eq_true p570
                                replace q570 := eq_true q570
                                have ea_ := Option.some.inj (hx569_1.symm.trans hx570_1)
                                injection ea_ with ea_ en_ ec_
                                subst ea_
                                subst ec_
                                clear en_
                                have ea_ := Option.some.inj (hx569_2.symm.trans hx570_2)
                                injection ea_ with ea_ en_ ec_
                                subst ea_
                                subst ec_
                                clear en_
                                have p571 : 0 ≤ (x5_3 : Int) := of_decide_eq_true (by first | (with_reducible assumption) | assumption)
                                have q571 : x5_3 < (((rd_T82 l0 x4_2).f1).length : Int) := of_decide_eq_true (by first | (with_reducible assumption) | assumption)
                                obtain ⟨ad571, e571, hx571_0⟩ := Kd.at_int HR570_1.out x5_3 p571 q571
                                cases e571
                                replace hx571_0 := (HB.out.cell (World.block_lt_of_cell? w _ hx571_0)).trans hx571_0
                                replace p571 := eq_true p571
                                replace q571 := eq_true q571
                                go_wp2_with (first | ((with_reducible refine gate_callee (f := 44) rfl ?_); refine goesL_ (some 48) rfl rfl Try.func44 (by kernel_rfl) rfl #[.int .i64 (rd ((rd_T82 l0 x4_2).f1) x5_3), .int .i64 (wrap64 (x4_2 + 1)), .int .i64 (wrap64 ((l0.length : Int) - 1))] rfl (by (try simp only [List.map_toArray, List.map_cons, List.map_nil]); first | done | rfl | (simp only [List.length_drop, List.length_take]; rfl)) ?_; (with_reducible refine (spec_l6In.calls (rd ((rd_T82 l0 x4_2).f1) x5_3) (wrap64 (x4_2 + 1)) (wrap64 ((l0.length : Int) - 1)) false _ A14.out).mono ?_); rintro e w' ⟨rfl, ⟨nd, rfl⟩⟩; refine ⟨_, rfl, ?_⟩))
                                go_ret
                                exact ⟨by first | rfl | (simp [errW_none, errW_some] <;> rfl) | (simp [*, errW_none, errW_some] <;> rfl) | (simp only [pw_eq_nil]; rfl), by repeat (first | (with_reducible first | exact HB.out | apply below_alloc | apply pw_below_drewN | apply below_drew1) | exact HB.out)⟩
                            · rw [if_neg c13] at H
                              exact absurd H (by simp)
                          · rw [if_neg c12] at H
                            have c12b0 : decide (x5_3 < (((rd_T82 l0 x4_2).f1).length : Int)) = false := decide_eq_false c12
                            clear c12
                            have H' := Aside0.mk H
                            clear H
                            have p569 : 0 ≤ (x4_2 : Int) := of_decide_eq_true (by first | (with_reducible assumption) | assumption)
                            have q569 : x4_2 < (l0.length : Int) := of_decide_eq_true (by first | (with_reducible assumption) | assumption)
                            obtain ⟨ad569, A569_1, c569_1, A569_2, c569_2, e569, hx569_0, hx569_1, hx569_2, hl569_1, hi569_1, hl569_2, hi569_2⟩ := at_T82 HR0.out x4_2 p569 q569
                            cases e569
                            replace hx569_0 := (HB.out.cell (World.block_lt_of_cell? w _ hx569_0)).trans hx569_0
                            replace hx569_1 := (HB.out.cell (World.block_lt_of_cell? w _ hx569_1)).trans hx569_1
                            replace hx569_2 := (HB.out.cell (World.block_lt_of_cell? w _ hx569_2)).trans hx569_2
                            have HR569_1 := Aside0.mk hi569_1
                            have HC569_1 := Aside0.mk hl569_1
                            clear hi569_1 hl569_1
                            have HR569_2 := Aside0.mk hi569_2
                            have HC569_2 := Aside0.mk hl569_2
                            clear hi569_2 hl569_2
                            replace p569 := eq_true p569
                            replace q569 := eq_true q569
                            go_wp2
                            go_roundg k3
                            case measure => have := HJ1.out; have := HK2.out; have := HK3.out; omega
                            case rel => exact ⟨(x3_3), (wrap64 (x4_2 + 1)), (by first | rfl | (simp; done) | (simp [*]; done)), H', ⟨by have := HJ1.out; have := HK2.out; have := HK3.out; omega⟩, ⟨by (with_reducible repeat (first | apply Kd.R_alloc | apply Kd.R_drewN | apply Kd.R_drew)); exact HO_3.out⟩, ⟨by repeat (first | (with_reducible first | exact HB.out | apply below_alloc | apply pw_below_drewN | apply below_drew1) | exact HB.out)⟩⟩
                        · rw [if_neg c11] at H
                          exact absurd H (by simp)
                      · rw [if_neg c10] at H
                        exact absurd H (by simp)
                · rw [if_neg c9] at H
                  have c9b0 : decide (x4_2 < (l0.length : Int)) = false := decide_eq_false c9
                  clear c9
                  obtain rfl := Option.some.inj H
                  go_wp2
                  go_ret
                  exact ⟨by first | rfl | (simp [errW_none, errW_some] <;> rfl) | (simp [*, errW_none, errW_some] <;> rfl) | (simp only [pw_eq_nil]; rfl), by repeat (first | (with_reducible first | exact HB.out | apply below_alloc | apply pw_below_drewN | apply below_drew1) | exact HB.out)⟩
          · rw [if_neg c6] at H
            exact absurd H (by simp)
        · rw [if_neg c5] at H
          exact absurd H (by simp)

end Go.Proofs.Ytaacknjgfipejaa.P
