-- Laid by a program for this claim (the printer, turned): Lean checks it.
import Derived.Test.YtcdmkjcaipohiaaPx0
import Derived.Test.YtcdmkjcaipohiaaPx18
namespace Go.Proofs.Ytcdmkjcaipohiaa.P
open Go.RowKit Go.Proofs.YtcdmkjcaipohiaaW.PrintWords Go.Proofs.YtcdmkjcaipohiaaW.PrintLast Go.Proofs.YtcdmkjcaipohiaaW.PrintMore
attribute [local go_sem] max2_int min2_int max_two min_two max_three min_three max_four min_four   -- for this text's walks alone
set_option linter.unusedVariables false
set_option linter.unusedSimpArgs false

/-! ### laws_markProdS: function 19 (told by hand) -/
def laws_markProdS.go (k : Nat) : List (S41) → Int → Option (Int × List (S41))
  | [], a => some (a, [])
  | x :: l, a => (laws_markSymS.f k x.f1 (wrap64 (a + 1))).bind fun b => (laws_markProdS.go k l b.1).bind fun t => some (t.1, (⟨a, b.2⟩ : S41) :: t.2)
def laws_markProdS.f (k : Nat) (l0 : List (S41)) (a1 : Int) : Option (Int × List (S41)) := laws_markProdS.go k l0 a1
theorem laws_markProdS.mono_go : ∀ (l : List (S41)) (a : Int) (k : Nat), LeO (laws_markProdS.go k l a) (laws_markProdS.go (k + 1) l a)
  | [], _, _ => LeO.refl _
  | _ :: l, _, k => LeO.bind (laws_markSymS.mono _ _ k) (fun b => LeO.bind (laws_markProdS.mono_go l b.1 k) (fun _ => LeO.refl _))
theorem laws_markProdS.mono : ∀ a0 a1 k, LeO (laws_markProdS.f k a0 a1) (laws_markProdS.f (k + 1) a0 a1) := fun a0 a1 k => laws_markProdS.mono_go a0 a1 k
set_option maxHeartbeats 4000000 in
set_option maxRecDepth 100000 in
theorem laws_markProdS.calls (k : Nat) (P0_ : Nat → Prop) (u9000_ : Value) (l0 : List (S41)) (a1 : Int) (r1 : Int) (r2 : List (S41)) (w0 w : World) (hB : Below w0.heap.size w0 w) (ho0 : Kd.S k41 41 w w0.heap.size P0_ u9000_ l0) (h : laws_markProdS.f k l0 a1 = some (r1, r2)) :
    Calls Try.prog 19 #[u9000_, .int .i64 a1] w fun e w' => e = .returned (.int .i64 r1) ∧ Kd.S k41 41 w' w0.heap.size (fun k_ => (P0_ k_ ∨ w.heap.size ≤ k_)) u9000_ r2 ∧ Below w0.heap.size w0 w' ∧ Kept w w' (fun k_ => P0_ k_) := by
  obtain ⟨A, c, rfl⟩ := Kd.S_slice ho0
  have hm : l0.length ≤ 9223372036854775807 := Kd.C_max (Kd.S_reads' ho0).2.2
  have HS := Aside0.mk (Kd.S_mono ho0 (fun k_ hk => (Or.inl hk : P0_ k_ ∨ w.heap.size ≤ k_)))
  have HB := Aside0.mk hB
  have HW := Aside0.mk hB.size
  have GO : Aside0 (∃ t, laws_markProdS.go k (l0.drop 0) a1 = some (r1, t) ∧ r2 = l0.take 0 ++ t) := ⟨r2, h, rfl⟩
  clear ho0 hB h
  go_enter Try.func19, Try.ntmps19
  go_wp2
  go_loopg [1, 5] l0.length (fun gg v1 v5 wr => ∃ (i : Nat) (a : Int) (xs : List (S41)), i ≤ l0.length ∧ l0.length - i ≤ gg ∧ v1 = .int .i64 a ∧ v5 = .int .i64 (i : Int) ∧ Aside0 (xs.length = l0.length) ∧ Aside0 (∃ t, laws_markProdS.go k (xs.drop i) a = some (r1, t) ∧ r2 = xs.take i ++ t) ∧ Aside0 (Kd.S k41 41 wr w0.heap.size (fun k_ => (P0_ k_ ∨ w.heap.size ≤ k_)) (.slice A l0.length c) xs) ∧ Aside0 (Below w0.heap.size w0 wr) ∧ Aside0 (Kept w wr P0_))
  case atStart => exact ⟨0, a1, l0, Nat.zero_le _, by omega, rfl, rfl, ⟨rfl⟩, GO, HS, HB, ⟨Kept.refl _ _⟩⟩
  case round =>
    clear GO HS HB
    obtain ⟨i, a, xs, hi, hg, rfl, rfl, HL, GO, HS, HB, HK⟩ := hrel
    by_cases hlt : i < l0.length
    · have hltz : (i : Int) < (l0.length : Int) := by omega
      have hl : i < xs.length := by rw [HL.out]; exact hlt
      have hpos : 0 < xs.length := by omega
      obtain ⟨g, cap, hv, hbg, hgl, _⟩ := Kd.S_form HS.out hpos
      injection hv with hA hn hc
      subst hA
      clear hn hc
      obtain ⟨t, hgo, hr2⟩ := GO.out
      rw [List.drop_eq_getElem_cons hl] at hgo
      simp only [laws_markProdS.go] at hgo
      obtain ⟨⟨b1, b2⟩, hsym, hgo⟩ := Option.bind_eq_some_iff.1 hgo
      obtain ⟨⟨t1, t2⟩, hgo2, ht⟩ := Option.bind_eq_some_iff.1 hgo
      clear hgo
      injection ht with ht
      injection ht with e1 e2
      simp only at e1 e2 hgo2 hsym
      subst e1
      subst e2
      have hx : xs.getD ((i : Int)).toNat z41 = xs[i] := by rw [Int.toNat_natCast, List.getD_eq_getElem?_getD, List.getElem?_eq_getElem hl]; rfl
      obtain ⟨oki, cs, hcl, hM, hcc, hfr, hoki, hH⟩ := Kd.S_elem HS.out z41 (i : Int) (by omega) hltz
      rw [hx] at hM
      obtain ⟨v1, rfl, hR⟩ := k41_openM hM
      clear hM hcl
      have hc0 := hcc 0 _ rfl
      have hc1 := hcc 1 _ rfl
      simp only [Int.toNat_natCast, show k41.sz = 2 from rfl, Nat.add_zero] at hc0 hc1
      have hf0 := hfr 0
      simp only [Int.toNat_natCast, show k41.sz = 2 from rfl, Nat.add_zero] at hf0
      clear hcc hfr
      have hltx : (0 : Int) ≤ (i : Int) := by omega
      have HSYM := Aside0.mk hsym
      have HR := Aside0.mk hR
      have HH := Aside0.mk hH
      have HOKI := Aside0.mk hoki
      have HGO := Aside0.mk hgo2
      have HR2 := Aside0.mk hr2
      have HGL := Aside0.mk hgl
      have HBG := Aside0.mk hbg
      clear hsym hR hH hoki hgo2 hr2 hgl hbg GO hx
      have HWR := Aside0.mk (HK.out.1)
      have HGOK := Aside0.mk ((Kd.S_R HS.out).1 g rfl)
      clear HS
      have HSZ := Aside0.mk (show (wr.setCell ⟨g, i * 2, none⟩ (.int .i64 a)).heap.size = wr.heap.size by simp [World.setCell])
      go_wp2_with (go_at_call 29; ((with_reducible refine (laws_markSymS.calls k oki v1 xs[i].f1 (wrap64 (a + 1)) b1 b2 w0 (wr.setCell ⟨g, i * 2, none⟩ (.int .i64 a)) ?side1 ?side2 HSYM.out).mono ?_); (case side1 => exact below_set HB.out HBG.out); (case side2 => exact Kd.R_far HR.out (fun k_ hk_ => (HOKI.out k_ hk_).2) _); rintro e w' ⟨rfl, hs, hb, hk⟩; have HS2 := Aside0.mk hs; have HB2 := Aside0.mk hb; have HK2 := Aside0.mk hk; clear hs hb hk))
      go_roundg (l0.length - (i + 1))
      case measure => omega
      case rel =>
        have hH1 : Kd.H k41 41 (wr.setCell ⟨g, i * 2, none⟩ (.int .i64 a)) w0.heap.size (fun k_ => (P0_ k_ ∨ w.heap.size ≤ k_)) (.slice (some ⟨g, 0, none⟩) l0.length c) xs (i : Int) oki [.int .i64 a, v1] :=
          (Kd.H_seg HH.out (by omega) hltz (seg := [.int .i64 a]) (j := 0) (show 0 + 1 ≤ 2 from by decide) (by intro q hq; rw [List.mem_singleton.1 hq]; rfl)).1
        have hH2 := Kd.H_kept (Kd.H_widen hH1) HK2.out (fun k_ _ hn hs => hn (Or.inl hs))
        have hM2 := k41_mkM w' w0.heap.size _ (⟨a, b2⟩ : S41) HS2.out
        have hS2 := Kd.H_back hH2 hM2 (fun k_ hk_ => hk_.imp id (fun h => ⟨Or.inr (by have := HSZ.out; have := HWR.out; omega), h⟩))
        rw [Int.toNat_natCast] at hS2
        refine ⟨i + 1, b1, xs.set i ⟨a, b2⟩, by omega, Nat.le_refl _, rfl, by go_num, ⟨by rw [List.length_set]; exact HL.out⟩, ⟨t2, ?_, ?_⟩, ⟨hS2⟩, HB2, ⟨(HK.out.setCell HGOK.out _).then_ HK2.out (fun k_ hk_ => (HOKI.out k_ hk_).1)⟩⟩
        · rw [List.drop_set, if_pos (by omega)]
          exact HGO.out
        · rw [HR2.out, List.take_succ_eq_append_getElem (by rw [List.length_set]; omega), List.take_set, List.getElem_set_self, List.set_eq_of_length_le (by rw [List.length_take]; omega)]
          simp
    · have : i = l0.length := by omega
      have hltz : ¬ (i : Int) < (l0.length : Int) := by omega
      obtain ⟨t, hgo, hr2⟩ := GO.out
      rw [List.drop_eq_nil_of_le (by rw [HL.out]; omega)] at hgo
      simp only [laws_markProdS.go] at hgo
      injection hgo with hgo
      injection hgo with e1 e2
      subst e1
      subst e2
      rw [List.append_nil, List.take_of_length_le (by rw [HL.out]; omega)] at hr2
      subst hr2
      subst this
      clear GO
      go_wp2
      go_ret
      exact ⟨rfl, HS.out, HB.out, HK.out⟩

/-! ### laws_markCfg: function 9 (told by hand) -/
def laws_markCfg.f (k : Nat) (a0_0 : Int) (l0_1 : List (S41)) (a1 : Int) : Option (Int × List (S41)) := laws_markProdS.f k l0_1 a1
theorem laws_markCfg.mono : ∀ a0 a1 a2 k, LeO (laws_markCfg.f k a0 a1 a2) (laws_markCfg.f (k + 1) a0 a1 a2) := fun a0 a1 a2 k => laws_markProdS.mono a1 a2 k
set_option maxHeartbeats 4000000 in
set_option maxRecDepth 100000 in
theorem laws_markCfg.calls (k : Nat) (P0_1_ : Nat → Prop) (u9001_ : Value) (a0_0 : Int) (l0_1 : List (S41)) (a1 : Int) (r1 : Int) (r2 : List (S41)) (w0 w : World) (hB : Below w0.heap.size w0 w) (ho0_1 : Kd.S k41 41 w w0.heap.size P0_1_ u9001_ l0_1) (h : laws_markCfg.f k a0_0 l0_1 a1 = some (r1, r2)) :
    Calls Try.prog 9 #[.agg #[.int .i64 a0_0, u9001_], .int .i64 a1] w fun e w' => e = .returned (.int .i64 r1) ∧ Kd.S k41 41 w' w0.heap.size (fun k_ => (P0_1_ k_ ∨ w.heap.size ≤ k_)) u9001_ r2 ∧ Below w0.heap.size w0 w' ∧ Kept w w' (fun k_ => P0_1_ k_) := by
  obtain ⟨A, c, rfl⟩ := Kd.S_slice ho0_1
  have HS := Aside0.mk ho0_1
  have HB := Aside0.mk hB
  have huC := Try.underlying28
  clear ho0_1 hB
  have H' := Aside0.mk (show laws_markProdS.f k l0_1 a1 = some (r1, r2) from h)
  clear h
  go_enter Try.func9, Try.ntmps9
  go_wp2_with (go_at_call 19; (with_reducible refine (laws_markProdS.calls k P0_1_ _ l0_1 a1 r1 r2 w0 _ ?side1 ?side2 H'.out).mono ?_); (case side1 => exact below_alloc HB.out _); (case side2 => exact Kd.S_alloc HS.out _); rintro e w' ⟨rfl, hs, hb, hk⟩)
  go_ret
  refine ⟨rfl, Kd.S_mono hs (fun k_ h_ => h_.imp_right (fun h2 => ?_)), hb, ?_⟩
  · have : w.heap.size ≤ (w.alloc (Obj.cells #[Value.int IntKind.i64 a0_0, Value.slice A l0_1.length c] 28)).heap.size := by simp
    omega
  · exact (Kept.of_below (below_alloc (Below.refl _ _) _) _).then_ hk (fun _ h_ => Or.inl h_)

/-! ### laws_heldSymS: function 30 -/
def laws_heldSymS.l0 : Nat → List (S44) → Int → Int → Option (Int)
  | 0, _, _, _ => none
  | k + 1, x0, x1, x5 => if x5 < (x0.length : Int) then (if 0 ≤ x5 then (if ((rd_T44 x0 x5).f0) = x1 then (if ((rd_T44 x0 x5).f1) = (wrap64 (x1 + 1)) then (if ((rd_T44 x0 x5).f2) = (wrap64 ((wrap64 (x1 + 1)) + 1)) then (laws_heldSymS.l0 k x0 (wrap64 ((wrap64 ((wrap64 (x1 + 1)) + 1)) + 1)) (wrap64 (x5 + 1))) else (some (-1))) else (some (-1))) else (some (-1))) else (none)) else (some x1)
def laws_heldSymS.f (k : Nat) (l0 : List (S44)) (a1 : Int) : Option (Int) := laws_heldSymS.l0 k l0 a1 0
theorem laws_heldSymS.mono_l : ∀ k, (∀ y0 y1 y2, LeO (laws_heldSymS.l0 k y0 y1 y2) (laws_heldSymS.l0 (k + 1) y0 y1 y2))
  | 0 => fun _ _ _ r h => by simp [laws_heldSymS.l0] at h
  | k + 1 => by
    have ih0 := laws_heldSymS.mono_l k
    · intro y0 y1 y2
      unfold laws_heldSymS.l0
      repeat' first
      | (with_reducible exact ih0 _ _ _)
      | (with_reducible exact LeO.refl _)
      | (with_reducible exact LeO.none _)
      | (with_reducible refine LeO.ite ?_ ?_)
      | (with_reducible refine LeO.bind ?_ (fun _ => ?_))
      | exact ih0 _ _ _
      | exact LeO.none _
      | refine LeO.ite ?_ ?_
      | refine LeO.bind ?_ (fun _ => ?_)
theorem laws_heldSymS.mono : ∀ a0 a1 k, LeO (laws_heldSymS.f k a0 a1) (laws_heldSymS.f (k + 1) a0 a1) := by
  intro a0 a1 k
  have ih0 := laws_heldSymS.mono_l k
  unfold laws_heldSymS.f
  repeat' first
      | (with_reducible exact ih0 _ _ _)
      | (with_reducible exact LeO.refl _)
      | (with_reducible exact LeO.none _)
      | (with_reducible refine LeO.ite ?_ ?_)
      | (with_reducible refine LeO.bind ?_ (fun _ => ?_))
      | exact ih0 _ _ _
      | exact LeO.none _
      | refine LeO.ite ?_ ?_
      | refine LeO.bind ?_ (fun _ => ?_)
set_option maxHeartbeats 8000000 in
set_option maxRecDepth 100000 in
theorem laws_heldSymS.calls (k : Nat) (A0 : Option Addr) (c0 : Nat) (l0 : List (S44)) (a1 : Int) (r : Int) (w : World) (hr0 : Kd.C k44 w A0 l0.length l0) (hc0 : l0.length ≤ c0) (h : laws_heldSymS.f k l0 a1 = some r) :
    Calls Try.prog 30 #[.slice A0 l0.length c0, .int .i64 a1] w fun e w' => e = .returned (.int .i64 r) ∧ Drawn0 w w' := by
  have HR0 := Aside0.mk hr0
  have HC0 := Aside0.mk hc0
  clear hr0 hc0
  have H : (laws_heldSymS.l0 k l0 a1 0) = some r := h
  clear h
  have H' := Aside0.mk H
  clear H
  go_enter Try.func30, Try.ntmps30
  go_wp2
  go_loopg [1, 5] k (fun kq v1 v5 w' => ∃ (x1_1 : Int) (x5_1 : Int), v1 = .int .i64 x1_1 ∧ v5 = .int .i64 x5_1 ∧ Aside0 (laws_heldSymS.l0 kq l0 x1_1 x5_1 = some r) ∧ Aside0 (kq ≤ k) ∧ Drawn0 w w')
  case atStart => exact ⟨(a1), (0), (by first | rfl | (simp; done) | (simp [*]; done)), (by first | rfl | (simp; done) | (simp [*]; done)), H', ⟨Nat.le_refl _⟩, by repeat (first | exact Drawn0.refl _ | apply Drawn0.step)⟩
  case round =>
    clear H'
    try clear p2
    obtain ⟨x1_1, x5_1, rfl, rfl, HA, HK1, ⟨m1, rfl⟩⟩ := hrel
    cases gk with
    | zero => exact absurd HA.out (by simp [laws_heldSymS.l0])
    | succ k1 =>
      have H := HA.out
      clear HA
      simp only [laws_heldSymS.l0] at H
      by_cases c3 : x5_1 < (l0.length : Int)
      · rw [if_pos c3] at H
        have c3b0 : decide (x5_1 < (l0.length : Int)) = true := decide_eq_true c3
        clear c3
        by_cases c4 : 0 ≤ x5_1
        · rw [if_pos c4] at H
          have c4b0 : decide (0 ≤ x5_1) = true := decide_eq_true c4
          clear c4
          by_cases c5 : ((rd_T44 l0 x5_1).f0) = x1_1
          · rw [if_pos c5] at H
            have c5b0 : (((rd_T44 l0 x5_1).f0) == x1_1) = true := beq_iff_eq.mpr c5
            have c5b1 : (((rd_T44 l0 x5_1).f0) != x1_1) = false := bne_eq_false_iff_eq.mpr c5
            clear c5
            by_cases c6 : ((rd_T44 l0 x5_1).f1) = (wrap64 (x1_1 + 1))
            · rw [if_pos c6] at H
              have c6b0 : (((rd_T44 l0 x5_1).f1) == (wrap64 (x1_1 + 1))) = true := beq_iff_eq.mpr c6
              have c6b1 : (((rd_T44 l0 x5_1).f1) != (wrap64 (x1_1 + 1))) = false := bne_eq_false_iff_eq.mpr c6
              clear c6
              by_cases c7 : ((rd_T44 l0 x5_1).f2) = (wrap64 ((wrap64 (x1_1 + 1)) + 1))
              · rw [if_pos c7] at H
                have c7b0 : (((rd_T44 l0 x5_1).f2) == (wrap64 ((wrap64 (x1_1 + 1)) + 1))) = true := beq_iff_eq.mpr c7
                have c7b1 : (((rd_T44 l0 x5_1).f2) != (wrap64 ((wrap64 (x1_1 + 1)) + 1))) = false := bne_eq_false_iff_eq.mpr c7
                clear c7
                have H' := Aside0.mk H
                clear H
                have p292 : 0 ≤ (x5_1 : Int) := of_decide_eq_true (by first | (with_reducible assumption) | assumption)
                have q292 : x5_1 < (l0.length : Int) := of_decide_eq_true (by first | (with_reducible assumption) | assumption)
                obtain ⟨ad292, e292, hx292_0, hx292_1, hx292_2⟩ := at_T44 HR0.out x5_1 p292 q292
                cases e292
                replace p292 := eq_true p292
                replace q292 := eq_true q292
                have p293 : 0 ≤ (x5_1 : Int) := of_decide_eq_true (by first | (with_reducible assumption) | assumption)
                have q293 : x5_1 < (l0.length : Int) := of_decide_eq_true (by first | (with_reducible assumption) | assumption)
                obtain ⟨ad293, e293, hx293_0, hx293_1, hx293_2⟩ := at_T44 HR0.out x5_1 p293 q293
                obtain rfl : ad292 = ad293 := (by injection e293)
                replace p293 := eq_true p293
                replace q293 := eq_true q293
                have p294 : 0 ≤ (x5_1 : Int) := of_decide_eq_true (by first | (with_reducible assumption) | assumption)
                have q294 : x5_1 < (l0.length : Int) := of_decide_eq_true (by first | (with_reducible assumption) | assumption)
                obtain ⟨ad294, e294, hx294_0, hx294_1, hx294_2⟩ := at_T44 HR0.out x5_1 p294 q294
                obtain rfl : ad292 = ad294 := (by injection e294)
                replace p294 := eq_true p294
                replace q294 := eq_true q294
                go_wp2
                go_roundg k1
                case measure => have := HK1.out; omega
                case rel => exact ⟨(wrap64 ((wrap64 ((wrap64 (x1_1 + 1)) + 1)) + 1)), (wrap64 (x5_1 + 1)), (by first | rfl | (simp; done) | (simp [*]; done)), (by first | rfl | (simp; done) | (simp [*]; done)), H', ⟨by have := HK1.out; omega⟩, by repeat (first | exact Drawn0.refl _ | apply Drawn0.step)⟩
              · rw [if_neg c7] at H
                have c7b0 : (((rd_T44 l0 x5_1).f2) == (wrap64 ((wrap64 (x1_1 + 1)) + 1))) = false := beq_eq_false_iff_ne.mpr c7
                have c7b1 : (((rd_T44 l0 x5_1).f2) != (wrap64 ((wrap64 (x1_1 + 1)) + 1))) = true := bne_iff_ne.mpr c7
                obtain rfl := Option.some.inj H
                have p292 : 0 ≤ (x5_1 : Int) := of_decide_eq_true (by first | (with_reducible assumption) | assumption)
                have q292 : x5_1 < (l0.length : Int) := of_decide_eq_true (by first | (with_reducible assumption) | assumption)
                obtain ⟨ad292, e292, hx292_0, hx292_1, hx292_2⟩ := at_T44 HR0.out x5_1 p292 q292
                cases e292
                replace p292 := eq_true p292
                replace q292 := eq_true q292
                have p293 : 0 ≤ (x5_1 : Int) := of_decide_eq_true (by first | (with_reducible assumption) | assumption)
                have q293 : x5_1 < (l0.length : Int) := of_decide_eq_true (by first | (with_reducible assumption) | assumption)
                obtain ⟨ad293, e293, hx293_0, hx293_1, hx293_2⟩ := at_T44 HR0.out x5_1 p293 q293
                obtain rfl : ad292 = ad293 := (by injection e293)
                replace p293 := eq_true p293
                replace q293 := eq_true q293
                have p294 : 0 ≤ (x5_1 : Int) := of_decide_eq_true (by first | (with_reducible assumption) | assumption)
                have q294 : x5_1 < (l0.length : Int) := of_decide_eq_true (by first | (with_reducible assumption) | assumption)
                obtain ⟨ad294, e294, hx294_0, hx294_1, hx294_2⟩ := at_T44 HR0.out x5_1 p294 q294
                obtain rfl : ad292 = ad294 := (by injection e294)
                replace p294 := eq_true p294
                replace q294 := eq_true q294
                go_wp2
                go_ret
                exact ⟨by first | rfl | (simp; done) | (simp [*]; done), by repeat (first | exact Drawn0.refl _ | apply Drawn0.step)⟩
            · rw [if_neg c6] at H
              have c6b0 : (((rd_T44 l0 x5_1).f1) == (wrap64 (x1_1 + 1))) = false := beq_eq_false_iff_ne.mpr c6
              have c6b1 : (((rd_T44 l0 x5_1).f1) != (wrap64 (x1_1 + 1))) = true := bne_iff_ne.mpr c6
              obtain rfl := Option.some.inj H
              have p292 : 0 ≤ (x5_1 : Int) := of_decide_eq_true (by first | (with_reducible assumption) | assumption)
              have q292 : x5_1 < (l0.length : Int) := of_decide_eq_true (by first | (with_reducible assumption) | assumption)
              obtain ⟨ad292, e292, hx292_0, hx292_1, hx292_2⟩ := at_T44 HR0.out x5_1 p292 q292
              cases e292
              replace p292 := eq_true p292
              replace q292 := eq_true q292
              have p293 : 0 ≤ (x5_1 : Int) := of_decide_eq_true (by first | (with_reducible assumption) | assumption)
              have q293 : x5_1 < (l0.length : Int) := of_decide_eq_true (by first | (with_reducible assumption) | assumption)
              obtain ⟨ad293, e293, hx293_0, hx293_1, hx293_2⟩ := at_T44 HR0.out x5_1 p293 q293
              obtain rfl : ad292 = ad293 := (by injection e293)
              replace p293 := eq_true p293
              replace q293 := eq_true q293
              go_wp2
              go_ret
              exact ⟨by first | rfl | (simp; done) | (simp [*]; done), by repeat (first | exact Drawn0.refl _ | apply Drawn0.step)⟩
          · rw [if_neg c5] at H
            have c5b0 : (((rd_T44 l0 x5_1).f0) == x1_1) = false := beq_eq_false_iff_ne.mpr c5
            have c5b1 : (((rd_T44 l0 x5_1).f0) != x1_1) = true := bne_iff_ne.mpr c5
            obtain rfl := Option.some.inj H
            have p292 : 0 ≤ (x5_1 : Int) := of_decide_eq_true (by first | (with_reducible assumption) | assumption)
            have q292 : x5_1 < (l0.length : Int) := of_decide_eq_true (by first | (with_reducible assumption) | assumption)
            obtain ⟨ad292, e292, hx292_0, hx292_1, hx292_2⟩ := at_T44 HR0.out x5_1 p292 q292
            cases e292
            replace p292 := eq_true p292
            replace q292 := eq_true q292
            go_wp2
            go_ret
            exact ⟨by first | rfl | (simp; done) | (simp [*]; done), by repeat (first | exact Drawn0.refl _ | apply Drawn0.step)⟩
        · rw [if_neg c4] at H
          exact absurd H (by simp)
      · rw [if_neg c3] at H
        have c3b0 : decide (x5_1 < (l0.length : Int)) = false := decide_eq_false c3
        clear c3
        obtain rfl := Option.some.inj H
        go_wp2
        go_ret
        exact ⟨by first | rfl | (simp; done) | (simp [*]; done), by repeat (first | exact Drawn0.refl _ | apply Drawn0.step)⟩

end Go.Proofs.Ytcdmkjcaipohiaa.P
