-- Laid by a program for this claim (the printer, turned): Lean checks it.
import Derived.Test.YtaacknjgfipejaaPx0
namespace Go.Proofs.Ytaacknjgfipejaa.P
open Go.RowKit Go.Proofs.YtaacknjgfipejaaW.PrintWords Go.Proofs.YtaacknjgfipejaaW.PrintLast Go.Proofs.YtaacknjgfipejaaW.PrintMore
attribute [local go_sem] max2_int min2_int max_two min_two max_three min_three max_four min_four   -- for this text's walks alone
set_option linter.unusedVariables false
set_option linter.unusedSimpArgs false

/-! ### spec_l1Kid: function 53 -/
def spec_l1Kid.l0 : Nat → List (S82) → Int → Int → Int → Option (Int)
  | 0, _, _, _, _ => none
  | k + 1, x0, x1, x2, x7 => if 0 ≤ x1 then (if x1 < (x0.length : Int) then (if x7 < (((rd_T82 x0 x1).f1).length : Int) then (if 0 ≤ x7 then (if 0 ≤ (rd ((rd_T82 x0 x1).f1) x7) then (if (rd ((rd_T82 x0 x1).f1) x7) < (x0.length : Int) then (if ((rd_T82 x0 (rd ((rd_T82 x0 x1).f1) x7)).f0) = x2 then (some (rd ((rd_T82 x0 x1).f1) x7)) else (spec_l1Kid.l0 k x0 x1 x2 (wrap64 (x7 + 1)))) else (none)) else (none)) else (none)) else (some (-1))) else (none)) else (none)
def spec_l1Kid.f (k : Nat) (l0 : List (S82)) (a1 : Int) (a2 : Int) : Option (Int) := spec_l1Kid.l0 k l0 a1 a2 0
theorem spec_l1Kid.mono_l : ∀ k, (∀ y0 y1 y2 y3, LeO (spec_l1Kid.l0 k y0 y1 y2 y3) (spec_l1Kid.l0 (k + 1) y0 y1 y2 y3))
  | 0 => fun _ _ _ _ r h => by simp [spec_l1Kid.l0] at h
  | k + 1 => by
    have ih0 := spec_l1Kid.mono_l k
    · intro y0 y1 y2 y3
      unfold spec_l1Kid.l0
      repeat' first
      | (with_reducible exact ih0 _ _ _ _)
      | (with_reducible exact LeO.refl _)
      | (with_reducible exact LeO.none _)
      | (with_reducible refine LeO.ite ?_ ?_)
      | (with_reducible refine LeO.bind ?_ (fun _ => ?_))
      | exact ih0 _ _ _ _
      | exact LeO.none _
      | refine LeO.ite ?_ ?_
      | refine LeO.bind ?_ (fun _ => ?_)
theorem spec_l1Kid.mono : ∀ a0 a1 a2 k, LeO (spec_l1Kid.f k a0 a1 a2) (spec_l1Kid.f (k + 1) a0 a1 a2) := by
  intro a0 a1 a2 k
  have ih0 := spec_l1Kid.mono_l k
  unfold spec_l1Kid.f
  repeat' first
      | (with_reducible exact ih0 _ _ _ _)
      | (with_reducible exact LeO.refl _)
      | (with_reducible exact LeO.none _)
      | (with_reducible refine LeO.ite ?_ ?_)
      | (with_reducible refine LeO.bind ?_ (fun _ => ?_))
      | exact ih0 _ _ _ _
      | exact LeO.none _
      | refine LeO.ite ?_ ?_
      | refine LeO.bind ?_ (fun _ => ?_)
set_option maxHeartbeats 8000000 in
set_option maxRecDepth 100000 in
theorem spec_l1Kid.calls (k : Nat) (A0 : Option Addr) (c0 : Nat) (l0 : List (S82)) (a1 : Int) (a2 : Int) (r : Int) (w : World) (hr0 : Kd.C k82 w A0 l0.length l0) (hc0 : l0.length ≤ c0) (h : spec_l1Kid.f k l0 a1 a2 = some r) :
    Calls Try.prog 53 #[.slice A0 l0.length c0, .int .i64 a1, .int .i64 a2] w fun e w' => e = .returned (.int .i64 r) ∧ Drawn0 w w' := by
  have HR0 := Aside0.mk hr0
  have HC0 := Aside0.mk hc0
  clear hr0 hc0
  have H : (spec_l1Kid.l0 k l0 a1 a2 0) = some r := h
  clear h
  have H' := Aside0.mk H
  clear H
  go_enter Try.func53, Try.ntmps53
  go_wp2
  go_loopg [7] k (fun kq v7 w' => ∃ (x7_1 : Int), v7 = .int .i64 x7_1 ∧ Aside0 (spec_l1Kid.l0 kq l0 a1 a2 x7_1 = some r) ∧ Aside0 (kq ≤ k) ∧ Drawn0 w w')
  case atStart => exact ⟨(0), (by first | rfl | (simp; done) | (simp [*]; done)), H', ⟨Nat.le_refl _⟩, by repeat (first | exact Drawn0.refl _ | apply Drawn0.step)⟩
  case round =>
    clear H'
    try clear p2
    obtain ⟨x7_1, rfl, HA, HK1, ⟨m1, rfl⟩⟩ := hrel
    cases gk with
    | zero => exact absurd HA.out (by simp [spec_l1Kid.l0])
    | succ k1 =>
      have H := HA.out
      clear HA
      simp only [spec_l1Kid.l0] at H
      by_cases c4 : 0 ≤ a1
      · rw [if_pos c4] at H
        have c4b0 : decide (0 ≤ a1) = true := decide_eq_true c4
        clear c4
        by_cases c5 : a1 < (l0.length : Int)
        · rw [if_pos c5] at H
          have c5b0 : decide (a1 < (l0.length : Int)) = true := decide_eq_true c5
          clear c5
          by_cases c6 : x7_1 < (((rd_T82 l0 a1).f1).length : Int)
          · rw [if_pos c6] at H
            have c6b0 : decide (x7_1 < (((rd_T82 l0 a1).f1).length : Int)) = true := decide_eq_true c6
            clear c6
            by_cases c7 : 0 ≤ x7_1
            · rw [if_pos c7] at H
              have c7b0 : decide (0 ≤ x7_1) = true := decide_eq_true c7
              clear c7
              by_cases c8 : 0 ≤ (rd ((rd_T82 l0 a1).f1) x7_1)
              · rw [if_pos c8] at H
                have c8b0 : decide (0 ≤ (rd ((rd_T82 l0 a1).f1) x7_1)) = true := decide_eq_true c8
                clear c8
                by_cases c9 : (rd ((rd_T82 l0 a1).f1) x7_1) < (l0.length : Int)
                · rw [if_pos c9] at H
                  have c9b0 : decide ((rd ((rd_T82 l0 a1).f1) x7_1) < (l0.length : Int)) = true := decide_eq_true c9
                  clear c9
                  by_cases c10 : ((rd_T82 l0 (rd ((rd_T82 l0 a1).f1) x7_1)).f0) = a2
                  · rw [if_pos c10] at H
                    have c10b0 : (((rd_T82 l0 (rd ((rd_T82 l0 a1).f1) x7_1)).f0) == a2) = true := beq_iff_eq.mpr c10
                    have c10b1 : (((rd_T82 l0 (rd ((rd_T82 l0 a1).f1) x7_1)).f0) != a2) = false := bne_eq_false_iff_eq.mpr c10
                    clear c10
                    obtain rfl := Option.some.inj H
                    have p575 : 0 ≤ (a1 : Int) := of_decide_eq_true (by first | (with_reducible assumption) | assumption)
                    have q575 : a1 < (l0.length : Int) := of_decide_eq_true (by first | (with_reducible assumption) | assumption)
                    obtain ⟨ad575, A575_1, c575_1, A575_2, c575_2, e575, hx575_0, hx575_1, hx575_2, hl575_1, hi575_1, hl575_2, hi575_2⟩ := at_T82 HR0.out a1 p575 q575
                    cases e575
                    have HR575_1 := Aside0.mk hi575_1
                    have HC575_1 := Aside0.mk hl575_1
                    clear hi575_1 hl575_1
                    have HR575_2 := Aside0.mk hi575_2
                    have HC575_2 := Aside0.mk hl575_2
                    clear hi575_2 hl575_2
                    replace p575 := eq_true p575
                    replace q575 := eq_true q575
                    have p576 : 0 ≤ (a1 : Int) := of_decide_eq_true (by first | (with_reducible assumption) | assumption)
                    have q576 : a1 < (l0.length : Int) := of_decide_eq_true (by first | (with_reducible assumption) | assumption)
                    obtain ⟨ad576, A576_1, c576_1, A576_2, c576_2, e576, hx576_0, hx576_1, hx576_2, hl576_1, hi576_1, hl576_2, hi576_2⟩ := at_T82 HR0.out a1 p576 q576
                    obtain rfl : ad575 = ad576 := (by injection e576)
                    have HR576_1 := Aside0.mk hi576_1
                    have HC576_1 := Aside0.mk hl576_1
                    clear hi576_1 hl576_1
                    have HR576_2 := Aside0.mk hi576_2
                    have HC576_2 := Aside0.mk hl576_2
                    clear hi576_2 hl576_2
                    replace p576 := eq_true p576
                    replace q576 := eq_true q576
                    have ea_ := Option.some.inj (hx575_1.symm.trans hx576_1)
                    injection ea_ with ea_ en_ ec_
                    subst ea_
                    subst ec_
                    clear en_
                    have ea_ := Option.some.inj (hx575_2.symm.trans hx576_2)
                    injection ea_ with ea_ en_ ec_
                    subst ea_
                    subst ec_
                    clear en_
                    have p577 : 0 ≤ (x7_1 : Int) := of_decide_eq_true (by first | (with_reducible assumption) | assumption)
                    have q577 : x7_1 < (((rd_T82 l0 a1).f1).length : Int) := of_decide_eq_true (by first | (with_reducible assumption) | assumption)
                    obtain ⟨ad577, e577, hx577_0⟩ := Kd.at_int HR576_1.out x7_1 p577 q577
                    cases e577
                    replace p577 := eq_true p577
                    replace q577 := eq_true q577
                    have p578 : 0 ≤ ((rd ((rd_T82 l0 a1).f1) x7_1) : Int) := of_decide_eq_true (by first | (with_reducible assumption) | assumption)
                    have q578 : (rd ((rd_T82 l0 a1).f1) x7_1) < (l0.length : Int) := of_decide_eq_true (by first | (with_reducible assumption) | assumption)
                    obtain ⟨ad578, A578_1, c578_1, A578_2, c578_2, e578, hx578_0, hx578_1, hx578_2, hl578_1, hi578_1, hl578_2, hi578_2⟩ := at_T82 HR0.out (rd ((rd_T82 l0 a1).f1) x7_1) p578 q578
                    obtain rfl : ad575 = ad578 := (by injection e578)
                    have HR578_1 := Aside0.mk hi578_1
                    have HC578_1 := Aside0.mk hl578_1
                    clear hi578_1 hl578_1
                    have HR578_2 := Aside0.mk hi578_2
                    have HC578_2 := Aside0.mk hl578_2
                    clear hi578_2 hl578_2
                    replace p578 := eq_true p578
                    replace q578 := eq_true q578
                    have p579 : 0 ≤ (a1 : Int) := of_decide_eq_true (by first | (with_reducible assumption) | assumption)
                    have q579 : a1 < (l0.length : Int) := of_decide_eq_true (by first | (with_reducible assumption) | assumption)
                    obtain ⟨ad579, A579_1, c579_1, A579_2, c579_2, e579, hx579_0, hx579_1, hx579_2, hl579_1, hi579_1, hl579_2, hi579_2⟩ := at_T82 HR0.out a1 p579 q579
                    obtain rfl : ad575 = ad579 := (by injection e579)
                    have HR579_1 := Aside0.mk hi579_1
                    have HC579_1 := Aside0.mk hl579_1
                    clear hi579_1 hl579_1
                    have HR579_2 := Aside0.mk hi579_2
                    have HC579_2 := Aside0.mk hl579_2
                    clear hi579_2 hl579_2
                    replace p579 := eq_true p579
                    replace q579 := eq_true q579
                    have ea_ := Option.some.inj (hx575_1.symm.trans hx579_1)
                    injection ea_ with ea_ en_ ec_
                    subst ea_
                    subst ec_
                    clear en_
                    have ea_ := Option.some.inj (hx575_2.symm.trans hx579_2)
                    injection ea_ with ea_ en_ ec_
                    subst ea_
                    subst ec_
                    clear en_
                    have p580 : 0 ≤ (x7_1 : Int) := of_decide_eq_true (by first | (with_reducible assumption) | assumption)
                    have q580 : x7_1 < (((rd_T82 l0 a1).f1).length : Int) := of_decide_eq_true (by first | (with_reducible assumption) | assumption)
                    obtain ⟨ad580, e580, hx580_0⟩ := Kd.at_int HR579_1.out x7_1 p580 q580
                    cases e580
                    replace p580 := eq_true p580
                    replace q580 := eq_true q580
                    go_wp2
                    go_ret
                    exact ⟨by first | rfl | (simp; done) | (simp [*]; done), by repeat (first | exact Drawn0.refl _ | apply Drawn0.step)⟩
                  · rw [if_neg c10] at H
                    have c10b0 : (((rd_T82 l0 (rd ((rd_T82 l0 a1).f1) x7_1)).f0) == a2) = false := beq_eq_false_iff_ne.mpr c10
                    have c10b1 : (((rd_T82 l0 (rd ((rd_T82 l0 a1).f1) x7_1)).f0) != a2) = true := bne_iff_ne.mpr c10
                    have H' := Aside0.mk H
                    clear H
                    have p575 : 0 ≤ (a1 : Int) := of_decide_eq_true (by first | (with_reducible assumption) | assumption)
                    have q575 : a1 < (l0.length : Int) := of_decide_eq_true (by first | (with_reducible assumption) | assumption)
                    obtain ⟨ad575, A575_1, c575_1, A575_2, c575_2, e575, hx575_0, hx575_1, hx575_2, hl575_1, hi575_1, hl575_2, hi575_2⟩ := at_T82 HR0.out a1 p575 q575
                    cases e575
                    have HR575_1 := Aside0.mk hi575_1
                    have HC575_1 := Aside0.mk hl575_1
                    clear hi575_1 hl575_1
                    have HR575_2 := Aside0.mk hi575_2
                    have HC575_2 := Aside0.mk hl575_2
                    clear hi575_2 hl575_2
                    replace p575 := eq_true p575
                    replace q575 := eq_true q575
                    have p576 : 0 ≤ (a1 : Int) := of_decide_eq_true (by first | (with_reducible assumption) | assumption)
                    have q576 : a1 < (l0.length : Int) := of_decide_eq_true (by first | (with_reducible assumption) | assumption)
                    obtain ⟨ad576, A576_1, c576_1, A576_2, c576_2, e576, hx576_0, hx576_1, hx576_2, hl576_1, hi576_1, hl576_2, hi576_2⟩ := at_T82 HR0.out a1 p576 q576
                    obtain rfl : ad575 = ad576 := (by injection e576)
                    have HR576_1 := Aside0.mk hi576_1
                    have HC576_1 := Aside0.mk hl576_1
                    clear hi576_1 hl576_1
                    have HR576_2 := Aside0.mk hi576_2
                    have HC576_2 := Aside0.mk hl576_2
                    clear hi576_2 hl576_2
                    replace p576 := eq_true p576
                    replace q576 := eq_true q576
                    have ea_ := Option.some.inj (hx575_1.symm.trans hx576_1)
                    injection ea_ with ea_ en_ ec_
                    subst ea_
                    subst ec_
                    clear en_
                    have ea_ := Option.some.inj (hx575_2.symm.trans hx576_2)
                    injection ea_ with ea_ en_ ec_
                    subst ea_
                    subst ec_
                    clear en_
                    have p577 : 0 ≤ (x7_1 : Int) := of_decide_eq_true (by first | (with_reducible assumption) | assumption)
                    have q577 : x7_1 < (((rd_T82 l0 a1).f1).length : Int) := of_decide_eq_true (by first | (with_reducible assumption) | assumption)
                    obtain ⟨ad577, e577, hx577_0⟩ := Kd.at_int HR576_1.out x7_1 p577 q577
                    cases e577
                    replace p577 := eq_true p577
                    replace q577 := eq_true q577
                    have p578 : 0 ≤ ((rd ((rd_T82 l0 a1).f1) x7_1) : Int) := of_decide_eq_true (by first | (with_reducible assumption) | assumption)
                    have q578 : (rd ((rd_T82 l0 a1).f1) x7_1) < (l0.length : Int) := of_decide_eq_true (by first | (with_reducible assumption) | assumption)
                    obtain ⟨ad578, A578_1, c578_1, A578_2, c578_2, e578, hx578_0, hx578_1, hx578_2, hl578_1, hi578_1, hl578_2, hi578_2⟩ := at_T82 HR0.out (rd ((rd_T82 l0 a1).f1) x7_1) p578 q578
                    obtain rfl : ad575 = ad578 := (by injection e578)
                    have HR578_1 := Aside0.mk hi578_1
                    have HC578_1 := Aside0.mk hl578_1
                    clear hi578_1 hl578_1
                    have HR578_2 := Aside0.mk hi578_2
                    have HC578_2 := Aside0.mk hl578_2
                    clear hi578_2 hl578_2
                    replace p578 := eq_true p578
                    replace q578 := eq_true q578
                    go_wp2
                    go_roundg k1
                    case measure => have := HK1.out; omega
                    case rel => exact ⟨(wrap64 (x7_1 + 1)), (by first | rfl | (simp; done) | (simp [*]; done)), H', ⟨by have := HK1.out; omega⟩, by repeat (first | exact Drawn0.refl _ | apply Drawn0.step)⟩
                · rw [if_neg c9] at H
                  exact absurd H (by simp)
              · rw [if_neg c8] at H
                exact absurd H (by simp)
            · rw [if_neg c7] at H
              exact absurd H (by simp)
          · rw [if_neg c6] at H
            have c6b0 : decide (x7_1 < (((rd_T82 l0 a1).f1).length : Int)) = false := decide_eq_false c6
            clear c6
            obtain rfl := Option.some.inj H
            have p575 : 0 ≤ (a1 : Int) := of_decide_eq_true (by first | (with_reducible assumption) | assumption)
            have q575 : a1 < (l0.length : Int) := of_decide_eq_true (by first | (with_reducible assumption) | assumption)
            obtain ⟨ad575, A575_1, c575_1, A575_2, c575_2, e575, hx575_0, hx575_1, hx575_2, hl575_1, hi575_1, hl575_2, hi575_2⟩ := at_T82 HR0.out a1 p575 q575
            cases e575
            have HR575_1 := Aside0.mk hi575_1
            have HC575_1 := Aside0.mk hl575_1
            clear hi575_1 hl575_1
            have HR575_2 := Aside0.mk hi575_2
            have HC575_2 := Aside0.mk hl575_2
            clear hi575_2 hl575_2
            replace p575 := eq_true p575
            replace q575 := eq_true q575
            go_wp2
            go_ret
            exact ⟨by first | rfl | (simp; done) | (simp [*]; done), by repeat (first | exact Drawn0.refl _ | apply Drawn0.step)⟩
        · rw [if_neg c5] at H
          exact absurd H (by simp)
      · rw [if_neg c4] at H
        exact absurd H (by simp)

end Go.Proofs.Ytaacknjgfipejaa.P
