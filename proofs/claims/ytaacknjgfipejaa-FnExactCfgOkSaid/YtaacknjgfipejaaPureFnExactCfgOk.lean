/- The program's CfgOk returns what the reference's returns: for all arguments, without a condition. -/
import Derived.Test.YtaacknjgfipejaaPx52
import Derived.Test.YtaacknjgfipejaaH
namespace Go.Proofs.Ytaacknjgfipejaa.Pure
open Go.RowKit Go.Proofs.Ytaacknjgfipejaa.P Go.Proofs.YtaacknjgfipejaaW.PrintWords Go.Proofs.YtaacknjgfipejaaW.PrintLast Go.Proofs.Ytaacknjgfipejaa.H
set_option linter.unusedVariables false
set_option linter.unusedSimpArgs false

/-! ### Are productions ok? -/
abbrev Sym := S95
abbrev Prod_ := S92
abbrev sy (xs : List Sym) (i : Int) : Sym := rd_T95 xs i
abbrev pd (xs : List Prod_) (i : Int) : Prod_ := rd_T92 xs i

theorem sy_nat (xs : List Sym) (i : Nat) (h : i < xs.length) : sy xs (i : Int) = xs[i] := by
  show xs.getD _ _ = _
  simp [h]

theorem pd_nat (xs : List Prod_) (i : Nat) (h : i < xs.length) : pd xs (i : Int) = xs[i] := by
  show xs.getD _ _ = _
  simp [h]

def symOk (H : Int) (s : Sym) : Bool := decide (if s.f0 = -1 then (0 ≤ s.f1 ∧ s.f1 ≤ 255) ∧ s.f1 ≤ s.f2 ∧ s.f2 ≤ 255 else (0 ≤ s.f0 ∧ s.f0 ≤ H - 1) ∧ s.f1 = 0 ∧ s.f2 = 0)

/-- The production at place i, all but its body. -/
def headOk (H : Int) (xs : List Prod_) (i : Nat) : Bool := decide ((0 ≤ (pd xs i).f0 ∧ (pd xs i).f0 ≤ H - 1) ∧ (pd xs i).f1.length ≤ 160 ∧ (i = 0 ∨ (pd xs ((i : Int) - 1)).f0 ≤ (pd xs i).f0))

def prodsGo (H : Int) (xs : List Prod_) : Nat → Nat → Bool
  | 0, _ => true
  | d + 1, i => headOk H xs i && (pd xs i).f1.all (symOk H) && prodsGo H xs d (i + 1)

def cfgOk (H : Int) (xs : List Prod_) : Bool := decide (1 ≤ H ∧ H ≤ 200) && decide (xs.length ≤ 400) && prodsGo H xs xs.length 0

theorem prodsGo_all (H : Int) (xs : List Prod_) : ∀ (d i : Nat), prodsGo H xs d i = true ↔ ∀ j, i ≤ j → j < i + d → headOk H xs j = true ∧ (pd xs j).f1.all (symOk H) = true
  | 0, i => by simp [prodsGo]; intro j h1 h2; omega
  | d + 1, i => by
    rw [prodsGo, Bool.and_eq_true, Bool.and_eq_true, prodsGo_all H xs d (i + 1)]
    constructor
    · rintro ⟨⟨h1, h2⟩, h3⟩ j j1 j2
      by_cases e : j = i
      · subst e; exact ⟨h1, h2⟩
      · exact h3 j (by omega) (by omega)
    · intro h
      exact ⟨h i (by omega) (by omega), fun j j1 j2 => h j (by omega) (by omega)⟩

theorem cfgOk_parts {H : Int} {xs : List Prod_} (h : cfgOk H xs = true) : 1 ≤ H ∧ H ≤ 200 ∧ xs.length ≤ 400 ∧ ∀ j, j < xs.length → headOk H xs j = true ∧ (pd xs j).f1.all (symOk H) = true := by
  unfold cfgOk at h
  simp only [Bool.and_eq_true, decide_eq_true_eq] at h
  obtain ⟨⟨⟨h1, h2⟩, h3⟩, h4⟩ := h
  exact ⟨h1, h2, h3, fun j hj => (prodsGo_all H xs _ 0).1 h4 j (by omega) (by omega)⟩

theorem spec_sym_eq (H : Int) (xs : List Prod_) (s : Sym) (hH : 1 ≤ H ∧ H ≤ 200) : spec_l3Sym.f H xs s.f0 s.f1 s.f2 = some (symOk H s) := by
  have hw : wrap64 (H - 1) = H - 1 := w64 (by omega) (by omega)
  unfold spec_l3Sym.f symOk spec_l6In.f
  rw [hw]
  by_cases h : s.f0 = -1
  · rw [if_pos h]
    simp only [if_pos h]
    by_cases h1 : s.f1 ≥ 0
    · rw [if_pos h1, Option.bind_some]
      by_cases h2 : s.f1 ≤ 255
      · rw [if_pos (decide_eq_true h2)]
        by_cases h3 : s.f2 ≥ s.f1
        · rw [if_pos h3, Option.bind_some]
          congr 1
          rw [decide_eq_decide]
          omega
        · rw [if_neg h3, Option.bind_some]
          congr 1
          exact (decide_eq_false (by omega)).symm
      · rw [if_neg (by simpa using h2)]
        congr 1
        exact (decide_eq_false (by omega)).symm
    · rw [if_neg h1, Option.bind_some, if_neg (by simp)]
      congr 1
      exact (decide_eq_false (by omega)).symm
  · rw [if_neg h]
    simp only [if_neg h]
    by_cases h1 : s.f0 ≥ 0
    · rw [if_pos h1, Option.bind_some]
      by_cases h2 : s.f0 ≤ H - 1
      · rw [if_pos (decide_eq_true h2)]
        by_cases h3 : s.f1 = 0
        · rw [if_pos h3]
          congr 1
          rw [Bool.eq_iff_iff, beq_iff_eq, decide_eq_true_eq]
          exact ⟨fun h => ⟨⟨h1, h2⟩, h3, h⟩, fun h => h.2.2⟩
        · rw [if_neg h3]
          congr 1
          exact (decide_eq_false (by omega)).symm
      · rw [if_neg (by simpa using h2)]
        congr 1
        exact (decide_eq_false (by omega)).symm
    · rw [if_neg h1, Option.bind_some, if_neg (by simp)]
      congr 1
      exact (decide_eq_false (by omega)).symm

theorem spec_cfgok_l1 (H : Int) (hH : 1 ≤ H ∧ H ≤ 200) (xs : List Prod_) (hx : xs.length ≤ 400) (i : Nat) (hi : i < xs.length) (b : List Sym) (hb : b.length ≤ 160) (h0 : Int) (res : Bool) (hnext : Ev (fun k => spec_CfgOk.l0 k ((i + 1 : Nat) : Int) H xs) res) :
    ∀ (d j : Nat), j + d = b.length → Ev (fun k => spec_CfgOk.l1 k (i : Int) (j : Int) H xs h0 b) ((b.drop j).all (symOk H) && res) := by
  intro d
  induction d with
  | zero =>
    intro j hj
    rw [List.drop_eq_nil_of_le (by omega)]
    refine Ev.step (fun k => by rw [spec_CfgOk.l1]) ?_
    refine ifn (by omega) ?_
    rw [show wrap64 ((i : Int) + 1) = ((i + 1 : Nat) : Int) by rw [w64 (by omega) (by omega)]; omega]
    exact Ev_eq hnext (by simp)
  | succ d ih =>
    intro j hj
    have hlt : j < b.length := by omega
    rw [List.drop_eq_getElem_cons hlt, List.all_cons, Bool.and_assoc]
    refine Ev.step (fun k => by rw [spec_CfgOk.l1]) ?_
    refine ifp (by omega) (ifp (by omega) ?_)
    have he : spec_l3Sym.f H xs (sy b (j : Int)).f0 (sy b (j : Int)).f1 (sy b (j : Int)).f2 = some (symOk H b[j]) := by rw [sy_nat _ _ hlt]; exact spec_sym_eq H xs _ hH
    refine b0 he ?_
    rw [show wrap64 ((j : Int) + 1) = ((j + 1 : Nat) : Int) by rw [w64 (by omega) (by omega)]; omega]
    cases hs : symOk H b[j] with
    | true => exact ifp rfl (ih (j + 1) (by omega))
    | false => exact ifn (by simp) (Ev.now _)

theorem spec_cfgok_l0 (H : Int) (hH : 1 ≤ H ∧ H ≤ 200) (xs : List Prod_) (hx : xs.length ≤ 400) (hl : ∀ x ∈ xs, x.f1.length ≤ 1000000000000000) : ∀ (d i : Nat), i + d = xs.length → Ev (fun k => spec_CfgOk.l0 k (i : Int) H xs) (prodsGo H xs d i) := by
  have hw : wrap64 (H - 1) = H - 1 := w64 (by omega) (by omega)
  intro d
  induction d with
  | zero =>
    intro i hi
    rw [prodsGo]
    refine Ev.step (fun k => by rw [spec_CfgOk.l0]) ?_
    exact ifn (by omega) (Ev.now _)
  | succ d ih =>
    intro i hi
    have hlt : i < xs.length := by omega
    have hlen : (pd xs (i : Int)).f1.length ≤ 1000000000000000 := by rw [pd_nat _ _ hlt]; exact hl _ (List.getElem_mem hlt)
    have bad : headOk H xs i = false → Ev (fun k => spec_CfgOk.j2 k (i : Int) true H xs (pd xs (i : Int)).f0 (pd xs (i : Int)).f1) (prodsGo H xs (d + 1) i) := by
      intro h
      rw [prodsGo, h]
      refine Ev.step (fun k => by rw [spec_CfgOk.j2]) ?_
      exact ifp rfl (Ev.now _)
    have good : headOk H xs i = true → (pd xs (i : Int)).f1.length ≤ 160 → Ev (fun k => spec_CfgOk.j2 k (i : Int) false H xs (pd xs (i : Int)).f0 (pd xs (i : Int)).f1) (prodsGo H xs (d + 1) i) := by
      intro h h160
      rw [prodsGo, h, Bool.true_and]
      refine Ev.step (fun k => by rw [spec_CfgOk.j2]) ?_
      refine ifn (by simp) ?_
      have := spec_cfgok_l1 H hH xs hx i hlt (pd xs (i : Int)).f1 h160 (pd xs (i : Int)).f0 _ (ih (i + 1) (by omega)) (pd xs (i : Int)).f1.length 0 (by omega)
      exact this
    refine Ev.step (fun k => by rw [spec_CfgOk.l0]) ?_
    refine ifp (by omega) (ifp (by omega) ?_)
    rw [hw]
    by_cases c1 : (pd xs (i : Int)).f0 ≥ 0
    · refine b0 (a := decide ((pd xs (i : Int)).f0 ≤ H - 1)) (by unfold spec_l6In.f; rw [if_pos c1]) ?_
      by_cases c2 : (pd xs (i : Int)).f0 ≤ H - 1
      · refine ifp (decide_eq_true c2) ?_
        by_cases c3 : ((pd xs (i : Int)).f1.length : Int) > 160
        · exact ifp c3 (bad (decide_eq_false (by omega)))
        · refine ifn c3 ?_
          by_cases c4 : (i : Int) > 0
          · have hw2 : wrap64 ((i : Int) - 1) = (i : Int) - 1 := w64 (by omega) (by omega)
            refine ifp c4 ?_
            rw [hw2]
            refine ifp (by omega) (ifp (by omega) ?_)
            by_cases c5 : (pd xs ((i : Int) - 1)).f0 > (pd xs (i : Int)).f0
            · rw [decide_eq_true c5]
              exact bad (decide_eq_false (by omega))
            · rw [decide_eq_false c5]
              exact good (decide_eq_true ⟨⟨c1, c2⟩, by omega, by omega⟩) (by omega)
          · exact ifn c4 (good (decide_eq_true ⟨⟨c1, c2⟩, by omega, by omega⟩) (by omega))
      · refine ifn (by simpa using c2) ?_
        exact bad (decide_eq_false (fun h => c2 h.1.2))
    · refine b0 (a := false) (by unfold spec_l6In.f; rw [if_neg c1]) ?_
      refine ifn (by simp) ?_
      exact bad (decide_eq_false (fun h => c1 h.1.1))

theorem spec_cfgok_ev (H : Int) (xs : List Prod_) (hx : xs.length ≤ 1000000000000000) (hl : ∀ x ∈ xs, x.f1.length ≤ 1000000000000000) : Ev (fun k => spec_CfgOk.f k H xs) (cfgOk H xs) := by
  have no : cfgOk H xs = false → Ev (fun k => spec_CfgOk.j0 k true H xs) (cfgOk H xs) := by
    intro h
    rw [h]
    refine Ev.step (fun k => by rw [spec_CfgOk.j0]) ?_
    exact ifp rfl (Ev.now _)
  unfold spec_CfgOk.f
  by_cases c1 : H ≥ 1
  · refine b0 (a := decide (H ≤ 200)) (by unfold spec_l6In.f; rw [if_pos c1]) ?_
    by_cases c2 : H ≤ 200
    · refine ifp (decide_eq_true c2) ?_
      by_cases c3 : (xs.length : Int) > 400
      · rw [decide_eq_true c3]
        refine no ?_
        unfold cfgOk
        rw [show decide (xs.length ≤ 400) = false from decide_eq_false (by omega)]
        simp
      · rw [decide_eq_false c3]
        refine Ev.step (fun k => by rw [spec_CfgOk.j0]) ?_
        refine ifn (by simp) ?_
        refine Ev_eq (spec_cfgok_l0 H ⟨c1, c2⟩ xs (by omega) hl xs.length 0 (by omega)) ?_
        unfold cfgOk
        rw [show decide (1 ≤ H ∧ H ≤ 200) = true from decide_eq_true ⟨c1, c2⟩, show decide (xs.length ≤ 400) = true from decide_eq_true (by omega)]
        simp
    · refine ifn (by simpa using c2) ?_
      refine no ?_
      unfold cfgOk
      rw [show decide (1 ≤ H ∧ H ≤ 200) = false from decide_eq_false (by omega)]
      simp
  · refine b0 (a := false) (by unfold spec_l6In.f; rw [if_neg c1]) ?_
    refine ifn (by simp) ?_
    refine no ?_
    unfold cfgOk
    rw [show decide (1 ≤ H ∧ H ≤ 200) = false from decide_eq_false (by omega)]
    simp

theorem impl_cfgok_l1 (H : Int) (hH : 1 ≤ H ∧ H ≤ 200) (xs : List Prod_) (hx : xs.length ≤ 400) (i : Nat) (hi : i < xs.length) (b : List Sym) (hb : b.length ≤ 160) (res : Bool) (hnext : Ev (fun k => impl_CfgOk.l0 k xs (xs.length : Int) ((i + 1 : Nat) : Int) H xs) res) :
    ∀ (d j : Nat), j + d = b.length → Ev (fun k => impl_CfgOk.l1 k xs (xs.length : Int) (i : Int) b (b.length : Int) (j : Int) H xs) ((b.drop j).all (symOk H) && res) := by
  have hw : wrap64 (H - 1) = H - 1 := w64 (by omega) (by omega)
  intro d
  induction d with
  | zero =>
    intro j hj
    rw [List.drop_eq_nil_of_le (by omega)]
    refine Ev.step (fun k => by rw [impl_CfgOk.l1]) ?_
    refine ifn (by omega) ?_
    rw [show wrap64 ((i : Int) + 1) = ((i + 1 : Nat) : Int) by rw [w64 (by omega) (by omega)]; omega]
    exact Ev_eq hnext (by simp)
  | succ d ih =>
    intro j hj
    have hlt : j < b.length := by omega
    have hwj : wrap64 ((j : Int) + 1) = ((j + 1 : Nat) : Int) := by rw [w64 (by omega) (by omega)]; omega
    have hsy : rd_T95 b (j : Int) = b[j] := sy_nat _ _ hlt
    rw [List.drop_eq_getElem_cons hlt, List.all_cons, Bool.and_assoc]
    obtain ⟨s, hs⟩ : ∃ s, s = b[j] := ⟨_, rfl⟩
    have next := ih (j + 1) (by omega)
    rw [← hs] at hsy ⊢
    have fin : Ev (fun k => if symOk H s = true then impl_CfgOk.l1 k xs (xs.length : Int) (i : Int) b (b.length : Int) ((j + 1 : Nat) : Int) H xs else some false) (symOk H s && ((b.drop (j + 1)).all (symOk H) && res)) := by
      cases symOk H s with
      | true => exact ifp rfl (Ev_eq next (by simp))
      | false => exact ifn (by simp) (Ev_eq (Ev.now _) (by simp))
    refine Ev.step (fun k => by rw [impl_CfgOk.l1]) ?_
    refine ifp (by omega) (ifp (by omega) (ifp (by omega) ?_))
    rw [hsy, hw, hwj]
    refine Ev.congr (fun k => ?_) fin
    obtain ⟨A, hA⟩ : ∃ A, A = impl_CfgOk.l1 k xs (xs.length : Int) (i : Int) b (b.length : Int) ((j + 1 : Nat) : Int) H xs := ⟨_, rfl⟩
    rw [← hA]
    unfold impl_within.f symOk
    simp only [decide_eq_true_eq]
    by_cases c0 : s.f0 ≥ 0
    · rw [if_pos c0, Option.bind_some]
      repeat' split
      all_goals (first | rfl | (exfalso; simp_all; done) | (exfalso; simp_all; omega))
    · rw [if_neg c0, Option.bind_some]
      repeat' split
      all_goals (first | rfl | (exfalso; simp_all; done) | (exfalso; simp_all; omega))

theorem impl_cfgok_l0 (H : Int) (hH : 1 ≤ H ∧ H ≤ 200) (xs : List Prod_) (hx : xs.length ≤ 400) : ∀ (d i : Nat), i + d = xs.length → Ev (fun k => impl_CfgOk.l0 k xs (xs.length : Int) (i : Int) H xs) (prodsGo H xs d i) := by
  have hw : wrap64 (H - 1) = H - 1 := w64 (by omega) (by omega)
  intro d
  induction d with
  | zero =>
    intro i hi
    rw [prodsGo]
    refine Ev.step (fun k => by rw [impl_CfgOk.l0]) ?_
    exact ifn (by omega) (Ev.now _)
  | succ d ih =>
    intro i hi
    have hlt : i < xs.length := by omega
    have bad : headOk H xs i = false → Ev (fun k => impl_CfgOk.j2 k xs (xs.length : Int) (i : Int) true H xs (pd xs (i : Int)).f0 (pd xs (i : Int)).f1) (prodsGo H xs (d + 1) i) := by
      intro h
      rw [prodsGo, h]
      refine Ev.step (fun k => by rw [impl_CfgOk.j2]) ?_
      exact ifp rfl (Ev.now _)
    have good : headOk H xs i = true → (pd xs (i : Int)).f1.length ≤ 160 → Ev (fun k => impl_CfgOk.j2 k xs (xs.length : Int) (i : Int) false H xs (pd xs (i : Int)).f0 (pd xs (i : Int)).f1) (prodsGo H xs (d + 1) i) := by
      intro h h160
      rw [prodsGo, h, Bool.true_and]
      refine Ev.step (fun k => by rw [impl_CfgOk.j2]) ?_
      refine ifn (by simp) ?_
      exact impl_cfgok_l1 H hH xs hx i hlt (pd xs (i : Int)).f1 h160 _ (ih (i + 1) (by omega)) (pd xs (i : Int)).f1.length 0 (by omega)
    have long : ((i : Int) > 0 → (pd xs ((i : Int) - 1)).f0 ≤ (pd xs (i : Int)).f0) → (pd xs (i : Int)).f0 ≥ 0 → (pd xs (i : Int)).f0 ≤ H - 1 → Ev (fun k => impl_CfgOk.j2 k xs (xs.length : Int) (i : Int) (decide (((pd xs (i : Int)).f1.length : Int) > 160)) H xs (pd xs (i : Int)).f0 (pd xs (i : Int)).f1) (prodsGo H xs (d + 1) i) := by
      intro h1 h2 h3
      by_cases c3 : ((pd xs (i : Int)).f1.length : Int) > 160
      · rw [decide_eq_true c3]
        exact bad (decide_eq_false (by omega))
      · rw [decide_eq_false c3]
        exact good (decide_eq_true ⟨⟨h2, h3⟩, by omega, by omega⟩) (by omega)
    refine Ev.step (fun k => by rw [impl_CfgOk.l0]) ?_
    refine ifp (by omega) (ifp (by omega) (ifp (by omega) ?_))
    rw [hw]
    by_cases c1 : (pd xs (i : Int)).f0 ≥ 0
    · refine b0 (a := decide ((pd xs (i : Int)).f0 ≤ H - 1)) (by unfold impl_within.f; rw [if_pos c1]) ?_
      by_cases c2 : (pd xs (i : Int)).f0 ≤ H - 1
      · refine ifp (decide_eq_true c2) ?_
        by_cases c4 : (i : Int) > 0
        · have hw2 : wrap64 ((i : Int) - 1) = (i : Int) - 1 := w64 (by omega) (by omega)
          refine ifp c4 ?_
          rw [hw2]
          refine ifp (by omega) (ifp (by omega) ?_)
          by_cases c5 : (pd xs ((i : Int) - 1)).f0 > (pd xs (i : Int)).f0
          · exact ifp c5 (bad (decide_eq_false (by omega)))
          · exact ifn c5 (long (fun _ => by omega) c1 c2)
        · exact ifn c4 (long (fun h => absurd h c4) c1 c2)
      · refine ifn (by simpa using c2) ?_
        exact bad (decide_eq_false (fun h => c2 h.1.2))
    · refine b0 (a := false) (by unfold impl_within.f; rw [if_neg c1]) ?_
      refine ifn (by simp) ?_
      exact bad (decide_eq_false (fun h => c1 h.1.1))

theorem impl_cfgok_ev (H : Int) (xs : List Prod_) (hx : xs.length ≤ 1000000000000000) : Ev (fun k => impl_CfgOk.f k H xs) (cfgOk H xs) := by
  have no : cfgOk H xs = false → Ev (fun k => impl_CfgOk.j0 k true H xs) (cfgOk H xs) := by
    intro h
    rw [h]
    refine Ev.step (fun k => by rw [impl_CfgOk.j0]) ?_
    exact ifp rfl (Ev.now _)
  unfold impl_CfgOk.f
  by_cases c1 : H ≥ 1
  · refine b0 (a := decide (H ≤ 200)) (by unfold impl_within.f; rw [if_pos c1]) ?_
    by_cases c2 : H ≤ 200
    · refine ifp (decide_eq_true c2) ?_
      by_cases c3 : (xs.length : Int) > 400
      · rw [decide_eq_true c3]
        refine no ?_
        unfold cfgOk
        rw [show decide (xs.length ≤ 400) = false from decide_eq_false (by omega)]
        simp
      · rw [decide_eq_false c3]
        refine Ev.step (fun k => by rw [impl_CfgOk.j0]) ?_
        refine ifn (by simp) ?_
        refine Ev_eq (impl_cfgok_l0 H ⟨c1, c2⟩ xs (by omega) xs.length 0 (by omega)) ?_
        unfold cfgOk
        rw [show decide (1 ≤ H ∧ H ≤ 200) = true from decide_eq_true ⟨c1, c2⟩, show decide (xs.length ≤ 400) = true from decide_eq_true (by omega)]
        simp
    · refine ifn (by simpa using c2) ?_
      refine no ?_
      unfold cfgOk
      rw [show decide (1 ≤ H ∧ H ≤ 200) = false from decide_eq_false (by omega)]
      simp
  · refine b0 (a := false) (by unfold impl_within.f; rw [if_neg c1]) ?_
    refine ifn (by simp) ?_
    refine no ?_
    unfold cfgOk
    rw [show decide (1 ≤ H ∧ H ≤ 200) = false from decide_eq_false (by omega)]
    simp

/-! ### Productions that came in: measured, copied, compared -/
abbrev LSym := S112
abbrev LProd := S104
abbrev lsy (xs : List LSym) (i : Int) : LSym := rd_T112 xs i
abbrev lpd (xs : List LProd) (i : Int) : LProd := rd_T104 xs i
def convS (x : LSym) : Sym := ⟨x.f0, x.f1, x.f2⟩
def convP (x : LProd) : Prod_ := ⟨x.f0, x.f1.map convS⟩

theorem lsy_nat (xs : List LSym) (i : Nat) (h : i < xs.length) : lsy xs (i : Int) = xs[i] := by
  show xs.getD _ _ = _
  simp [h]

theorem lpd_nat (xs : List LProd) (i : Nat) (h : i < xs.length) : lpd xs (i : Int) = xs[i] := by
  show xs.getD _ _ = _
  simp [h]

theorem sz_prod (x : LProd) (h2 : x.f1.length ≤ 9223372036854775807) (left : Int) (h0 : 0 ≤ left) (h1 : left ≤ 1048576) :
    ∃ r, laws_szProd.f x.f0 x.f1 left = some r ∧ (r = -1 ∨ (0 ≤ r ∧ r ≤ left ∧ x.f1.length ≤ 1048576)) := by
  unfold laws_szProd.f laws_szSymS.f
  rw [w64 (by omega) (by omega)]
  by_cases h : left - (x.f1.length : Int) < 0
  · exact ⟨-1, by rw [if_pos h, Option.bind_some, if_pos (by omega)], Or.inl rfl⟩
  · exact ⟨left - (x.f1.length : Int), by rw [if_neg h, Option.bind_some, if_neg h], Or.inr ⟨by omega, by omega, by omega⟩⟩

theorem sz_prods_l0 (xs : List LProd) (hl : xs.length ≤ 1048576) (h2 : ∀ x ∈ xs, x.f1.length ≤ 9223372036854775807) : ∀ (d i : Nat) (left : Int), i + d = xs.length → 0 ≤ left → left ≤ 1048576 →
    ∃ r, Ev (fun k => laws_szProdS.l0 k xs left (i : Int)) r ∧ (r = -1 ∨ (0 ≤ r ∧ ∀ x ∈ xs.drop i, x.f1.length ≤ 1048576)) := by
  intro d
  induction d with
  | zero =>
    intro i left hi h0 h1
    refine ⟨left, ?_, Or.inr ⟨h0, ?_⟩⟩
    · refine Ev.step (fun k => by rw [laws_szProdS.l0]) ?_
      exact ifn (by omega) (Ev.now _)
    · rw [List.drop_eq_nil_of_le (by omega)]
      simp
  | succ d ih =>
    intro i left hi h0 h1
    have hlt : i < xs.length := by omega
    obtain ⟨q, hq, hq2⟩ := sz_prod xs[i] (h2 _ (List.getElem_mem hlt)) left h0 h1
    have hq3 : laws_szProd.f (lpd xs (i : Int)).f0 (lpd xs (i : Int)).f1 left = some q := by rw [lpd_nat _ _ hlt]; exact hq
    rcases hq2 with rfl | ⟨a, b, c⟩
    · refine ⟨-1, ?_, Or.inl rfl⟩
      refine Ev.step (fun k => by rw [laws_szProdS.l0]) ?_
      refine ifp (by omega) (ifp (by omega) ?_)
      refine b0 hq3 ?_
      exact ifp (by omega) (Ev.now _)
    · obtain ⟨r, hr, hr2⟩ := ih (i + 1) q (by omega) a (by omega)
      refine ⟨r, ?_, ?_⟩
      · refine Ev.step (fun k => by rw [laws_szProdS.l0]) ?_
        refine ifp (by omega) (ifp (by omega) ?_)
        refine b0 hq3 ?_
        rw [show wrap64 ((i : Int) + 1) = ((i + 1 : Nat) : Int) by rw [w64 (by omega) (by omega)]; omega]
        exact ifn (by omega) hr
      · rcases hr2 with h | ⟨g1, g2⟩
        · exact Or.inl h
        · refine Or.inr ⟨g1, fun x hx => ?_⟩
          rw [List.drop_eq_getElem_cons hlt] at hx
          rcases List.mem_cons.1 hx with rfl | hx
          · exact c
          · exact g2 x hx

theorem sz_cfg (H : Int) (xs : List LProd) (hl : xs.length ≤ 9223372036854775807) (h2 : ∀ x ∈ xs, x.f1.length ≤ 9223372036854775807) :
    ∃ r, Ev (fun k => laws_szCfg.f k H xs 1048576) r ∧ (r < 0 ∨ (¬ r < 0 ∧ xs.length ≤ 1048576 ∧ ∀ x ∈ xs, x.f1.length ≤ 1048576)) := by
  have key : ∃ r, Ev (fun k => laws_szProdS.f k xs 1048576) r ∧ (r = -1 ∨ (0 ≤ r ∧ xs.length ≤ 1048576 ∧ ∀ x ∈ xs, x.f1.length ≤ 1048576)) := by
    unfold laws_szProdS.f
    rw [w64 (by omega) (by omega)]
    by_cases h : 1048576 - (xs.length : Int) < 0
    · exact ⟨-1, ifp h (Ev.now _), Or.inl (by omega)⟩
    · obtain ⟨r, hr, hr2⟩ := sz_prods_l0 xs (by omega) h2 xs.length 0 (1048576 - (xs.length : Int)) (by omega) (by omega) (by omega)
      refine ⟨r, ifn h hr, ?_⟩
      rcases hr2 with h | ⟨g1, g2⟩
      · exact Or.inl (by omega)
      · exact Or.inr ⟨by omega, by omega, by simpa using g2⟩
  obtain ⟨r, hr, hr2⟩ := key
  unfold laws_szCfg.f
  rcases hr2 with h | ⟨g1, g2, g3⟩
  · exact ⟨-1, Ev.bind hr (ifp (by omega) (Ev.now _)), Or.inl (by omega)⟩
  · exact ⟨r, Ev.bind hr (ifn (by omega) (Ev.now _)), Or.inr ⟨by omega, g2, g3⟩⟩

theorem to_syms_l0 (xs : List LSym) (hl : xs.length ≤ 1048576) : ∀ (d i : Nat) (ys : List Sym), i + d = xs.length → ys.length = xs.length → (∀ j, j < i → ys[j]? = (xs.map convS)[j]?) →
    Ev (fun k => laws_toSymS.l0 k xs ys (i : Int)) (xs.map convS) := by
  intro d
  induction d with
  | zero =>
    intro i ys hi hy hj
    refine Ev.step (fun k => by rw [laws_toSymS.l0]) ?_
    refine ifn (by omega) (Ev_eq (Ev.now _) ?_)
    apply List.ext_getElem?
    intro j
    by_cases h : j < i
    · exact hj j h
    · rw [List.getElem?_eq_none (by omega), List.getElem?_eq_none (by simp; omega)]
  | succ d ih =>
    intro i ys hi hy hj
    have hlt : i < xs.length := by omega
    refine Ev.step (fun k => by rw [laws_toSymS.l0]) ?_
    refine ifp (by omega) (ifp (by omega) ?_)
    have ht : laws_toSym.f (lsy xs (i : Int)).f0 (lsy xs (i : Int)).f1 (lsy xs (i : Int)).f2 = some (xs[i].f0, xs[i].f1, xs[i].f2) := by rw [lsy_nat _ _ hlt]; rfl
    refine b0 ht ?_
    refine ifp (by omega) ?_
    rw [show wrap64 ((i : Int) + 1) = ((i + 1 : Nat) : Int) by rw [w64 (by omega) (by omega)]; omega, Int.toNat_natCast]
    refine ih (i + 1) _ (by omega) (by simp [hy]) (fun j hji => ?_)
    by_cases e : j = i
    · subst e
      rw [List.getElem?_set_self (by omega), List.getElem?_map, List.getElem?_eq_getElem hlt]
      rfl
    · rw [List.getElem?_set_ne (by omega)]
      exact hj j (by omega)

theorem to_prod (x : LProd) (hl : x.f1.length ≤ 1048576) : Ev (fun k => laws_toProd.f k x.f0 x.f1) (x.f0, x.f1.map convS) := by
  unfold laws_toProd.f laws_toSymS.f
  refine Ev.bind (a := x.f1.map convS) ?_ (Ev.now _)
  refine ifp (by omega) (ifp (by omega) ?_)
  exact to_syms_l0 x.f1 hl x.f1.length 0 _ (by omega) (by simp) (fun j hj => by omega)

theorem to_prods_l0 (xs : List LProd) (hl : xs.length ≤ 1048576) (h2 : ∀ x ∈ xs, x.f1.length ≤ 1048576) : ∀ (d i : Nat) (ys : List Prod_), i + d = xs.length → ys.length = xs.length → (∀ j, j < i → ys[j]? = (xs.map convP)[j]?) →
    Ev (fun k => laws_toProdS.l0 k xs ys (i : Int)) (xs.map convP) := by
  intro d
  induction d with
  | zero =>
    intro i ys hi hy hj
    refine Ev.step (fun k => by rw [laws_toProdS.l0]) ?_
    refine ifn (by omega) (Ev_eq (Ev.now _) ?_)
    apply List.ext_getElem?
    intro j
    by_cases h : j < i
    · exact hj j h
    · rw [List.getElem?_eq_none (by omega), List.getElem?_eq_none (by simp; omega)]
  | succ d ih =>
    intro i ys hi hy hj
    have hlt : i < xs.length := by omega
    have hx := h2 _ (List.getElem_mem hlt)
    refine Ev.step (fun k => by rw [laws_toProdS.l0]) ?_
    refine ifp (by omega) (ifp (by omega) ?_)
    have ht : Ev (fun k => laws_toProd.f k (lpd xs (i : Int)).f0 (lpd xs (i : Int)).f1) (xs[i].f0, xs[i].f1.map convS) := by
      rw [lpd_nat _ _ hlt]
      exact to_prod _ hx
    refine Ev.bind ht ?_
    refine ifp (by omega) ?_
    rw [show wrap64 ((i : Int) + 1) = ((i + 1 : Nat) : Int) by rw [w64 (by omega) (by omega)]; omega, Int.toNat_natCast]
    refine ih (i + 1) _ (by omega) (by simp [hy]) (fun j hji => ?_)
    by_cases e : j = i
    · subst e
      rw [List.getElem?_set_self (by omega), List.getElem?_map, List.getElem?_eq_getElem hlt]
      rfl
    · rw [List.getElem?_set_ne (by omega)]
      exact hj j (by omega)

theorem to_cfg (H : Int) (xs : List LProd) (hl : xs.length ≤ 1048576) (h2 : ∀ x ∈ xs, x.f1.length ≤ 1048576) : Ev (fun k => laws_toCfg.f k H xs) (H, xs.map convP) := by
  unfold laws_toCfg.f laws_toProdS.f
  refine Ev.bind (a := xs.map convP) ?_ (Ev.now _)
  refine ifp (by omega) (ifp (by omega) ?_)
  exact to_prods_l0 xs hl h2 xs.length 0 _ (by omega) (by simp) (fun j hj => by omega)

theorem eq_syms_self (a : List Sym) (ha : a.length ≤ 1000000000000000) : Ev (fun k => laws_eqSymS.f k a a) true := by
  have go : ∀ (d i : Nat), i + d = a.length → Ev (fun k => laws_eqSymS.l0 k a a (i : Int)) true := by
    intro d
    induction d with
    | zero =>
      intro i hi
      refine Ev.step (fun k => by rw [laws_eqSymS.l0]) ?_
      exact ifn (by omega) (Ev.now _)
    | succ d ih =>
      intro i hi
      refine Ev.step (fun k => by rw [laws_eqSymS.l0]) ?_
      refine ifp (by omega) (ifp (by omega) (ifp (by omega) ?_))
      refine b0 (a := true) (by unfold laws_eqSym.f; rw [if_pos rfl, if_pos rfl, if_pos rfl]) ?_
      rw [show wrap64 ((i : Int) + 1) = ((i + 1 : Nat) : Int) by rw [w64 (by omega) (by omega)]; omega]
      exact ifp rfl (ih (i + 1) (by omega))
  unfold laws_eqSymS.f
  exact ifp rfl (go a.length 0 (by omega))

theorem eq_prods_self (a : List Prod_) (ha : a.length ≤ 1000000000000000) (h2 : ∀ x ∈ a, x.f1.length ≤ 1000000000000000) : Ev (fun k => laws_eqProdS.f k a a) true := by
  have go : ∀ (d i : Nat), i + d = a.length → Ev (fun k => laws_eqProdS.l0 k a a (i : Int)) true := by
    intro d
    induction d with
    | zero =>
      intro i hi
      refine Ev.step (fun k => by rw [laws_eqProdS.l0]) ?_
      exact ifn (by omega) (Ev.now _)
    | succ d ih =>
      intro i hi
      have hlt : i < a.length := by omega
      have hx := h2 _ (List.getElem_mem hlt)
      refine Ev.step (fun k => by rw [laws_eqProdS.l0]) ?_
      refine ifp (by omega) (ifp (by omega) (ifp (by omega) ?_))
      have ht : Ev (fun k => laws_eqProd.f k (pd a (i : Int)).f0 (pd a (i : Int)).f1 (pd a (i : Int)).f0 (pd a (i : Int)).f1) true := by
        rw [pd_nat _ _ hlt]
        unfold laws_eqProd.f
        refine ifp rfl ?_
        exact Ev.bind (eq_syms_self _ hx) (ifp rfl (Ev.now _))
      refine Ev.bind ht ?_
      rw [show wrap64 ((i : Int) + 1) = ((i + 1 : Nat) : Int) by rw [w64 (by omega) (by omega)]; omega]
      exact ifp rfl (ih (i + 1) (by omega))
  unfold laws_eqProdS.f
  exact ifp rfl (go a.length 0 (by omega))

theorem eq_cfg_self (H : Int) (a : List Prod_) (ha : a.length ≤ 1000000000000000) (h2 : ∀ x ∈ a, x.f1.length ≤ 1000000000000000) : Ev (fun k => laws_eqCfg.f k H a H a) true := by
  unfold laws_eqCfg.f
  refine ifp rfl ?_
  exact Ev.bind (eq_prods_self a ha h2) (ifp rfl (Ev.now _))

theorem convP_len {xs : List LProd} {n : Nat} (h : ∀ x ∈ xs, x.f1.length ≤ n) : ∀ x ∈ xs.map convP, x.f1.length ≤ n := by
  intro x hx
  obtain ⟨y, hy, rfl⟩ := List.mem_map.1 hx
  have := h y hy
  show (y.f1.map convS).length ≤ n
  simpa using this

theorem FnExactCfgOk (H : Int) (xs : List LProd) (h0 : (Lit.int .i64 H).wf = true ∧ (xs.length ≤ maxLen ∧ ∀ x ∈ xs, (Lit.int .i64 x.f0).wf = true ∧ (x.f1.length ≤ maxLen ∧ ∀ s ∈ x.f1, (Lit.int .i64 s.f0).wf = true ∧ (Lit.int .i64 s.f1).wf = true ∧ (Lit.int .i64 s.f2).wf = true))) : ∃ k, laws_FnExactCfgOk.f k H xs = some true := by
  refine Ev.rounds (g := fun k => laws_FnExactCfgOk.f k H xs) ?_
  obtain ⟨r, hr, hr2⟩ := sz_cfg H xs h0.2.1 (fun x hx => (h0.2.2 x hx).2.1)
  unfold laws_FnExactCfgOk.f
  refine Ev.bind hr ?_
  rcases hr2 with h | ⟨h, g1, g2⟩
  · exact ifp h (Ev.now _)
  refine ifn h ?_
  have ht := to_cfg H xs g1 g2
  have hlen : (xs.map convP).length ≤ 1048576 := by simpa using g1
  have hc := convP_len (n := 1000000000000000) (fun x hx => by have := g2 x hx; omega)
  refine Ev.bind ht ?_
  refine Ev.bind (spec_cfgok_ev H (xs.map convP) (by omega) hc) ?_
  refine Ev.bind ht ?_
  refine Ev.bind (impl_cfgok_ev H (xs.map convP) (by omega)) ?_
  refine ifn (by simp) ?_
  refine Ev.bind ht ?_
  refine Ev.bind (eq_cfg_self H (xs.map convP) (by omega) hc) ?_
  exact ifp rfl (Ev.now _)

end Go.Proofs.Ytaacknjgfipejaa.Pure
