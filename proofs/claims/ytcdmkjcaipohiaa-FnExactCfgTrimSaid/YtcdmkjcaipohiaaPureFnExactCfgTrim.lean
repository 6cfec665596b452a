/- The program's CfgTrim returns what the reference's returns: for all arguments, without a condition. -/
import Derived.Test.YtcdmkjcaipohiaaPx21
import Derived.Test.YtcdmkjcaipohiaaH
namespace Go.Proofs.Ytcdmkjcaipohiaa.Pure
open Go.RowKit Go.Proofs.Ytcdmkjcaipohiaa.P Go.Proofs.YtcdmkjcaipohiaaW.PrintWords Go.Proofs.YtcdmkjcaipohiaaW.PrintLast Go.Proofs.Ytcdmkjcaipohiaa.H
set_option linter.unusedVariables false
set_option linter.unusedSimpArgs false

theorem step64 {i n : Nat} (h : i < n) (hn : n ≤ 1000000000000000) : wrap64 ((i : Int) + 1) = ((i + 1 : Nat) : Int) := by rw [w64 (by omega) (by omega)]; omega


/-! ### Are productions ok? -/
abbrev Sym := S44
abbrev Prod_ := S41
abbrev sy (xs : List Sym) (i : Int) : Sym := rd_T44 xs i
abbrev pd (xs : List Prod_) (i : Int) : Prod_ := rd_T41 xs i

theorem sy_nat (xs : List Sym) (i : Nat) (h : i < xs.length) : sy xs (i : Int) = xs[i] := by
  show xs.getD _ _ = _
  simp [h]

theorem pd_nat (xs : List Prod_) (i : Nat) (h : i < xs.length) : pd xs (i : Int) = xs[i] := by
  show xs.getD _ _ = _
  simp [h]

def symOk (H : Int) (s : Sym) : Bool := decide (if s.f0 = -1 then (0 ≤ s.f1 ∧ s.f1 ≤ 255) ∧ s.f1 ≤ s.f2 ∧ s.f2 ≤ 255 else (0 ≤ s.f0 ∧ s.f0 ≤ H - 1) ∧ s.f1 = 0 ∧ s.f2 = 0)

/-- The production at place i, all but its body. -/
def headOk (H : Int) (xs : List Prod_) (i : Nat) : Bool := decide ((0 ≤ (pd xs i).f0 ∧ (pd xs i).f0 ≤ H - 1) ∧ (pd xs i).f1.length ≤ 160 ∧ (i = 0 ∨ (pd xs ((i : Int) - 1)).f0 ≤ (pd xs i).f0))

def prodsGo (H : Int) (xs : List Prod_) : Nat → Nat → Bool
  | 0, _ => true
  | d + 1, i => headOk H xs i && (pd xs i).f1.all (symOk H) && prodsGo H xs d (i + 1)

def cfgOk (H : Int) (xs : List Prod_) : Bool := decide (1 ≤ H ∧ H ≤ 200) && decide (xs.length ≤ 400) && prodsGo H xs xs.length 0

theorem prodsGo_all (H : Int) (xs : List Prod_) : ∀ (d i : Nat), prodsGo H xs d i = true ↔ ∀ j, i ≤ j → j < i + d → headOk H xs j = true ∧ (pd xs j).f1.all (symOk H) = true
  | 0, i => by simp [prodsGo]; intro j h1 h2; omega
  | d + 1, i => by
    rw [prodsGo, Bool.and_eq_true, Bool.and_eq_true, prodsGo_all H xs d (i + 1)]
    constructor
    · rintro ⟨⟨h1, h2⟩, h3⟩ j j1 j2
      by_cases e : j = i
      · subst e; exact ⟨h1, h2⟩
      · exact h3 j (by omega) (by omega)
    · intro h
      exact ⟨h i (by omega) (by omega), fun j j1 j2 => h j (by omega) (by omega)⟩

theorem cfgOk_parts {H : Int} {xs : List Prod_} (h : cfgOk H xs = true) : 1 ≤ H ∧ H ≤ 200 ∧ xs.length ≤ 400 ∧ ∀ j, j < xs.length → headOk H xs j = true ∧ (pd xs j).f1.all (symOk H) = true := by
  unfold cfgOk at h
  simp only [Bool.and_eq_true, decide_eq_true_eq] at h
  obtain ⟨⟨⟨h1, h2⟩, h3⟩, h4⟩ := h
  exact ⟨h1, h2, h3, fun j hj => (prodsGo_all H xs _ 0).1 h4 j (by omega) (by omega)⟩

theorem spec_sym_eq (H : Int) (xs : List Prod_) (s : Sym) (hH : 1 ≤ H ∧ H ≤ 200) : spec_l3Sym.f H xs s.f0 s.f1 s.f2 = some (symOk H s) := by
  have hw : wrap64 (H - 1) = H - 1 := w64 (by omega) (by omega)
  unfold spec_l3Sym.f symOk spec_l6In.f
  rw [hw]
  by_cases h : s.f0 = -1
  · rw [if_pos h]
    simp only [if_pos h]
    by_cases h1 : s.f1 ≥ 0
    · rw [if_pos h1, Option.bind_some]
      by_cases h2 : s.f1 ≤ 255
      · rw [if_pos (decide_eq_true h2)]
        by_cases h3 : s.f2 ≥ s.f1
        · rw [if_pos h3, Option.bind_some]
          congr 1
          rw [decide_eq_decide]
          omega
        · rw [if_neg h3, Option.bind_some]
          congr 1
          exact (decide_eq_false (by omega)).symm
      · rw [if_neg (by simpa using h2)]
        congr 1
        exact (decide_eq_false (by omega)).symm
    · rw [if_neg h1, Option.bind_some, if_neg (by simp)]
      congr 1
      exact (decide_eq_false (by omega)).symm
  · rw [if_neg h]
    simp only [if_neg h]
    by_cases h1 : s.f0 ≥ 0
    · rw [if_pos h1, Option.bind_some]
      by_cases h2 : s.f0 ≤ H - 1
      · rw [if_pos (decide_eq_true h2)]
        by_cases h3 : s.f1 = 0
        · rw [if_pos h3]
          congr 1
          rw [Bool.eq_iff_iff, beq_iff_eq, decide_eq_true_eq]
          exact ⟨fun h => ⟨⟨h1, h2⟩, h3, h⟩, fun h => h.2.2⟩
        · rw [if_neg h3]
          congr 1
          exact (decide_eq_false (by omega)).symm
      · rw [if_neg (by simpa using h2)]
        congr 1
        exact (decide_eq_false (by omega)).symm
    · rw [if_neg h1, Option.bind_some, if_neg (by simp)]
      congr 1
      exact (decide_eq_false (by omega)).symm

theorem spec_cfgok_l1 (H : Int) (hH : 1 ≤ H ∧ H ≤ 200) (xs : List Prod_) (hx : xs.length ≤ 400) (i : Nat) (hi : i < xs.length) (b : List Sym) (hb : b.length ≤ 160) (h0 : Int) (res : Bool) (hnext : Ev (fun k => spec_CfgOk.l0 k ((i + 1 : Nat) : Int) H xs) res) :
    ∀ (d j : Nat), j + d = b.length → Ev (fun k => spec_CfgOk.l1 k (i : Int) (j : Int) H xs h0 b) ((b.drop j).all (symOk H) && res) := by
  intro d
  induction d with
  | zero =>
    intro j hj
    rw [List.drop_eq_nil_of_le (by omega)]
    refine Ev.step (fun k => by rw [spec_CfgOk.l1]) ?_
    refine ifn (by omega) ?_
    rw [show wrap64 ((i : Int) + 1) = ((i + 1 : Nat) : Int) by rw [w64 (by omega) (by omega)]; omega]
    exact Ev_eq hnext (by simp)
  | succ d ih =>
    intro j hj
    have hlt : j < b.length := by omega
    rw [List.drop_eq_getElem_cons hlt, List.all_cons, Bool.and_assoc]
    refine Ev.step (fun k => by rw [spec_CfgOk.l1]) ?_
    refine ifp (by omega) (ifp (by omega) ?_)
    have he : spec_l3Sym.f H xs (sy b (j : Int)).f0 (sy b (j : Int)).f1 (sy b (j : Int)).f2 = some (symOk H b[j]) := by rw [sy_nat _ _ hlt]; exact spec_sym_eq H xs _ hH
    refine b0 he ?_
    rw [show wrap64 ((j : Int) + 1) = ((j + 1 : Nat) : Int) by rw [w64 (by omega) (by omega)]; omega]
    cases hs : symOk H b[j] with
    | true => exact ifp rfl (ih (j + 1) (by omega))
    | false => exact ifn (by simp) (Ev.now _)

theorem spec_cfgok_l0 (H : Int) (hH : 1 ≤ H ∧ H ≤ 200) (xs : List Prod_) (hx : xs.length ≤ 400) (hl : ∀ x ∈ xs, x.f1.length ≤ 1000000000000000) : ∀ (d i : Nat), i + d = xs.length → Ev (fun k => spec_CfgOk.l0 k (i : Int) H xs) (prodsGo H xs d i) := by
  have hw : wrap64 (H - 1) = H - 1 := w64 (by omega) (by omega)
  intro d
  induction d with
  | zero =>
    intro i hi
    rw [prodsGo]
    refine Ev.step (fun k => by rw [spec_CfgOk.l0]) ?_
    exact ifn (by omega) (Ev.now _)
  | succ d ih =>
    intro i hi
    have hlt : i < xs.length := by omega
    have hlen : (pd xs (i : Int)).f1.length ≤ 1000000000000000 := by rw [pd_nat _ _ hlt]; exact hl _ (List.getElem_mem hlt)
    have bad : headOk H xs i = false → Ev (fun k => spec_CfgOk.j2 k (i : Int) true H xs (pd xs (i : Int)).f0 (pd xs (i : Int)).f1) (prodsGo H xs (d + 1) i) := by
      intro h
      rw [prodsGo, h]
      refine Ev.step (fun k => by rw [spec_CfgOk.j2]) ?_
      exact ifp rfl (Ev.now _)
    have good : headOk H xs i = true → (pd xs (i : Int)).f1.length ≤ 160 → Ev (fun k => spec_CfgOk.j2 k (i : Int) false H xs (pd xs (i : Int)).f0 (pd xs (i : Int)).f1) (prodsGo H xs (d + 1) i) := by
      intro h h160
      rw [prodsGo, h, Bool.true_and]
      refine Ev.step (fun k => by rw [spec_CfgOk.j2]) ?_
      refine ifn (by simp) ?_
      have := spec_cfgok_l1 H hH xs hx i hlt (pd xs (i : Int)).f1 h160 (pd xs (i : Int)).f0 _ (ih (i + 1) (by omega)) (pd xs (i : Int)).f1.length 0 (by omega)
      exact this
    refine Ev.step (fun k => by rw [spec_CfgOk.l0]) ?_
    refine ifp (by omega) (ifp (by omega) ?_)
    rw [hw]
    by_cases c1 : (pd xs (i : Int)).f0 ≥ 0
    · refine b0 (a := decide ((pd xs (i : Int)).f0 ≤ H - 1)) (by unfold spec_l6In.f; rw [if_pos c1]) ?_
      by_cases c2 : (pd xs (i : Int)).f0 ≤ H - 1
      · refine ifp (decide_eq_true c2) ?_
        by_cases c3 : ((pd xs (i : Int)).f1.length : Int) > 160
        · exact ifp c3 (bad (decide_eq_false (by omega)))
        · refine ifn c3 ?_
          by_cases c4 : (i : Int) > 0
          · have hw2 : wrap64 ((i : Int) - 1) = (i : Int) - 1 := w64 (by omega) (by omega)
            refine ifp c4 ?_
            rw [hw2]
            refine ifp (by omega) (ifp (by omega) ?_)
            by_cases c5 : (pd xs ((i : Int) - 1)).f0 > (pd xs (i : Int)).f0
            · rw [decide_eq_true c5]
              exact bad (decide_eq_false (by omega))
            · rw [decide_eq_false c5]
              exact good (decide_eq_true ⟨⟨c1, c2⟩, by omega, by omega⟩) (by omega)
          · exact ifn c4 (good (decide_eq_true ⟨⟨c1, c2⟩, by omega, by omega⟩) (by omega))
      · refine ifn (by simpa using c2) ?_
        exact bad (decide_eq_false (fun h => c2 h.1.2))
    · refine b0 (a := false) (by unfold spec_l6In.f; rw [if_neg c1]) ?_
      refine ifn (by simp) ?_
      exact bad (decide_eq_false (fun h => c1 h.1.1))

theorem spec_cfgok_ev (H : Int) (xs : List Prod_) (hx : xs.length ≤ 1000000000000000) (hl : ∀ x ∈ xs, x.f1.length ≤ 1000000000000000) : Ev (fun k => spec_CfgOk.f k H xs) (cfgOk H xs) := by
  have no : cfgOk H xs = false → Ev (fun k => spec_CfgOk.j0 k true H xs) (cfgOk H xs) := by
    intro h
    rw [h]
    refine Ev.step (fun k => by rw [spec_CfgOk.j0]) ?_
    exact ifp rfl (Ev.now _)
  unfold spec_CfgOk.f
  by_cases c1 : H ≥ 1
  · refine b0 (a := decide (H ≤ 200)) (by unfold spec_l6In.f; rw [if_pos c1]) ?_
    by_cases c2 : H ≤ 200
    · refine ifp (decide_eq_true c2) ?_
      by_cases c3 : (xs.length : Int) > 400
      · rw [decide_eq_true c3]
        refine no ?_
        unfold cfgOk
        rw [show decide (xs.length ≤ 400) = false from decide_eq_false (by omega)]
        simp
      · rw [decide_eq_false c3]
        refine Ev.step (fun k => by rw [spec_CfgOk.j0]) ?_
        refine ifn (by simp) ?_
        refine Ev_eq (spec_cfgok_l0 H ⟨c1, c2⟩ xs (by omega) hl xs.length 0 (by omega)) ?_
        unfold cfgOk
        rw [show decide (1 ≤ H ∧ H ≤ 200) = true from decide_eq_true ⟨c1, c2⟩, show decide (xs.length ≤ 400) = true from decide_eq_true (by omega)]
        simp
    · refine ifn (by simpa using c2) ?_
      refine no ?_
      unfold cfgOk
      rw [show decide (1 ≤ H ∧ H ≤ 200) = false from decide_eq_false (by omega)]
      simp
  · refine b0 (a := false) (by unfold spec_l6In.f; rw [if_neg c1]) ?_
    refine ifn (by simp) ?_
    refine no ?_
    unfold cfgOk
    rw [show decide (1 ≤ H ∧ H ≤ 200) = false from decide_eq_false (by omega)]
    simp

theorem impl_cfgok_l1 (H : Int) (hH : 1 ≤ H ∧ H ≤ 200) (xs : List Prod_) (hx : xs.length ≤ 400) (i : Nat) (hi : i < xs.length) (b : List Sym) (hb : b.length ≤ 160) (res : Bool) (hnext : Ev (fun k => impl_CfgOk.l0 k xs (xs.length : Int) ((i + 1 : Nat) : Int) H xs) res) :
    ∀ (d j : Nat), j + d = b.length → Ev (fun k => impl_CfgOk.l1 k xs (xs.length : Int) (i : Int) b (b.length : Int) (j : Int) H xs) ((b.drop j).all (symOk H) && res) := by
  have hw : wrap64 (H - 1) = H - 1 := w64 (by omega) (by omega)
  intro d
  induction d with
  | zero =>
    intro j hj
    rw [List.drop_eq_nil_of_le (by omega)]
    refine Ev.step (fun k => by rw [impl_CfgOk.l1]) ?_
    refine ifn (by omega) ?_
    rw [show wrap64 ((i : Int) + 1) = ((i + 1 : Nat) : Int) by rw [w64 (by omega) (by omega)]; omega]
    exact Ev_eq hnext (by simp)
  | succ d ih =>
    intro j hj
    have hlt : j < b.length := by omega
    have hwj : wrap64 ((j : Int) + 1) = ((j + 1 : Nat) : Int) := by rw [w64 (by omega) (by omega)]; omega
    have hsy : rd_T44 b (j : Int) = b[j] := sy_nat _ _ hlt
    rw [List.drop_eq_getElem_cons hlt, List.all_cons, Bool.and_assoc]
    obtain ⟨s, hs⟩ : ∃ s, s = b[j] := ⟨_, rfl⟩
    have next := ih (j + 1) (by omega)
    rw [← hs] at hsy ⊢
    have fin : Ev (fun k => if symOk H s = true then impl_CfgOk.l1 k xs (xs.length : Int) (i : Int) b (b.length : Int) ((j + 1 : Nat) : Int) H xs else some false) (symOk H s && ((b.drop (j + 1)).all (symOk H) && res)) := by
      cases symOk H s with
      | true => exact ifp rfl (Ev_eq next (by simp))
      | false => exact ifn (by simp) (Ev_eq (Ev.now _) (by simp))
    refine Ev.step (fun k => by rw [impl_CfgOk.l1]) ?_
    refine ifp (by omega) (ifp (by omega) (ifp (by omega) ?_))
    rw [hsy, hw, hwj]
    refine Ev.congr (fun k => ?_) fin
    obtain ⟨A, hA⟩ : ∃ A, A = impl_CfgOk.l1 k xs (xs.length : Int) (i : Int) b (b.length : Int) ((j + 1 : Nat) : Int) H xs := ⟨_, rfl⟩
    rw [← hA]
    unfold impl_within.f symOk
    simp only [decide_eq_true_eq]
    by_cases c0 : s.f0 ≥ 0
    · rw [if_pos c0, Option.bind_some]
      repeat' split
      all_goals (first | rfl | (exfalso; simp_all; done) | (exfalso; simp_all; omega))
    · rw [if_neg c0, Option.bind_some]
      repeat' split
      all_goals (first | rfl | (exfalso; simp_all; done) | (exfalso; simp_all; omega))

theorem impl_cfgok_l0 (H : Int) (hH : 1 ≤ H ∧ H ≤ 200) (xs : List Prod_) (hx : xs.length ≤ 400) : ∀ (d i : Nat), i + d = xs.length → Ev (fun k => impl_CfgOk.l0 k xs (xs.length : Int) (i : Int) H xs) (prodsGo H xs d i) := by
  have hw : wrap64 (H - 1) = H - 1 := w64 (by omega) (by omega)
  intro d
  induction d with
  | zero =>
    intro i hi
    rw [prodsGo]
    refine Ev.step (fun k => by rw [impl_CfgOk.l0]) ?_
    exact ifn (by omega) (Ev.now _)
  | succ d ih =>
    intro i hi
    have hlt : i < xs.length := by omega
    have bad : headOk H xs i = false → Ev (fun k => impl_CfgOk.j2 k xs (xs.length : Int) (i : Int) true H xs (pd xs (i : Int)).f0 (pd xs (i : Int)).f1) (prodsGo H xs (d + 1) i) := by
      intro h
      rw [prodsGo, h]
      refine Ev.step (fun k => by rw [impl_CfgOk.j2]) ?_
      exact ifp rfl (Ev.now _)
    have good : headOk H xs i = true → (pd xs (i : Int)).f1.length ≤ 160 → Ev (fun k => impl_CfgOk.j2 k xs (xs.length : Int) (i : Int) false H xs (pd xs (i : Int)).f0 (pd xs (i : Int)).f1) (prodsGo H xs (d + 1) i) := by
      intro h h160
      rw [prodsGo, h, Bool.true_and]
      refine Ev.step (fun k => by rw [impl_CfgOk.j2]) ?_
      refine ifn (by simp) ?_
      exact impl_cfgok_l1 H hH xs hx i hlt (pd xs (i : Int)).f1 h160 _ (ih (i + 1) (by omega)) (pd xs (i : Int)).f1.length 0 (by omega)
    have long : ((i : Int) > 0 → (pd xs ((i : Int) - 1)).f0 ≤ (pd xs (i : Int)).f0) → (pd xs (i : Int)).f0 ≥ 0 → (pd xs (i : Int)).f0 ≤ H - 1 → Ev (fun k => impl_CfgOk.j2 k xs (xs.length : Int) (i : Int) (decide (((pd xs (i : Int)).f1.length : Int) > 160)) H xs (pd xs (i : Int)).f0 (pd xs (i : Int)).f1) (prodsGo H xs (d + 1) i) := by
      intro h1 h2 h3
      by_cases c3 : ((pd xs (i : Int)).f1.length : Int) > 160
      · rw [decide_eq_true c3]
        exact bad (decide_eq_false (by omega))
      · rw [decide_eq_false c3]
        exact good (decide_eq_true ⟨⟨h2, h3⟩, by omega, by omega⟩) (by omega)
    refine Ev.step (fun k => by rw [impl_CfgOk.l0]) ?_
    refine ifp (by omega) (ifp (by omega) (ifp (by omega) ?_))
    rw [hw]
    by_cases c1 : (pd xs (i : Int)).f0 ≥ 0
    · refine b0 (a := decide ((pd xs (i : Int)).f0 ≤ H - 1)) (by unfold impl_within.f; rw [if_pos c1]) ?_
      by_cases c2 : (pd xs (i : Int)).f0 ≤ H - 1
      · refine ifp (decide_eq_true c2) ?_
        by_cases c4 : (i : Int) > 0
        · have hw2 : wrap64 ((i : Int) - 1) = (i : Int) - 1 := w64 (by omega) (by omega)
          refine ifp c4 ?_
          rw [hw2]
          refine ifp (by omega) (ifp (by omega) ?_)
          by_cases c5 : (pd xs ((i : Int) - 1)).f0 > (pd xs (i : Int)).f0
          · exact ifp c5 (bad (decide_eq_false (by omega)))
          · exact ifn c5 (long (fun _ => by omega) c1 c2)
        · exact ifn c4 (long (fun h => absurd h c4) c1 c2)
      · refine ifn (by simpa using c2) ?_
        exact bad (decide_eq_false (fun h => c2 h.1.2))
    · refine b0 (a := false) (by unfold impl_within.f; rw [if_neg c1]) ?_
      refine ifn (by simp) ?_
      exact bad (decide_eq_false (fun h => c1 h.1.1))

theorem impl_cfgok_ev (H : Int) (xs : List Prod_) (hx : xs.length ≤ 1000000000000000) : Ev (fun k => impl_CfgOk.f k H xs) (cfgOk H xs) := by
  have no : cfgOk H xs = false → Ev (fun k => impl_CfgOk.j0 k true H xs) (cfgOk H xs) := by
    intro h
    rw [h]
    refine Ev.step (fun k => by rw [impl_CfgOk.j0]) ?_
    exact ifp rfl (Ev.now _)
  unfold impl_CfgOk.f
  by_cases c1 : H ≥ 1
  · refine b0 (a := decide (H ≤ 200)) (by unfold impl_within.f; rw [if_pos c1]) ?_
    by_cases c2 : H ≤ 200
    · refine ifp (decide_eq_true c2) ?_
      by_cases c3 : (xs.length : Int) > 400
      · rw [decide_eq_true c3]
        refine no ?_
        unfold cfgOk
        rw [show decide (xs.length ≤ 400) = false from decide_eq_false (by omega)]
        simp
      · rw [decide_eq_false c3]
        refine Ev.step (fun k => by rw [impl_CfgOk.j0]) ?_
        refine ifn (by simp) ?_
        refine Ev_eq (impl_cfgok_l0 H ⟨c1, c2⟩ xs (by omega) xs.length 0 (by omega)) ?_
        unfold cfgOk
        rw [show decide (1 ≤ H ∧ H ≤ 200) = true from decide_eq_true ⟨c1, c2⟩, show decide (xs.length ≤ 400) = true from decide_eq_true (by omega)]
        simp
    · refine ifn (by simpa using c2) ?_
      refine no ?_
      unfold cfgOk
      rw [show decide (1 ≤ H ∧ H ≤ 200) = false from decide_eq_false (by omega)]
      simp
  · refine b0 (a := false) (by unfold impl_within.f; rw [if_neg c1]) ?_
    refine ifn (by simp) ?_
    refine no ?_
    unfold cfgOk
    rw [show decide (1 ≤ H ∧ H ≤ 200) = false from decide_eq_false (by omega)]
    simp

/-! ### Productions that came in: measured, copied, compared -/
abbrev LSym := S64
abbrev LProd := S52
abbrev lsy (xs : List LSym) (i : Int) : LSym := rd_T64 xs i
abbrev lpd (xs : List LProd) (i : Int) : LProd := rd_T52 xs i
def convS (x : LSym) : Sym := ⟨x.f0, x.f1, x.f2⟩
def convP (x : LProd) : Prod_ := ⟨x.f0, x.f1.map convS⟩

theorem lsy_nat (xs : List LSym) (i : Nat) (h : i < xs.length) : lsy xs (i : Int) = xs[i] := by
  show xs.getD _ _ = _
  simp [h]

theorem lpd_nat (xs : List LProd) (i : Nat) (h : i < xs.length) : lpd xs (i : Int) = xs[i] := by
  show xs.getD _ _ = _
  simp [h]

theorem sz_prod (x : LProd) (h2 : x.f1.length ≤ 9223372036854775807) (left : Int) (h0 : 0 ≤ left) (h1 : left ≤ 1048576) :
    ∃ r, laws_szProd.f x.f0 x.f1 left = some r ∧ (r = -1 ∨ (0 ≤ r ∧ r ≤ left ∧ x.f1.length ≤ 1048576)) := by
  unfold laws_szProd.f laws_szSymS.f
  rw [w64 (by omega) (by omega)]
  by_cases h : left - (x.f1.length : Int) < 0
  · exact ⟨-1, by rw [if_pos h, Option.bind_some, if_pos (by omega)], Or.inl rfl⟩
  · exact ⟨left - (x.f1.length : Int), by rw [if_neg h, Option.bind_some, if_neg h], Or.inr ⟨by omega, by omega, by omega⟩⟩

theorem sz_prods_l0 (xs : List LProd) (hl : xs.length ≤ 1048576) (h2 : ∀ x ∈ xs, x.f1.length ≤ 9223372036854775807) : ∀ (d i : Nat) (left : Int), i + d = xs.length → 0 ≤ left → left ≤ 1048576 →
    ∃ r, Ev (fun k => laws_szProdS.l0 k xs left (i : Int)) r ∧ (r = -1 ∨ (0 ≤ r ∧ ∀ x ∈ xs.drop i, x.f1.length ≤ 1048576)) := by
  intro d
  induction d with
  | zero =>
    intro i left hi h0 h1
    refine ⟨left, ?_, Or.inr ⟨h0, ?_⟩⟩
    · refine Ev.step (fun k => by rw [laws_szProdS.l0]) ?_
      exact ifn (by omega) (Ev.now _)
    · rw [List.drop_eq_nil_of_le (by omega)]
      simp
  | succ d ih =>
    intro i left hi h0 h1
    have hlt : i < xs.length := by omega
    obtain ⟨q, hq, hq2⟩ := sz_prod xs[i] (h2 _ (List.getElem_mem hlt)) left h0 h1
    have hq3 : laws_szProd.f (lpd xs (i : Int)).f0 (lpd xs (i : Int)).f1 left = some q := by rw [lpd_nat _ _ hlt]; exact hq
    rcases hq2 with rfl | ⟨a, b, c⟩
    · refine ⟨-1, ?_, Or.inl rfl⟩
      refine Ev.step (fun k => by rw [laws_szProdS.l0]) ?_
      refine ifp (by omega) (ifp (by omega) ?_)
      refine b0 hq3 ?_
      exact ifp (by omega) (Ev.now _)
    · obtain ⟨r, hr, hr2⟩ := ih (i + 1) q (by omega) a (by omega)
      refine ⟨r, ?_, ?_⟩
      · refine Ev.step (fun k => by rw [laws_szProdS.l0]) ?_
        refine ifp (by omega) (ifp (by omega) ?_)
        refine b0 hq3 ?_
        rw [show wrap64 ((i : Int) + 1) = ((i + 1 : Nat) : Int) by rw [w64 (by omega) (by omega)]; omega]
        exact ifn (by omega) hr
      · rcases hr2 with h | ⟨g1, g2⟩
        · exact Or.inl h
        · refine Or.inr ⟨g1, fun x hx => ?_⟩
          rw [List.drop_eq_getElem_cons hlt] at hx
          rcases List.mem_cons.1 hx with rfl | hx
          · exact c
          · exact g2 x hx

theorem sz_cfg (H : Int) (xs : List LProd) (hl : xs.length ≤ 9223372036854775807) (h2 : ∀ x ∈ xs, x.f1.length ≤ 9223372036854775807) :
    ∃ r, Ev (fun k => laws_szCfg.f k H xs 1048576) r ∧ (r < 0 ∨ (¬ r < 0 ∧ xs.length ≤ 1048576 ∧ ∀ x ∈ xs, x.f1.length ≤ 1048576)) := by
  have key : ∃ r, Ev (fun k => laws_szProdS.f k xs 1048576) r ∧ (r = -1 ∨ (0 ≤ r ∧ xs.length ≤ 1048576 ∧ ∀ x ∈ xs, x.f1.length ≤ 1048576)) := by
    unfold laws_szProdS.f
    rw [w64 (by omega) (by omega)]
    by_cases h : 1048576 - (xs.length : Int) < 0
    · exact ⟨-1, ifp h (Ev.now _), Or.inl (by omega)⟩
    · obtain ⟨r, hr, hr2⟩ := sz_prods_l0 xs (by omega) h2 xs.length 0 (1048576 - (xs.length : Int)) (by omega) (by omega) (by omega)
      refine ⟨r, ifn h hr, ?_⟩
      rcases hr2 with h | ⟨g1, g2⟩
      · exact Or.inl (by omega)
      · exact Or.inr ⟨by omega, by omega, by simpa using g2⟩
  obtain ⟨r, hr, hr2⟩ := key
  unfold laws_szCfg.f
  rcases hr2 with h | ⟨g1, g2, g3⟩
  · exact ⟨-1, Ev.bind hr (ifp (by omega) (Ev.now _)), Or.inl (by omega)⟩
  · exact ⟨r, Ev.bind hr (ifn (by omega) (Ev.now _)), Or.inr ⟨by omega, g2, g3⟩⟩

theorem to_syms_l0 (xs : List LSym) (hl : xs.length ≤ 1048576) : ∀ (d i : Nat) (ys : List Sym), i + d = xs.length → ys.length = xs.length → (∀ j, j < i → ys[j]? = (xs.map convS)[j]?) →
    Ev (fun k => laws_toSymS.l0 k xs ys (i : Int)) (xs.map convS) := by
  intro d
  induction d with
  | zero =>
    intro i ys hi hy hj
    refine Ev.step (fun k => by rw [laws_toSymS.l0]) ?_
    refine ifn (by omega) (Ev_eq (Ev.now _) ?_)
    apply List.ext_getElem?
    intro j
    by_cases h : j < i
    · exact hj j h
    · rw [List.getElem?_eq_none (by omega), List.getElem?_eq_none (by simp; omega)]
  | succ d ih =>
    intro i ys hi hy hj
    have hlt : i < xs.length := by omega
    refine Ev.step (fun k => by rw [laws_toSymS.l0]) ?_
    refine ifp (by omega) (ifp (by omega) ?_)
    have ht : laws_toSym.f (lsy xs (i : Int)).f0 (lsy xs (i : Int)).f1 (lsy xs (i : Int)).f2 = some (xs[i].f0, xs[i].f1, xs[i].f2) := by rw [lsy_nat _ _ hlt]; rfl
    refine b0 ht ?_
    refine ifp (by omega) ?_
    rw [show wrap64 ((i : Int) + 1) = ((i + 1 : Nat) : Int) by rw [w64 (by omega) (by omega)]; omega, Int.toNat_natCast]
    refine ih (i + 1) _ (by omega) (by simp [hy]) (fun j hji => ?_)
    by_cases e : j = i
    · subst e
      rw [List.getElem?_set_self (by omega), List.getElem?_map, List.getElem?_eq_getElem hlt]
      rfl
    · rw [List.getElem?_set_ne (by omega)]
      exact hj j (by omega)

theorem to_prod (x : LProd) (hl : x.f1.length ≤ 1048576) : Ev (fun k => laws_toProd.f k x.f0 x.f1) (x.f0, x.f1.map convS) := by
  unfold laws_toProd.f laws_toSymS.f
  refine Ev.bind (a := x.f1.map convS) ?_ (Ev.now _)
  refine ifp (by omega) (ifp (by omega) ?_)
  exact to_syms_l0 x.f1 hl x.f1.length 0 _ (by omega) (by simp) (fun j hj => by omega)

theorem to_prods_l0 (xs : List LProd) (hl : xs.length ≤ 1048576) (h2 : ∀ x ∈ xs, x.f1.length ≤ 1048576) : ∀ (d i : Nat) (ys : List Prod_), i + d = xs.length → ys.length = xs.length → (∀ j, j < i → ys[j]? = (xs.map convP)[j]?) →
    Ev (fun k => laws_toProdS.l0 k xs ys (i : Int)) (xs.map convP) := by
  intro d
  induction d with
  | zero =>
    intro i ys hi hy hj
    refine Ev.step (fun k => by rw [laws_toProdS.l0]) ?_
    refine ifn (by omega) (Ev_eq (Ev.now _) ?_)
    apply List.ext_getElem?
    intro j
    by_cases h : j < i
    · exact hj j h
    · rw [List.getElem?_eq_none (by omega), List.getElem?_eq_none (by simp; omega)]
  | succ d ih =>
    intro i ys hi hy hj
    have hlt : i < xs.length := by omega
    have hx := h2 _ (List.getElem_mem hlt)
    refine Ev.step (fun k => by rw [laws_toProdS.l0]) ?_
    refine ifp (by omega) (ifp (by omega) ?_)
    have ht : Ev (fun k => laws_toProd.f k (lpd xs (i : Int)).f0 (lpd xs (i : Int)).f1) (xs[i].f0, xs[i].f1.map convS) := by
      rw [lpd_nat _ _ hlt]
      exact to_prod _ hx
    refine Ev.bind ht ?_
    refine ifp (by omega) ?_
    rw [show wrap64 ((i : Int) + 1) = ((i + 1 : Nat) : Int) by rw [w64 (by omega) (by omega)]; omega, Int.toNat_natCast]
    refine ih (i + 1) _ (by omega) (by simp [hy]) (fun j hji => ?_)
    by_cases e : j = i
    · subst e
      rw [List.getElem?_set_self (by omega), List.getElem?_map, List.getElem?_eq_getElem hlt]
      rfl
    · rw [List.getElem?_set_ne (by omega)]
      exact hj j (by omega)

theorem to_cfg (H : Int) (xs : List LProd) (hl : xs.length ≤ 1048576) (h2 : ∀ x ∈ xs, x.f1.length ≤ 1048576) : Ev (fun k => laws_toCfg.f k H xs) (H, xs.map convP) := by
  unfold laws_toCfg.f laws_toProdS.f
  refine Ev.bind (a := xs.map convP) ?_ (Ev.now _)
  refine ifp (by omega) (ifp (by omega) ?_)
  exact to_prods_l0 xs hl h2 xs.length 0 _ (by omega) (by simp) (fun j hj => by omega)

theorem eq_syms_self (a : List Sym) (ha : a.length ≤ 1000000000000000) : Ev (fun k => laws_eqSymS.f k a a) true := by
  have go : ∀ (d i : Nat), i + d = a.length → Ev (fun k => laws_eqSymS.l0 k a a (i : Int)) true := by
    intro d
    induction d with
    | zero =>
      intro i hi
      refine Ev.step (fun k => by rw [laws_eqSymS.l0]) ?_
      exact ifn (by omega) (Ev.now _)
    | succ d ih =>
      intro i hi
      refine Ev.step (fun k => by rw [laws_eqSymS.l0]) ?_
      refine ifp (by omega) (ifp (by omega) (ifp (by omega) ?_))
      refine b0 (a := true) (by unfold laws_eqSym.f; rw [if_pos rfl, if_pos rfl, if_pos rfl]) ?_
      rw [show wrap64 ((i : Int) + 1) = ((i + 1 : Nat) : Int) by rw [w64 (by omega) (by omega)]; omega]
      exact ifp rfl (ih (i + 1) (by omega))
  unfold laws_eqSymS.f
  exact ifp rfl (go a.length 0 (by omega))

theorem eq_prods_self (a : List Prod_) (ha : a.length ≤ 1000000000000000) (h2 : ∀ x ∈ a, x.f1.length ≤ 1000000000000000) : Ev (fun k => laws_eqProdS.f k a a) true := by
  have go : ∀ (d i : Nat), i + d = a.length → Ev (fun k => laws_eqProdS.l0 k a a (i : Int)) true := by
    intro d
    induction d with
    | zero =>
      intro i hi
      refine Ev.step (fun k => by rw [laws_eqProdS.l0]) ?_
      exact ifn (by omega) (Ev.now _)
    | succ d ih =>
      intro i hi
      have hlt : i < a.length := by omega
      have hx := h2 _ (List.getElem_mem hlt)
      refine Ev.step (fun k => by rw [laws_eqProdS.l0]) ?_
      refine ifp (by omega) (ifp (by omega) (ifp (by omega) ?_))
      have ht : Ev (fun k => laws_eqProd.f k (pd a (i : Int)).f0 (pd a (i : Int)).f1 (pd a (i : Int)).f0 (pd a (i : Int)).f1) true := by
        rw [pd_nat _ _ hlt]
        unfold laws_eqProd.f
        refine ifp rfl ?_
        exact Ev.bind (eq_syms_self _ hx) (ifp rfl (Ev.now _))
      refine Ev.bind ht ?_
      rw [show wrap64 ((i : Int) + 1) = ((i + 1 : Nat) : Int) by rw [w64 (by omega) (by omega)]; omega]
      exact ifp rfl (ih (i + 1) (by omega))
  unfold laws_eqProdS.f
  exact ifp rfl (go a.length 0 (by omega))

theorem eq_cfg_self (H : Int) (a : List Prod_) (ha : a.length ≤ 1000000000000000) (h2 : ∀ x ∈ a, x.f1.length ≤ 1000000000000000) : Ev (fun k => laws_eqCfg.f k H a H a) true := by
  unfold laws_eqCfg.f
  refine ifp rfl ?_
  exact Ev.bind (eq_prods_self a ha h2) (ifp rfl (Ev.now _))

theorem convP_len {xs : List LProd} {n : Nat} (h : ∀ x ∈ xs, x.f1.length ≤ n) : ∀ x ∈ xs.map convP, x.f1.length ≤ n := by
  intro x hx
  obtain ⟨y, hy, rfl⟩ := List.mem_map.1 hx
  have := h y hy
  show (y.f1.map convS).length ≤ n
  simpa using this

/-! ### Productions that are of use -/
def sumB (ls : List Int) : List Sym → Int → Int
  | [], n => n
  | s :: r, n => if s.f0 < 0 then sumB ls r (n + 1) else if rd ls s.f0 < 0 then -1 else sumB ls r (if n + rd ls s.f0 > 9999 then 9999 else n + rd ls s.f0)

/-- Heads in range. -/
def InR (H : Nat) (b : List Sym) : Prop := ∀ s ∈ b, s.f0 < (H : Int)
def InP (H : Nat) (xs : List Prod_) : Prop := ∀ x ∈ xs, 0 ≤ x.f0 ∧ x.f0 < (H : Int) ∧ x.f1.length ≤ 160 ∧ InR H x.f1
/-- Lengths, or -1. -/
def Lens (H : Nat) (ls : List Int) : Prop := ls.length = H ∧ ∀ j : Nat, j < H → -1 ≤ rd ls (j : Int) ∧ rd ls (j : Int) ≤ 20000

theorem lens_at {H : Nat} {ls : List Int} (h : Lens H ls) {i : Int} (h0 : 0 ≤ i) (h1 : i < (H : Int)) : -1 ≤ rd ls i ∧ rd ls i ≤ 20000 := by
  obtain ⟨n, rfl⟩ := Int.eq_ofNat_of_zero_le h0
  exact h.2 n (by omega)

theorem sumB_le (ls : List Int) (b : List Sym) : ∀ (n : Int), b.length ≤ 160 → n ≤ 10159 - b.length → 0 ≤ n → -1 ≤ sumB ls b n ∧ sumB ls b n ≤ 10159 := by
  induction b with
  | nil =>
    intro n _ h h2
    simp only [sumB, List.length_nil] at *
    omega
  | cons s r ih =>
    intro n hl h h2
    simp only [List.length_cons] at h hl
    simp only [sumB]
    split
    · exact ih (n + 1) (by omega) (by omega) (by omega)
    · split
      · omega
      · split
        · exact ih 9999 (by omega) (by omega) (by omega)
        · exact ih (n + rd ls s.f0) (by omega) (by omega) (by omega)

theorem sy_get (b : List Sym) (i : Nat) (h : i < b.length) : rd_T44 b (i : Int) = b[i] := sy_nat b i h

theorem spec_body (H : Nat) (ls : List Int) (hls : Lens H ls) (b : List Sym) (hb : b.length ≤ 160) (hr : InR H b) : Ev (fun k => spec_l3Body.f k b ls) (sumB ls b 0) := by
  have loop : ∀ (d i : Nat) (n : Int), i + d = b.length → 0 ≤ n → n ≤ 10159 - d → Ev (fun k => spec_l3Body.l0 k b ls n (i : Int)) (sumB ls (b.drop i) n) := by
    intro d
    induction d with
    | zero =>
      intro i n hi h0 h1
      refine Ev.step (fun k => by rw [spec_l3Body.l0]) ?_
      rw [List.drop_eq_nil_of_le (by omega)]
      exact ifn (by omega) (Ev.now _)
    | succ d ih =>
      intro i n hi h0 h1
      have hlt : i < b.length := by omega
      have hs := hr b[i] (List.getElem_mem hlt)
      refine Ev.step (fun k => by rw [spec_l3Body.l0]) ?_
      refine ifp (by omega) (ifp (by omega) ?_)
      rw [sy_get b i hlt, step64 (n := b.length) hlt (by omega), List.drop_eq_getElem_cons hlt, sumB]
      by_cases g1 : (b[i]).f0 < 0
      · rw [if_pos g1, w64 (i := n + 1) (by omega) (by omega)]
        exact ifp g1 (ih (i + 1) (n + 1) (by omega) (by omega) (by omega))
      · rw [if_neg g1]
        have hv := lens_at hls (i := (b[i]).f0) (by omega) hs
        have hll := hls.1
        refine ifn g1 (ifp (by omega) (ifp (by omega) ?_))
        by_cases g2 : rd ls (b[i]).f0 < 0
        · rw [if_pos g2]
          exact ifp g2 (Ev.now _)
        · rw [if_neg g2, w64 (i := n + rd ls (b[i]).f0) (by omega) (by omega)]
          refine ifn g2 ?_
          by_cases g3 : n + rd ls (b[i]).f0 > 9999
          · rw [if_pos g3]
            exact ifp g3 (ih (i + 1) 9999 (by omega) (by omega) (by omega))
          · rw [if_neg g3]
            exact ifn g3 (ih (i + 1) _ (by omega) (by omega) (by omega))
  exact loop b.length 0 0 (by omega) (by omega) (by omega)

theorem impl_body (H : Nat) (ls : List Int) (hls : Lens H ls) (b : List Sym) (hb : b.length ≤ 160) (hr : InR H b) : Ev (fun k => impl_sum.f k b ls) (sumB ls b 0) := by
  have loop : ∀ (d i : Nat) (n : Int), i + d = b.length → 0 ≤ n → n ≤ 10159 - d → Ev (fun k => impl_sum.l0 k ls n b (b.length : Int) (i : Int)) (sumB ls (b.drop i) n) := by
    intro d
    induction d with
    | zero =>
      intro i n hi h0 h1
      refine Ev.step (fun k => by rw [impl_sum.l0]) ?_
      rw [List.drop_eq_nil_of_le (by omega)]
      exact ifn (by omega) (Ev.now _)
    | succ d ih =>
      intro i n hi h0 h1
      have hlt : i < b.length := by omega
      have hs := hr b[i] (List.getElem_mem hlt)
      refine Ev.step (fun k => by rw [impl_sum.l0]) ?_
      refine ifp (by omega) (ifp (by omega) (ifp (by omega) ?_))
      rw [sy_get b i hlt, step64 (n := b.length) hlt (by omega), List.drop_eq_getElem_cons hlt, sumB]
      by_cases g1 : (b[i]).f0 < 0
      · rw [if_pos g1, w64 (i := n + 1) (by omega) (by omega)]
        exact ifp g1 (ih (i + 1) (n + 1) (by omega) (by omega) (by omega))
      · rw [if_neg g1]
        have hv := lens_at hls (i := (b[i]).f0) (by omega) hs
        have hll := hls.1
        refine ifn g1 (ifp (by omega) (ifp (by omega) ?_))
        by_cases g2 : rd ls (b[i]).f0 < 0
        · rw [if_pos g2]
          exact ifp g2 (Ev.now _)
        · rw [if_neg g2, w64 (i := n + rd ls (b[i]).f0) (by omega) (by omega)]
          refine ifn g2 ?_
          unfold Go.Proofs.YtcdmkjcaipohiaaW.PrintWords.mn
          by_cases g3 : n + rd ls (b[i]).f0 > 9999
          · rw [if_pos g3]
            try rw [if_pos (by omega : (9999 : Int) < n + rd ls (b[i]).f0)]
            exact ih (i + 1) 9999 (by omega) (by omega) (by omega)
          · rw [if_neg g3]
            try rw [if_neg (by omega)]
            exact ih (i + 1) _ (by omega) (by omega) (by omega)
  exact loop b.length 0 0 (by omega) (by omega) (by omega)

/-! #### least -/
def passL : List Prod_ → List Int → Bool → List Int × Bool
  | [], ls, ag => (ls, ag)
  | p :: r, ls, ag => if sumB ls p.f1 0 ≥ 0 ∧ (rd ls p.f0 < 0 ∨ sumB ls p.f1 0 < rd ls p.f0) then passL r (ls.set p.f0.toNat (sumB ls p.f1 0)) true else passL r ls ag

theorem rd_set (ls : List Int) (i : Nat) (v : Int) (j : Nat) (h : i < ls.length) : rd (ls.set i v) (j : Int) = if i = j then v else rd ls (j : Int) := by
  unfold rd
  rw [Int.toNat_natCast, List.getD_eq_getElem?_getD, List.getD_eq_getElem?_getD, List.getElem?_set]
  by_cases e : i = j
  · subst e; simp [h]
  · simp [e]

theorem lens_set {H : Nat} {ls : List Int} (h : Lens H ls) (i : Nat) (v : Int) (hi : i < H) (h0 : -1 ≤ v) (h1 : v ≤ 20000) : Lens H (ls.set i v) := by
  refine ⟨by simpa using h.1, fun j hj => ?_⟩
  rw [rd_set ls i v j (by rw [h.1]; exact hi)]
  split
  · omega
  · exact h.2 j hj

theorem passL_lens {H : Nat} : ∀ (r : List Prod_) (ls : List Int) (ag : Bool), InP H r → Lens H ls → Lens H (passL r ls ag).1
  | [], _, _, _, h => h
  | p :: r, ls, ag, hp, h => by
    obtain ⟨p1, p2, p3, p4⟩ := hp p List.mem_cons_self
    have hr : InP H r := fun x hx => hp x (List.mem_cons_of_mem _ hx)
    have hb := sumB_le ls p.f1 0 p3 (by omega) (by omega)
    simp only [passL]
    split
    · exact passL_lens r _ true hr (lens_set h _ _ (by omega) (by omega) (by omega))
    · exact passL_lens r ls ag hr h

/-- What can still get less. -/
def muOf (v : Int) : Nat := if v < 0 then 20001 else v.toNat
def mu (ls : List Int) : Nat := (ls.map muOf).sum

theorem mu_set (ls : List Int) (i : Nat) (v : Int) (h : i < ls.length) : mu (ls.set i v) + muOf ls[i] = mu ls + muOf v := by
  induction ls generalizing i with
  | nil => simp at h
  | cons x l ih =>
    cases i with
    | zero => simp [mu]; omega
    | succ i =>
      have := ih i (by simpa using h)
      simp only [mu, List.set_cons_succ, List.map_cons, List.sum_cons, List.getElem_cons_succ] at this ⊢
      omega

theorem passL_mu {H : Nat} : ∀ (r : List Prod_) (ls : List Int) (ag : Bool), InP H r → Lens H ls → mu (passL r ls ag).1 ≤ mu ls ∧ ((passL r ls ag).2 = true → ag = true ∨ mu (passL r ls ag).1 < mu ls)
  | [], _, _, _, _ => ⟨Nat.le_refl _, fun h => Or.inl h⟩
  | p :: r, ls, ag, hp, h => by
    obtain ⟨p1, p2, p3, p4⟩ := hp p List.mem_cons_self
    have hr : InP H r := fun x hx => hp x (List.mem_cons_of_mem _ hx)
    have hb := sumB_le ls p.f1 0 p3 (by omega) (by omega)
    simp only [passL]
    split
    · rename_i hc
      have hi : p.f0.toNat < ls.length := by rw [h.1]; omega
      obtain ⟨a, b⟩ := passL_mu r (ls.set p.f0.toNat (sumB ls p.f1 0)) true hr (lens_set h _ _ (by omega) (by omega) (by omega))
      have hs := mu_set ls p.f0.toNat (sumB ls p.f1 0) hi
      have hg : rd ls p.f0 = ls[p.f0.toNat] := by
        have := rd_nat ls p.f0.toNat hi
        rwa [Int.toNat_of_nonneg p1] at this
      have hlt : muOf (sumB ls p.f1 0) < muOf ls[p.f0.toNat] := by
        rw [← hg]
        unfold muOf
        rw [if_neg (by omega)]
        split <;> omega
      exact ⟨by omega, fun _ => Or.inr (by omega)⟩
    · exact passL_mu r ls ag hr h

theorem pd_get (b : List Prod_) (i : Nat) (h : i < b.length) : rd_T41 b (i : Int) = b[i] := pd_nat b i h

theorem spec_passL (H : Nat) (hH : H ≤ 200) (xs : List Prod_) (hx : xs.length ≤ 400) (hp : InP H xs) (res : List Int) : ∀ (d i : Nat) (ls : List Int) (ag : Bool), i + d = xs.length → Lens H ls →
    Ev (fun k => spec_CfgLeast.l1 k (passL (xs.drop i) ls ag).1 (passL (xs.drop i) ls ag).2 (H : Int) xs) res → Ev (fun k => spec_CfgLeast.l2 k ls ag (i : Int) (H : Int) xs) res := by
  intro d
  induction d with
  | zero =>
    intro i ls ag hi hl hn
    refine Ev.step (fun k => by rw [spec_CfgLeast.l2]) ?_
    rw [List.drop_eq_nil_of_le (by omega)] at hn
    exact ifn (by omega) hn
  | succ d ih =>
    intro i ls ag hi hl hn
    have hlt : i < xs.length := by omega
    obtain ⟨p1, p2, p3, p4⟩ := hp xs[i] (List.getElem_mem hlt)
    have hb := sumB_le ls (xs[i]).f1 0 p3 (by omega) (by omega)
    have hll := hl.1
    refine Ev.step (fun k => by rw [spec_CfgLeast.l2]) ?_
    refine ifp (by omega) (ifp (by omega) ?_)
    rw [pd_get xs i hlt, step64 (n := xs.length) hlt (by omega)]
    rw [List.drop_eq_getElem_cons hlt] at hn
    refine Ev.bind (spec_body H ls hl _ p3 p4) ?_
    simp only [passL] at hn
    by_cases g1 : sumB ls (xs[i]).f1 0 ≥ 0
    · refine ifp g1 (ifp (by omega) (ifp (by omega) ?_))
      by_cases g2 : rd ls (xs[i]).f0 < 0
      · rw [if_pos ⟨g1, Or.inl g2⟩] at hn
        exact ifp g2 (ih (i + 1) _ _ (by omega) (lens_set hl _ _ (by omega) (by omega) (by omega)) hn)
      · refine ifn g2 ?_
        by_cases g3 : sumB ls (xs[i]).f1 0 < rd ls (xs[i]).f0
        · rw [if_pos ⟨g1, Or.inr g3⟩] at hn
          exact ifp g3 (ih (i + 1) _ _ (by omega) (lens_set hl _ _ (by omega) (by omega) (by omega)) hn)
        · rw [if_neg (by omega)] at hn
          exact ifn g3 (ih (i + 1) _ _ (by omega) hl hn)
    · rw [if_neg (by omega)] at hn
      exact ifn g1 (ih (i + 1) _ _ (by omega) hl hn)

theorem impl_passL (H : Nat) (hH : H ≤ 200) (xs : List Prod_) (hx : xs.length ≤ 400) (hp : InP H xs) (res : List Int) : ∀ (d i : Nat) (ls : List Int) (ag : Bool), i + d = xs.length → Lens H ls →
    Ev (fun k => impl_Cfg_least.l0 k (passL (xs.drop i) ls ag).1 (passL (xs.drop i) ls ag).2 (H : Int) xs) res → Ev (fun k => impl_Cfg_least.l1 k ls ag xs (xs.length : Int) (i : Int) (H : Int) xs) res := by
  intro d
  induction d with
  | zero =>
    intro i ls ag hi hl hn
    refine Ev.step (fun k => by rw [impl_Cfg_least.l1]) ?_
    rw [List.drop_eq_nil_of_le (by omega)] at hn
    exact ifn (by omega) hn
  | succ d ih =>
    intro i ls ag hi hl hn
    have hlt : i < xs.length := by omega
    obtain ⟨p1, p2, p3, p4⟩ := hp xs[i] (List.getElem_mem hlt)
    have hb := sumB_le ls (xs[i]).f1 0 p3 (by omega) (by omega)
    have hll := hl.1
    refine Ev.step (fun k => by rw [impl_Cfg_least.l1]) ?_
    refine ifp (by omega) (ifp (by omega) (ifp (by omega) ?_))
    rw [pd_get xs i hlt, step64 (n := xs.length) hlt (by omega)]
    rw [List.drop_eq_getElem_cons hlt] at hn
    refine Ev.bind (impl_body H ls hl _ p3 p4) ?_
    simp only [passL] at hn
    by_cases g1 : sumB ls (xs[i]).f1 0 ≥ 0
    · refine ifp g1 (ifp (by omega) (ifp (by omega) ?_))
      by_cases g2 : rd ls (xs[i]).f0 < 0
      · rw [if_pos ⟨g1, Or.inl g2⟩] at hn
        exact ifp g2 (ih (i + 1) _ _ (by omega) (lens_set hl _ _ (by omega) (by omega) (by omega)) hn)
      · refine ifn g2 ?_
        by_cases g3 : sumB ls (xs[i]).f1 0 < rd ls (xs[i]).f0
        · rw [if_pos ⟨g1, Or.inr g3⟩] at hn
          exact ifp g3 (ih (i + 1) _ _ (by omega) (lens_set hl _ _ (by omega) (by omega) (by omega)) hn)
        · rw [if_neg (by omega)] at hn
          exact ifn g3 (ih (i + 1) _ _ (by omega) hl hn)
    · rw [if_neg (by omega)] at hn
      exact ifn g1 (ih (i + 1) _ _ (by omega) hl hn)

/-- Both come to the same. -/
theorem both_least (H : Nat) (hH : H ≤ 200) (xs : List Prod_) (hx : xs.length ≤ 400) (hp : InP H xs) : ∀ (m : Nat) (ls : List Int), mu ls ≤ m → Lens H ls →
    ∃ res, Lens H res ∧ Ev (fun k => spec_CfgLeast.l1 k ls true (H : Int) xs) res ∧ Ev (fun k => impl_Cfg_least.l0 k ls true (H : Int) xs) res := by
  intro m
  induction m using Nat.strongRecOn with
  | _ m ih =>
    intro ls hm hl
    have hl2 := passL_lens xs ls false hp hl
    obtain ⟨h1, h2⟩ := passL_mu xs ls false hp hl
    have key : ∃ res, Lens H res ∧ Ev (fun k => spec_CfgLeast.l1 k (passL xs ls false).1 (passL xs ls false).2 (H : Int) xs) res ∧ Ev (fun k => impl_Cfg_least.l0 k (passL xs ls false).1 (passL xs ls false).2 (H : Int) xs) res := by
      cases hb : (passL xs ls false).2 with
      | true =>
        rcases h2 hb with e | e
        · cases e
        · exact ih _ (by omega) _ (Nat.le_refl _) hl2
      | false =>
        refine ⟨_, hl2, ?_, ?_⟩
        · refine Ev.step (fun k => by rw [spec_CfgLeast.l1]) ?_
          exact ifn (by simp) (Ev.now _)
        · refine Ev.step (fun k => by rw [impl_Cfg_least.l0]) ?_
          exact ifn (by simp) (Ev.now _)
    obtain ⟨res, q0, q1, q2⟩ := key
    refine ⟨res, q0, ?_, ?_⟩
    · refine Ev.step (fun k => by rw [spec_CfgLeast.l1]) ?_
      exact ifp rfl (spec_passL H hH xs hx hp res xs.length 0 ls false (by omega) hl (by simpa using q1))
    · refine Ev.step (fun k => by rw [impl_Cfg_least.l0]) ?_
      exact ifp rfl (impl_passL H hH xs hx hp res xs.length 0 ls false (by omega) hl (by simpa using q2))

theorem cfg_in {H : Int} {xs : List Prod_} (h : cfgOk H xs = true) : ∃ n : Nat, H = (n : Int) ∧ 1 ≤ n ∧ n ≤ 200 ∧ xs.length ≤ 400 ∧ InP n xs := by
  obtain ⟨h1, h2, h3, h4⟩ := cfgOk_parts h
  obtain ⟨n, rfl⟩ := Int.eq_ofNat_of_zero_le (by omega : 0 ≤ H)
  refine ⟨n, rfl, by omega, by omega, h3, fun x hx => ?_⟩
  obtain ⟨j, hj, rfl⟩ := List.getElem_of_mem hx
  obtain ⟨q1, q2⟩ := h4 j hj
  rw [pd_nat xs j hj] at q2
  simp only [headOk, pd_nat xs j hj, decide_eq_true_eq] at q1
  refine ⟨by omega, by omega, by omega, fun s hs => ?_⟩
  have := List.all_eq_true.1 q2 s hs
  simp only [symOk, decide_eq_true_eq] at this
  split at this <;> omega

theorem lens_start (n : Nat) : Lens n (List.replicate n (-1)) := by
  refine ⟨by simp, fun j hj => ?_⟩
  rw [rd_nat _ j (by simpa using hj)]
  simp

/-- The lengths are the same on both sides. -/
theorem least_both (n : Nat) (xs : List Prod_) (hok : cfgOk (n : Int) xs = true) (hl : ∀ x ∈ xs, x.f1.length ≤ 1000000000000000) :
    ∃ res, Lens n res ∧ Ev (fun k => spec_CfgLeast.f k (n : Int) xs) res ∧ Ev (fun k => impl_Cfg_least.f k (n : Int) xs) res := by
  obtain ⟨m, hm, h1, h2, h3, hp⟩ := cfg_in hok
  obtain rfl : n = m := by omega
  obtain ⟨res, q0, q1, q2⟩ := both_least n h2 xs h3 hp _ _ (Nat.le_refl _) (lens_start n)
  refine ⟨res, q0, ?_, ?_⟩
  · unfold spec_CfgLeast.f
    refine bs ?_
    refine Ev.bind (spec_cfgok_ev (n : Int) xs (by omega) hl) ?_
    refine ifp hok ?_
    have loop : ∀ (d i : Nat), i + d = n → Ev (fun k => spec_CfgLeast.l0 k (List.replicate i (-1)) (i : Int) (n : Int) xs) res := by
      intro d
      induction d with
      | zero =>
        intro i hi
        obtain rfl : i = n := by omega
        refine Ev.step (fun k => by rw [spec_CfgLeast.l0]) ?_
        exact ifn (by omega) q1
      | succ d ih =>
        intro i hi
        refine Ev.step (fun k => by rw [spec_CfgLeast.l0]) ?_
        refine ifp (by omega) (ifp (by simp; omega) ?_)
        rw [step64 (i := i) (n := n) (by omega) (by omega), ← List.replicate_succ']
        exact ih (i + 1) (by omega)
    exact loop n 0 (by omega)
  · unfold impl_Cfg_least.f
    refine b0 (a := List.replicate n (-1)) ?_ q2
    unfold slices_Repeat_int_int.f
    rw [if_pos (by refine ⟨rfl, ?_, ?_⟩ <;> omega)]
    rfl

/-! #### which heads are needed -/
def Uses (H : Nat) (u : List Bool) : Prop := u.length = H
abbrev ub (u : List Bool) (i : Int) : Bool := rdOf false u i

def markU : List Sym → List Bool → Bool → List Bool × Bool
  | [], u, ag => (u, ag)
  | s :: r, u, ag => if s.f0 ≥ 0 ∧ ub u s.f0 = false then markU r (u.set s.f0.toNat true) true else markU r u ag

def passU (ls : List Int) : List Prod_ → List Bool → Bool → List Bool × Bool
  | [], u, ag => (u, ag)
  | p :: r, u, ag => if ub u p.f0 = false ∨ sumB ls p.f1 0 < 0 then passU ls r u ag else passU ls r (markU p.f1 u ag).1 (markU p.f1 u ag).2

def nf (u : List Bool) : Nat := (u.filter (fun b => !b)).length

theorem nf_set (u : List Bool) (i : Nat) (h : i < u.length) (hf : u[i] = false) : nf (u.set i true) + 1 = nf u := by
  induction u generalizing i with
  | nil => simp at h
  | cons x l ih =>
    cases i with
    | zero =>
      simp only [List.getElem_cons_zero] at hf
      subst hf
      simp [nf]
    | succ i =>
      have := ih i (by simpa using h) (by simpa using hf)
      cases x <;> simp [nf] at this ⊢ <;> omega

theorem markU_len : ∀ (b : List Sym) (u : List Bool) (ag : Bool), (markU b u ag).1.length = u.length
  | [], _, _ => rfl
  | s :: r, u, ag => by
    simp only [markU]
    split
    · rw [markU_len r]; simp
    · exact markU_len r u ag

theorem passU_len (ls : List Int) : ∀ (b : List Prod_) (u : List Bool) (ag : Bool), (passU ls b u ag).1.length = u.length
  | [], _, _ => rfl
  | s :: r, u, ag => by
    simp only [passU]
    split
    · exact passU_len ls r u ag
    · rw [passU_len ls r]; exact markU_len _ _ _

theorem markU_nf (H : Nat) : ∀ (b : List Sym) (u : List Bool) (ag : Bool), InR H b → u.length = H → nf (markU b u ag).1 ≤ nf u ∧ ((markU b u ag).2 = true → ag = true ∨ nf (markU b u ag).1 < nf u)
  | [], _, _, _, _ => ⟨Nat.le_refl _, fun h => Or.inl h⟩
  | s :: r, u, ag, hr, hu => by
    have hs := hr s List.mem_cons_self
    have hr' : InR H r := fun x hx => hr x (List.mem_cons_of_mem _ hx)
    simp only [markU]
    split
    · rename_i hc
      have hi : s.f0.toNat < u.length := by omega
      obtain ⟨a, b⟩ := markU_nf H r (u.set s.f0.toNat true) true hr' (by simpa using hu)
      have hg : u[s.f0.toNat] = false := by
        have := rdOf_nat false u s.f0.toNat hi
        rw [Int.toNat_of_nonneg hc.1] at this
        rw [← this]
        exact hc.2
      have := nf_set u s.f0.toNat hi hg
      exact ⟨by omega, fun _ => Or.inr (by omega)⟩
    · exact markU_nf H r u ag hr' hu

theorem passU_nf (H : Nat) (ls : List Int) : ∀ (b : List Prod_) (u : List Bool) (ag : Bool), InP H b → u.length = H → nf (passU ls b u ag).1 ≤ nf u ∧ ((passU ls b u ag).2 = true → ag = true ∨ nf (passU ls b u ag).1 < nf u)
  | [], _, _, _, _ => ⟨Nat.le_refl _, fun h => Or.inl h⟩
  | p :: r, u, ag, hp, hu => by
    obtain ⟨_, _, _, p4⟩ := hp p List.mem_cons_self
    have hr' : InP H r := fun x hx => hp x (List.mem_cons_of_mem _ hx)
    simp only [passU]
    split
    · exact passU_nf H ls r u ag hr' hu
    · obtain ⟨a1, a2⟩ := markU_nf H p.f1 u ag p4 hu
      obtain ⟨b1, b2⟩ := passU_nf H ls r (markU p.f1 u ag).1 (markU p.f1 u ag).2 hr' (by rw [markU_len]; exact hu)
      refine ⟨by omega, fun h => ?_⟩
      rcases b2 h with q | q
      · rcases a2 q with q2 | q2
        · exact Or.inl q2
        · exact Or.inr (by omega)
      · exact Or.inr (by omega)

theorem ub_set_self (u : List Bool) (i : Nat) (h : i < u.length) : True := trivial

theorem spec_markU (H : Nat) (hH : H ≤ 200) (xs : List Prod_) (hx : xs.length ≤ 400) (ls : List Int) (i : Nat) (hi : i < xs.length) (p0 : Int) (b : List Sym) (hb : b.length ≤ 160) (hr : InR H b) (res : Int × List Prod_) :
    ∀ (d j : Nat) (u : List Bool) (ag : Bool), j + d = b.length → u.length = H →
    Ev (fun k => spec_CfgTrim.l1 k ls (markU (b.drop j) u ag).1 (markU (b.drop j) u ag).2 ((i + 1 : Nat) : Int) (H : Int) xs) res → Ev (fun k => spec_CfgTrim.l2 k ls u ag (i : Int) (j : Int) (H : Int) xs p0 b) res := by
  intro d
  induction d with
  | zero =>
    intro j u ag hj hu hn
    refine Ev.step (fun k => by rw [spec_CfgTrim.l2]) ?_
    rw [List.drop_eq_nil_of_le (by omega)] at hn
    rw [step64 hi (by omega)]
    exact ifn (by omega) hn
  | succ d ih =>
    intro j u ag hj hu hn
    have hlt : j < b.length := by omega
    have hs := hr b[j] (List.getElem_mem hlt)
    refine Ev.step (fun k => by rw [spec_CfgTrim.l2]) ?_
    refine ifp (by omega) (ifp (by omega) ?_)
    rw [sy_get b j hlt, step64 (n := b.length) hlt (by omega)]
    rw [List.drop_eq_getElem_cons hlt] at hn
    simp only [markU] at hn
    by_cases g1 : (b[j]).f0 ≥ 0
    · refine ifp g1 (ifp (by omega) (ifp (by omega) ?_))
      cases g2 : ub u (b[j]).f0 with
      | true =>
        rw [if_neg (by rw [g2]; simp)] at hn
        exact ifp g2 (ih (j + 1) u ag (by omega) hu hn)
      | false =>
        rw [if_pos ⟨g1, g2⟩] at hn
        exact ifn (by rw [show rdOf false u (b[j]).f0 = false from g2]; simp) (ih (j + 1) _ _ (by omega) (by simpa using hu) hn)
    · rw [if_neg (by omega)] at hn
      exact ifn g1 (ih (j + 1) u ag (by omega) hu hn)

theorem impl_markU (H : Nat) (hH : H ≤ 200) (xs : List Prod_) (hx : xs.length ≤ 400) (ls : List Int) (i : Nat) (hi : i < xs.length) (b : List Sym) (hb : b.length ≤ 160) (hr : InR H b) (res : Int × List Prod_) :
    ∀ (d j : Nat) (u : List Bool) (ag : Bool), j + d = b.length → u.length = H →
    Ev (fun k => impl_Cfg_trim.l1 k ls (markU (b.drop j) u ag).1 (markU (b.drop j) u ag).2 xs (xs.length : Int) ((i + 1 : Nat) : Int) (H : Int) xs) res → Ev (fun k => impl_Cfg_trim.l2 k ls u ag xs (xs.length : Int) (i : Int) b (b.length : Int) (j : Int) (H : Int) xs) res := by
  intro d
  induction d with
  | zero =>
    intro j u ag hj hu hn
    refine Ev.step (fun k => by rw [impl_Cfg_trim.l2]) ?_
    rw [List.drop_eq_nil_of_le (by omega)] at hn
    rw [step64 hi (by omega)]
    exact ifn (by omega) hn
  | succ d ih =>
    intro j u ag hj hu hn
    have hlt : j < b.length := by omega
    have hs := hr b[j] (List.getElem_mem hlt)
    refine Ev.step (fun k => by rw [impl_Cfg_trim.l2]) ?_
    refine ifp (by omega) (ifp (by omega) (ifp (by omega) ?_))
    rw [sy_get b j hlt, step64 (n := b.length) hlt (by omega)]
    rw [List.drop_eq_getElem_cons hlt] at hn
    simp only [markU] at hn
    by_cases g1 : (b[j]).f0 ≥ 0
    · refine ifp g1 (ifp (by omega) (ifp (by omega) ?_))
      cases g2 : ub u (b[j]).f0 with
      | true =>
        rw [if_neg (by rw [g2]; simp)] at hn
        exact ifp g2 (ih (j + 1) u ag (by omega) hu hn)
      | false =>
        rw [if_pos ⟨g1, g2⟩] at hn
        exact ifn (by rw [show rdOf false u (b[j]).f0 = false from g2]; simp) (ih (j + 1) _ _ (by omega) (by simpa using hu) hn)
    · rw [if_neg (by omega)] at hn
      exact ifn g1 (ih (j + 1) u ag (by omega) hu hn)

theorem spec_passU (H : Nat) (hH : H ≤ 200) (xs : List Prod_) (hx : xs.length ≤ 400) (hp : InP H xs) (ls : List Int) (hls : Lens H ls) (res : Int × List Prod_) : ∀ (d i : Nat) (u : List Bool) (ag : Bool), i + d = xs.length → u.length = H →
    Ev (fun k => spec_CfgTrim.l0 k ls (passU ls (xs.drop i) u ag).1 (passU ls (xs.drop i) u ag).2 (H : Int) xs) res → Ev (fun k => spec_CfgTrim.l1 k ls u ag (i : Int) (H : Int) xs) res := by
  intro d
  induction d with
  | zero =>
    intro i u ag hi hu hn
    refine Ev.step (fun k => by rw [spec_CfgTrim.l1]) ?_
    rw [List.drop_eq_nil_of_le (by omega)] at hn
    exact ifn (by omega) hn
  | succ d ih =>
    intro i u ag hi hu hn
    have hlt : i < xs.length := by omega
    obtain ⟨p1, p2, p3, p4⟩ := hp xs[i] (List.getElem_mem hlt)
    refine Ev.step (fun k => by rw [spec_CfgTrim.l1]) ?_
    refine ifp (by omega) (ifp (by omega) ?_)
    rw [pd_get xs i hlt]
    refine ifp p1 (ifp (by omega) ?_)
    rw [List.drop_eq_getElem_cons hlt] at hn
    simp only [passU] at hn
    have skip : Ev (fun k => spec_CfgTrim.l0 k ls (passU ls (xs.drop (i + 1)) u ag).1 (passU ls (xs.drop (i + 1)) u ag).2 (H : Int) xs) res → Ev (fun k => spec_CfgTrim.j2 k ls u ag (i : Int) true (H : Int) xs (xs[i]).f0 (xs[i]).f1) res := fun hq => by
      refine Ev.step (fun k => by rw [spec_CfgTrim.j2]) ?_
      rw [step64 hlt (by omega)]
      exact ifp rfl (ih (i + 1) u ag (by omega) hu hq)
    cases g1 : ub u (xs[i]).f0 with
    | false =>
      rw [if_pos (Or.inl g1)] at hn
      exact ifn (by rw [show rdOf false u (xs[i]).f0 = false from g1]; simp) (skip hn)
    | true =>
      refine ifp g1 (Ev.bind (spec_body H ls hls _ p3 p4) ?_)
      by_cases g2 : sumB ls (xs[i]).f1 0 < 0
      · rw [if_pos (Or.inr g2)] at hn
        rw [decide_eq_true g2]
        exact skip hn
      · rw [if_neg (by rw [g1]; simp; omega)] at hn
        rw [decide_eq_false g2]
        refine Ev.step (fun k => by rw [spec_CfgTrim.j2]) ?_
        refine ifn (by simp) ?_
        exact spec_markU H hH xs hx ls i hlt _ (xs[i]).f1 p3 p4 res (xs[i]).f1.length 0 u ag (by omega) hu (by
          rw [List.drop_zero]
          exact ih (i + 1) _ _ (by omega) (by rw [markU_len]; exact hu) hn)

theorem impl_passU (H : Nat) (hH : H ≤ 200) (xs : List Prod_) (hx : xs.length ≤ 400) (hp : InP H xs) (ls : List Int) (hls : Lens H ls) (res : Int × List Prod_) : ∀ (d i : Nat) (u : List Bool) (ag : Bool), i + d = xs.length → u.length = H →
    Ev (fun k => impl_Cfg_trim.l0 k ls (passU ls (xs.drop i) u ag).1 (passU ls (xs.drop i) u ag).2 (H : Int) xs) res → Ev (fun k => impl_Cfg_trim.l1 k ls u ag xs (xs.length : Int) (i : Int) (H : Int) xs) res := by
  intro d
  induction d with
  | zero =>
    intro i u ag hi hu hn
    refine Ev.step (fun k => by rw [impl_Cfg_trim.l1]) ?_
    rw [List.drop_eq_nil_of_le (by omega)] at hn
    exact ifn (by omega) hn
  | succ d ih =>
    intro i u ag hi hu hn
    have hlt : i < xs.length := by omega
    obtain ⟨p1, p2, p3, p4⟩ := hp xs[i] (List.getElem_mem hlt)
    refine Ev.step (fun k => by rw [impl_Cfg_trim.l1]) ?_
    refine ifp (by omega) (ifp (by omega) (ifp (by omega) ?_))
    rw [pd_get xs i hlt]
    refine ifp p1 (ifp (by omega) ?_)
    rw [List.drop_eq_getElem_cons hlt] at hn
    simp only [passU] at hn
    have skip : Ev (fun k => impl_Cfg_trim.l0 k ls (passU ls (xs.drop (i + 1)) u ag).1 (passU ls (xs.drop (i + 1)) u ag).2 (H : Int) xs) res → Ev (fun k => impl_Cfg_trim.j2 k ls u ag xs (xs.length : Int) (i : Int) true (H : Int) xs (xs[i]).f0 (xs[i]).f1) res := fun hq => by
      refine Ev.step (fun k => by rw [impl_Cfg_trim.j2]) ?_
      rw [step64 hlt (by omega)]
      exact ifp rfl (ih (i + 1) u ag (by omega) hu hq)
    cases g1 : ub u (xs[i]).f0 with
    | false =>
      rw [if_pos (Or.inl g1)] at hn
      exact ifn (by rw [show rdOf false u (xs[i]).f0 = false from g1]; simp) (skip hn)
    | true =>
      refine ifp g1 (Ev.bind (impl_body H ls hls _ p3 p4) ?_)
      by_cases g2 : sumB ls (xs[i]).f1 0 < 0
      · rw [if_pos (Or.inr g2)] at hn
        rw [decide_eq_true g2]
        exact skip hn
      · rw [if_neg (by rw [g1]; simp; omega)] at hn
        rw [decide_eq_false g2]
        refine Ev.step (fun k => by rw [impl_Cfg_trim.j2]) ?_
        refine ifn (by simp) ?_
        exact impl_markU H hH xs hx ls i hlt (xs[i]).f1 p3 p4 res (xs[i]).f1.length 0 u ag (by omega) hu (by
          rw [List.drop_zero]
          exact ih (i + 1) _ _ (by omega) (by rw [markU_len]; exact hu) hn)

/-! #### those that stay -/
def stays (ls : List Int) (u : List Bool) (p : Prod_) : Bool := ub u p.f0 && decide (sumB ls p.f1 0 ≥ 0)

theorem spec_keep (H : Nat) (xs : List Prod_) (hx : xs.length ≤ 400) (hp : InP H xs) (ls : List Int) (hls : Lens H ls) (u : List Bool) (hu : u.length = H) : ∀ (d i : Nat) (out : List Prod_), i + d = xs.length → out.length ≤ i →
    Ev (fun k => spec_CfgTrim.l3 k ls u (i : Int) (H : Int) xs (H : Int) out) ((H : Int), out ++ (xs.drop i).filter (stays ls u)) := by
  intro d
  induction d with
  | zero =>
    intro i out hi ho
    refine Ev.step (fun k => by rw [spec_CfgTrim.l3]) ?_
    rw [List.drop_eq_nil_of_le (by omega)]
    exact ifn (by omega) (Ev_eq (Ev.now _) (by simp))
  | succ d ih =>
    intro i out hi ho
    have hlt : i < xs.length := by omega
    obtain ⟨p1, p2, p3, p4⟩ := hp xs[i] (List.getElem_mem hlt)
    refine Ev.step (fun k => by rw [spec_CfgTrim.l3]) ?_
    refine ifp (by omega) (ifp (by omega) ?_)
    rw [pd_get xs i hlt, step64 hlt (by omega), List.drop_eq_getElem_cons hlt, List.filter_cons]
    refine ifp p1 (ifp (by omega) ?_)
    have skip : stays ls u xs[i] = false → Ev (fun k => spec_CfgTrim.l3 k ls u ((i + 1 : Nat) : Int) (H : Int) xs (H : Int) out) ((H : Int), out ++ if stays ls u xs[i] = true then xs[i] :: (xs.drop (i + 1)).filter (stays ls u) else (xs.drop (i + 1)).filter (stays ls u)) := fun h => by
      rw [h]
      exact ih (i + 1) out (by omega) (by omega)
    cases g1 : ub u (xs[i]).f0 with
    | false => exact ifn (by rw [show rdOf false u (xs[i]).f0 = false from g1]; simp) (skip (by simp [stays, g1]))
    | true =>
      refine ifp g1 (Ev.bind (spec_body H ls hls _ p3 p4) ?_)
      by_cases g2 : sumB ls (xs[i]).f1 0 ≥ 0
      · refine ifp g2 (bs ?_)
        refine ifp (by simp; omega) (ifp (by omega) ?_)
        rw [show stays ls u xs[i] = true by simp [stays, g1, g2], if_pos rfl, List.nil_append]
        exact Ev_eq (ih (i + 1) (out ++ [xs[i]]) (by omega) (by simp; omega)) (by simp)
      · exact ifn g2 (skip (by simp [stays, g2]))

theorem impl_keep (H : Nat) (xs : List Prod_) (hx : xs.length ≤ 400) (hp : InP H xs) (ls : List Int) (hls : Lens H ls) (u : List Bool) (hu : u.length = H) : ∀ (d i : Nat) (out : List Prod_), i + d = xs.length → out.length ≤ i →
    Ev (fun k => impl_Cfg_trim.l3 k ls u xs (xs.length : Int) (i : Int) (H : Int) out) ((H : Int), out ++ (xs.drop i).filter (stays ls u)) := by
  intro d
  induction d with
  | zero =>
    intro i out hi ho
    refine Ev.step (fun k => by rw [impl_Cfg_trim.l3]) ?_
    rw [List.drop_eq_nil_of_le (by omega)]
    exact ifn (by omega) (Ev_eq (Ev.now _) (by simp))
  | succ d ih =>
    intro i out hi ho
    have hlt : i < xs.length := by omega
    obtain ⟨p1, p2, p3, p4⟩ := hp xs[i] (List.getElem_mem hlt)
    refine Ev.step (fun k => by rw [impl_Cfg_trim.l3]) ?_
    refine ifp (by omega) (ifp (by omega) (ifp (by omega) ?_))
    rw [pd_get xs i hlt, step64 hlt (by omega), List.drop_eq_getElem_cons hlt, List.filter_cons]
    refine ifp p1 (ifp (by omega) ?_)
    have skip : stays ls u xs[i] = false → Ev (fun k => impl_Cfg_trim.l3 k ls u xs (xs.length : Int) ((i + 1 : Nat) : Int) (H : Int) out) ((H : Int), out ++ if stays ls u xs[i] = true then xs[i] :: (xs.drop (i + 1)).filter (stays ls u) else (xs.drop (i + 1)).filter (stays ls u)) := fun h => by
      rw [h]
      exact ih (i + 1) out (by omega) (by omega)
    cases g1 : ub u (xs[i]).f0 with
    | false => exact ifn (by rw [show rdOf false u (xs[i]).f0 = false from g1]; simp) (skip (by simp [stays, g1]))
    | true =>
      refine ifp g1 (Ev.bind (impl_body H ls hls _ p3 p4) ?_)
      by_cases g2 : sumB ls (xs[i]).f1 0 ≥ 0
      · refine ifp g2 (bs ?_)
        refine ifp (by simp; omega) (ifp (by omega) ?_)
        rw [show stays ls u xs[i] = true by simp [stays, g1, g2], if_pos rfl, List.nil_append]
        exact Ev_eq (ih (i + 1) (out ++ [xs[i]]) (by omega) (by simp; omega)) (by simp)
      · exact ifn g2 (skip (by simp [stays, g2]))

theorem both_trim (H : Nat) (hH : H ≤ 200) (xs : List Prod_) (hx : xs.length ≤ 400) (hp : InP H xs) (ls : List Int) (hls : Lens H ls) : ∀ (m : Nat) (u : List Bool), nf u ≤ m → u.length = H →
    ∃ v : List Bool, Ev (fun k => spec_CfgTrim.l0 k ls u true (H : Int) xs) ((H : Int), xs.filter (stays ls v)) ∧ Ev (fun k => impl_Cfg_trim.l0 k ls u true (H : Int) xs) ((H : Int), xs.filter (stays ls v)) := by
  intro m
  induction m using Nat.strongRecOn with
  | _ m ih =>
    intro u hm hu
    have hl2 := passU_len ls xs u false
    obtain ⟨h1, h2⟩ := passU_nf H ls xs u false hp hu
    have key : ∃ v : List Bool, Ev (fun k => spec_CfgTrim.l0 k ls (passU ls xs u false).1 (passU ls xs u false).2 (H : Int) xs) ((H : Int), xs.filter (stays ls v)) ∧ Ev (fun k => impl_Cfg_trim.l0 k ls (passU ls xs u false).1 (passU ls xs u false).2 (H : Int) xs) ((H : Int), xs.filter (stays ls v)) := by
      cases hb : (passU ls xs u false).2 with
      | true =>
        rcases h2 hb with e | e
        · cases e
        · exact ih _ (by omega) _ (Nat.le_refl _) (by omega)
      | false =>
        refine ⟨(passU ls xs u false).1, ?_, ?_⟩
        · refine Ev.step (fun k => by rw [spec_CfgTrim.l0]) ?_
          exact ifn (by simp) (Ev_eq (spec_keep H xs hx hp ls hls _ (by omega) xs.length 0 [] (by omega) (by simp)) (by simp))
        · refine Ev.step (fun k => by rw [impl_Cfg_trim.l0]) ?_
          exact ifn (by simp) (Ev_eq (impl_keep H xs hx hp ls hls _ (by omega) xs.length 0 [] (by omega) (by simp)) (by simp))
    obtain ⟨v, q1, q2⟩ := key
    refine ⟨v, ?_, ?_⟩
    · refine Ev.step (fun k => by rw [spec_CfgTrim.l0]) ?_
      exact ifp rfl (spec_passU H hH xs hx hp ls hls _ xs.length 0 u false (by omega) hu (by simpa using q1))
    · refine Ev.step (fun k => by rw [impl_Cfg_trim.l0]) ?_
      exact ifp rfl (impl_passU H hH xs hx hp ls hls _ xs.length 0 u false (by omega) hu (by simpa using q2))

/-- Both trim alike. -/
theorem trim_both (H : Int) (xs : List Prod_) (hx : xs.length ≤ 1000000000000000) (hl : ∀ x ∈ xs, x.f1.length ≤ 1000000000000000) :
    ∃ (G : Int) (ys : List Prod_), ys.length ≤ xs.length ∧ (∀ y ∈ ys, y ∈ xs) ∧ Ev (fun k => spec_CfgTrim.f k H xs) (G, ys) ∧ Ev (fun k => impl_CfgTrim.f k H xs) (G, ys) := by
  unfold spec_CfgTrim.f impl_CfgTrim.f impl_Cfg_trim.f
  cases hok : cfgOk H xs with
  | false =>
    refine ⟨0, [], by simp, by simp, ?_, ?_⟩
    · refine Ev.bind (spec_cfgok_ev H xs hx hl) ?_
      rw [hok]
      exact ifn (by simp) (Ev.now _)
    · refine Ev.bind (impl_cfgok_ev H xs hx) ?_
      rw [hok]
      exact ifn (by simp) (Ev.now _)
  | true =>
    obtain ⟨n, rfl, h1, h2, h3, hp⟩ := cfg_in hok
    obtain ⟨ls, q0, q1, q2⟩ := least_both n xs hok hl
    obtain ⟨v, t1, t2⟩ := both_trim n h2 xs h3 hp ls q0 _ ((List.replicate n false).set 0 true) (Nat.le_refl _) (by simp)
    refine ⟨(n : Int), xs.filter (stays ls v), List.length_filter_le _ _, fun y hy => (List.mem_filter.1 hy).1, ?_, ?_⟩
    · refine Ev.bind (spec_cfgok_ev _ xs hx hl) ?_
      rw [hok]
      refine ifp rfl (Ev.bind q1 (ifp (by omega) (ifp (by omega) (bs ?_))))
      rw [Int.toNat_natCast]
      exact ifp (by simp; omega) t1
    · refine Ev.bind (impl_cfgok_ev _ xs hx) ?_
      rw [hok]
      refine ifp rfl ?_
      refine Ev.bind (a := ((n : Int), xs.filter (stays ls v))) ?_ (Ev.now _)
      refine Ev.bind q2 (ifp (by omega) (ifp (by omega) (bs ?_)))
      rw [Int.toNat_natCast]
      exact ifp (by simp; omega) t2

/-! ### Marks in productions -/
def symAt (m : Int) : Nat → List Sym
  | 0 => []
  | d + 1 => ⟨m, m + 1, m + 2⟩ :: symAt (m + 3) d

theorem symAt_len : ∀ (d : Nat) (m : Int), (symAt m d).length = d
  | 0, _ => rfl
  | d + 1, m => by simp [symAt, symAt_len d]

theorem mark_syms_l0 : ∀ (d i : Nat) (pre rest : List Sym) (m : Int), pre.length = i → rest.length = d → 0 ≤ m → m + 3 * d ≤ 1000000000000000 → i + d ≤ 1000000000000000 →
    Ev (fun k => laws_markSymS.l0 k (pre ++ rest) m (i : Int)) (m + 3 * d, pre ++ symAt m d) := by
  intro d
  induction d with
  | zero =>
    intro i pre rest m hi hr h0 h1 h2
    obtain rfl := List.length_eq_zero_iff.1 hr
    refine Ev.step (fun k => by rw [laws_markSymS.l0]) ?_
    exact ifn (by simp; omega) (Ev_eq (Ev.now _) (by simp [symAt]))
  | succ d ih =>
    intro i pre rest m hi hr h0 h1 h2
    match rest, hr with
    | s :: rest, hr =>
      have hrl : rest.length = d := by simpa using hr
      have hlt : i < (pre ++ s :: rest).length := by simp; omega
      refine Ev.step (fun k => by rw [laws_markSymS.l0]) ?_
      refine ifp (by omega) (ifp (by omega) (bs (bs ?_)))
      have w1 : wrap64 (m + 1) = m + 1 := w64 (by omega) (by omega)
      have w2 : wrap64 (m + 1 + 1) = m + 2 := by rw [w64 (by omega) (by omega)]; omega
      have w3 : wrap64 (m + 2 + 1) = m + 3 := by rw [w64 (by omega) (by omega)]; omega
      rw [w1, w2, w3, step64 (n := (pre ++ s :: rest).length) hlt (by simp; omega), Int.toNat_natCast]
      have e1 : ∀ y : Sym, (pre ++ s :: rest).set i y = pre ++ y :: rest := fun y => by rw [List.set_append_right _ _ (by omega)]; simp [hi]
      have e2 : ∀ y z : Sym, (pre ++ y :: rest).set i z = pre ++ z :: rest := fun y z => by rw [List.set_append_right _ _ (by omega)]; simp [hi]
      have e3 : ∀ y : Sym, rd_T44 (pre ++ y :: rest) (i : Int) = y := fun y => by
        rw [sy_get _ i (by simp; omega)]
        simp [List.getElem_append_right (show pre.length ≤ i by omega), hi]
      simp only [e1, e2, e3]
      have := ih (i + 1) (pre ++ [⟨m, m + 1, m + 2⟩]) rest (m + 3) (by simp [hi]) hrl (by omega) (by omega) (by omega)
      simp only [List.append_assoc, List.singleton_append] at this
      exact Ev_eq this (by simp [symAt]; omega)

theorem mark_syms (b : List Sym) (m : Int) (h0 : 0 ≤ m) (h1 : m + 3 * b.length ≤ 1000000000000000) : Ev (fun k => laws_markSymS.f k b m) (m + 3 * b.length, symAt m b.length) := by
  unfold laws_markSymS.f
  have := mark_syms_l0 b.length 0 [] b m rfl rfl h0 h1 (by omega)
  simpa using this

theorem held_syms_l0 : ∀ (d i : Nat) (pre : List Sym) (m : Int), pre.length = i → 0 ≤ m → m + 3 * d ≤ 1000000000000000 → i + d ≤ 1000000000000000 →
    Ev (fun k => laws_heldSymS.l0 k (pre ++ symAt m d) m (i : Int)) (m + 3 * d) := by
  intro d
  induction d with
  | zero =>
    intro i pre m hi h0 h1 h2
    refine Ev.step (fun k => by rw [laws_heldSymS.l0]) ?_
    exact ifn (by simp [symAt]; omega) (Ev_eq (Ev.now _) (by simp))
  | succ d ih =>
    intro i pre m hi h0 h1 h2
    have hlt : i < (pre ++ symAt m (d + 1)).length := by simp [symAt_len]; omega
    have hg : (pre ++ symAt m (d + 1))[i] = (⟨m, m + 1, m + 2⟩ : Sym) := by
      simp only [symAt]
      rw [List.getElem_append_right (by omega)]
      simp [hi]
    refine Ev.step (fun k => by rw [laws_heldSymS.l0]) ?_
    refine ifp (by omega) (ifp (by omega) ?_)
    have w1 : wrap64 (m + 1) = m + 1 := w64 (by omega) (by omega)
    have w2 : wrap64 (m + 1 + 1) = m + 2 := by rw [w64 (by omega) (by omega)]; omega
    have w3 : wrap64 (m + 2 + 1) = m + 3 := by rw [w64 (by omega) (by omega)]; omega
    rw [w1, w2, w3, step64 (n := (pre ++ symAt m (d + 1)).length) hlt (by simp [symAt_len]; omega), sy_get _ i hlt, hg]
    refine ifp rfl (ifp rfl (ifp rfl ?_))
    have := ih (i + 1) (pre ++ [⟨m, m + 1, m + 2⟩]) (m + 3) (by simp [hi]) (by omega) (by omega) (by omega)
    simp only [List.append_assoc, List.singleton_append] at this
    exact Ev_eq this (by omega)

theorem held_syms (d : Nat) (m : Int) (h0 : 0 ≤ m) (h1 : m + 3 * d ≤ 1000000000000000) : Ev (fun k => laws_heldSymS.f k (symAt m d) m) (m + 3 * d) := by
  unfold laws_heldSymS.f
  have := held_syms_l0 d 0 [] m rfl h0 h1 (by omega)
  simpa using this

def prodAt : Int → List Prod_ → List Prod_
  | _, [] => []
  | m, p :: r => ⟨m, symAt (m + 1) p.f1.length⟩ :: prodAt (m + 1 + 3 * p.f1.length) r

def costP : List Prod_ → Int
  | [] => 0
  | p :: r => 1 + 3 * p.f1.length + costP r

theorem costP_nn : ∀ l, (l.length : Int) ≤ costP l
  | [] => by simp [costP]
  | p :: r => by have := costP_nn r; simp only [costP, List.length_cons]; omega

theorem prodAt_len : ∀ (l : List Prod_) (m : Int), (prodAt m l).length = l.length
  | [], _ => rfl
  | p :: r, m => by simp [prodAt, prodAt_len r]

theorem mark_prods : ∀ (l : List Prod_) (m : Int), 0 ≤ m → m + costP l ≤ 1000000000000000 → Ev (fun k => laws_markProdS.go k l m) (m + costP l, prodAt m l)
  | [], m, _, _ => by
    simp only [laws_markProdS.go]
    exact Ev_eq (Ev.now _) (by simp [costP, prodAt])
  | p :: r, m, h0, h1 => by
    simp only [costP] at h1
    have hr := costP_nn r
    simp only [laws_markProdS.go]
    rw [w64 (i := m + 1) (by omega) (by omega)]
    refine Ev.bind (mark_syms p.f1 (m + 1) (by omega) (by omega)) ?_
    refine Ev.bind (mark_prods r (m + 1 + 3 * p.f1.length) (by omega) (by omega)) ?_
    exact Ev_eq (Ev.now _) (by simp only [costP, prodAt, Prod.mk.injEq, and_true]; omega)

theorem held_prods_l0 : ∀ (l : List Prod_) (i : Nat) (pre : List Prod_) (m : Int), pre.length = i → 0 ≤ m → m + costP l ≤ 1000000000000000 → i + l.length ≤ 1000000000000000 →
    Ev (fun k => laws_heldProdS.l0 k (pre ++ prodAt m l) m (i : Int)) (m + costP l) := by
  intro l
  induction l with
  | nil =>
    intro i pre m hi h0 h1 h2
    refine Ev.step (fun k => by rw [laws_heldProdS.l0]) ?_
    exact ifn (by simp [prodAt]; omega) (Ev_eq (Ev.now _) (by simp [costP]))
  | cons p r ih =>
    intro i pre m hi h0 h1 h2
    simp only [costP] at h1
    simp only [List.length_cons] at h2
    have hr := costP_nn r
    have hlt : i < (pre ++ prodAt m (p :: r)).length := by simp [prodAt_len]; omega
    have hg : (pre ++ prodAt m (p :: r))[i] = (⟨m, symAt (m + 1) p.f1.length⟩ : Prod_) := by
      simp only [prodAt]
      rw [List.getElem_append_right (by omega)]
      simp [hi]
    refine Ev.step (fun k => by rw [laws_heldProdS.l0]) ?_
    refine ifp (by omega) (ifp (by omega) ?_)
    rw [w64 (i := m + 1) (by omega) (by omega), step64 (n := (pre ++ prodAt m (p :: r)).length) hlt (by simp [prodAt_len]; omega), pd_get _ i hlt, hg]
    refine ifp rfl (Ev.bind (held_syms p.f1.length (m + 1) (by omega) (by omega)) ?_)
    refine ifn (by omega) ?_
    have := ih (i + 1) (pre ++ [⟨m, symAt (m + 1) p.f1.length⟩]) (m + 1 + 3 * p.f1.length) (by simp [hi]) (by omega) (by omega) (by omega)
    simp only [List.append_assoc, List.singleton_append] at this
    exact Ev_eq this (by simp only [costP]; omega)

theorem held_cfg (G : Int) (l : List Prod_) (h1 : 1 + costP l ≤ 1000000000000000) : Ev (fun k => laws_heldCfg.f k G (prodAt 1 l) 1) (1 + costP l) := by
  have hr := costP_nn l
  unfold laws_heldCfg.f laws_heldProdS.f
  have := held_prods_l0 l 0 [] 1 rfl (by omega) h1 (by omega)
  rw [List.nil_append] at this
  exact Ev.bind this (ifn (by omega) (Ev.now _))

theorem mark_cfg (H : Int) (l : List Prod_) (h1 : 1 + costP l ≤ 1000000000000000) : Ev (fun k => laws_markCfg.f k H l 1) (1 + costP l, prodAt 1 l) := by
  unfold laws_markCfg.f laws_markProdS.f
  exact mark_prods l 1 (by omega) h1

theorem costP_le : ∀ (l : List Prod_) (n : Nat), (∀ x ∈ l, x.f1.length ≤ n) → costP l ≤ (l.length : Int) * (1 + 3 * n)
  | [], _, _ => by simp [costP]
  | p :: r, n, h => by
    have h1 := costP_le r n (fun x hx => h x (List.mem_cons_of_mem _ hx))
    have h2 := h p List.mem_cons_self
    simp only [costP, List.length_cons]
    have : ((r.length + 1 : Nat) : Int) * (1 + 3 * (n : Int)) = (r.length : Int) * (1 + 3 * n) + (1 + 3 * n) := by rw [Int.natCast_add, Int.add_mul]; simp
    omega

theorem FnExactCfgTrim (H : Int) (xs : List LProd) (h0 : (Lit.int .i64 H).wf = true ∧ (xs.length ≤ maxLen ∧ ∀ x ∈ xs, (Lit.int .i64 x.f0).wf = true ∧ (x.f1.length ≤ maxLen ∧ ∀ s ∈ x.f1, (Lit.int .i64 s.f0).wf = true ∧ (Lit.int .i64 s.f1).wf = true ∧ (Lit.int .i64 s.f2).wf = true))) : ∃ k, laws_FnExactCfgTrim.f k H xs = some true := by
  refine Ev.rounds (g := fun k => laws_FnExactCfgTrim.f k H xs) ?_
  obtain ⟨r, hr, hr2⟩ := sz_cfg H xs h0.2.1 (fun x hx => (h0.2.2 x hx).2.1)
  unfold laws_FnExactCfgTrim.f
  refine Ev.bind hr ?_
  rcases hr2 with h | ⟨h, g1, g2⟩
  · exact ifp h (Ev.now _)
  refine ifn h ?_
  have ht := to_cfg H xs g1 g2
  have hlen : (xs.map convP).length ≤ 1048576 := by simpa using g1
  have hc := convP_len (n := 1048576) (fun x hx => g2 x hx)
  generalize xs.map convP = ys at ht hlen hc
  have hc2 : ∀ x ∈ ys, x.f1.length ≤ 1000000000000000 := fun x hx => by have := hc x hx; omega
  obtain ⟨G, zs, z1, z2, t1, t2⟩ := trim_both H ys (by omega) hc2
  have hz2 : ∀ x ∈ zs, x.f1.length ≤ 1048576 := fun x hx => hc x (z2 x hx)
  have c1 := costP_le ys 1048576 hc
  have c2 := costP_le zs 1048576 hz2
  have b1 : (ys.length : Int) * (1 + 3 * (1048576 : Nat)) ≤ 1048576 * (1 + 3 * (1048576 : Nat)) := Int.mul_le_mul_of_nonneg_right (by omega) (by omega)
  have b2 : (zs.length : Int) * (1 + 3 * (1048576 : Nat)) ≤ 1048576 * (1 + 3 * (1048576 : Nat)) := Int.mul_le_mul_of_nonneg_right (by omega) (by omega)
  have n1 := costP_nn ys
  have n2 := costP_nn zs
  refine Ev.bind ht ?_
  refine Ev.bind t1 ?_
  refine Ev.bind t2 ?_
  refine Ev.bind (eq_cfg_self G zs (by omega) (fun x hx => by have := hz2 x hx; omega)) ?_
  refine ifp rfl ?_
  refine Ev.bind (eq_cfg_self H ys (by omega) hc2) ?_
  refine ifp rfl ?_
  refine Ev.bind (mark_cfg H ys (by omega)) ?_
  refine ifp (by omega) ?_
  refine Ev.bind (mark_cfg G zs (by omega)) ?_
  refine Ev.bind (held_cfg G zs (by omega)) ?_
  exact ifp (by omega) (ifp rfl (Ev.now _))

end Go.Proofs.Ytcdmkjcaipohiaa.Pure
