/- The program's TrieFind returns what the reference's returns: for all arguments, without a condition. -/
import Derived.Test.YtaacknjgfipejaaPx41
import Derived.Test.YtaacknjgfipejaaH
namespace Go.Proofs.Ytaacknjgfipejaa.Pure
open Go.RowKit Go.Proofs.Ytaacknjgfipejaa.P Go.Proofs.YtaacknjgfipejaaW.PrintWords Go.Proofs.YtaacknjgfipejaaW.PrintLast Go.Proofs.Ytaacknjgfipejaa.H
set_option linter.unusedVariables false

/-! ### Trees: are nodes one? -/
abbrev Node := S82
abbrev nd (xs : List Node) (i : Int) : Node := rd_T82 xs i

theorem nd_nat (xs : List Node) (i : Nat) (h : i < xs.length) : nd xs (i : Int) = xs[i] := by
  show xs.getD _ _ = _
  simp [h]

def kidsGo (n i : Int) : List Int → List Bool → Option (List Bool)
  | [], s => some s
  | c :: r, s => if (i + 1 ≤ c ∧ c ≤ n - 1) ∧ rdOf false s c = false then kidsGo n i r (s.set c.toNat true) else none

def treeGo (xs : List Node) : Nat → Nat → List Bool → Bool
  | 0, _, _ => true
  | d + 1, i, s => match kidsGo xs.length i (nd xs i).f1 s with
    | none => false
    | some s' => treeGo xs d (i + 1) s'

def isTree (xs : List Node) : Bool := decide (1 ≤ xs.length ∧ xs.length ≤ 241) && treeGo xs xs.length 0 (List.replicate xs.length false)

def Over (o : List Int) (s : List Bool) : Prop := o.length = s.length ∧ ∀ j : Nat, j < s.length → (0 < rd o (j : Int) ↔ rdOf false s (j : Int) = true)

theorem over_set {o : List Int} {s : List Bool} (h : Over o s) (c : Nat) : Over (o.set c 1) (s.set c true) := by
  refine ⟨by simp [h.1], fun j hj => ?_⟩
  have hj' : j < s.length := by simpa using hj
  by_cases e : j = c
  · subst e
    rw [rd_nat _ _ (by simp [h.1]; omega), rdOf_nat _ _ _ (by simpa using hj')]
    simp
  · rw [rd_nat _ _ (by simp [h.1]; omega), rdOf_nat _ _ _ (by simpa using hj')]
    have := h.2 j hj'
    rw [rd_nat _ _ (by rw [h.1]; exact hj'), rdOf_nat _ _ _ hj'] at this
    rw [List.getElem_set_ne (by omega), List.getElem_set_ne (by omega)]
    exact this

theorem spec_tree_l1 (xs : List Node) (hn : xs.length ≤ 1000) (i : Nat) (hi : i < xs.length) (hk : (nd xs i).f1.length ≤ 1000000000000000) (res : List Bool → Bool) (hnext : ∀ o s, Over o s → s.length = xs.length → Ev (fun k => spec_l1Tree.l0 k xs o ((i + 1 : Nat) : Int)) (res s)) :
    ∀ (d j : Nat) (o : List Int) (s : List Bool), j + d = (nd xs i).f1.length → Over o s → s.length = xs.length →
      Ev (fun k => spec_l1Tree.l1 k xs o (i : Int) (j : Int)) (match kidsGo xs.length i ((nd xs i).f1.drop j) s with | none => false | some s' => res s') := by
  have hw1 : wrap64 ((i : Int) + 1) = ((i + 1 : Nat) : Int) := by rw [w64 (by omega) (by omega)]; omega
  have hw2 : wrap64 ((xs.length : Int) - 1) = (xs.length : Int) - 1 := w64 (by omega) (by omega)
  intro d
  induction d with
  | zero =>
    intro j o s hj ho hs
    rw [List.drop_eq_nil_of_le (by omega)]
    refine Ev.step (fun k => by rw [spec_l1Tree.l1]) ?_
    refine ifp (by omega) (ifp (by omega) (ifn (by show ¬ (j : Int) < ((nd xs i).f1.length : Int); omega) ?_))
    rw [hw1]
    exact hnext o s ho hs
  | succ d ih =>
    intro j o s hj ho hs
    have hlt : j < (nd xs i).f1.length := by omega
    have hwj : wrap64 ((j : Int) + 1) = ((j + 1 : Nat) : Int) := by rw [w64 (by omega) (by omega)]; omega
    rw [List.drop_eq_getElem_cons hlt, kidsGo]
    refine Ev.step (fun k => by rw [spec_l1Tree.l1]) ?_
    refine ifp (by omega) (ifp (by omega) (ifp (by show (j : Int) < ((nd xs i).f1.length : Int); omega) (ifp (by omega) ?_)))
    show Ev (fun n => (spec_l6In.f (rd (nd xs i).f1 (j : Int)) (wrap64 ((i : Int) + 1)) (wrap64 ((xs.length : Int) - 1))).bind fun t => if t = true then (if 0 ≤ rd (nd xs i).f1 (j : Int) then (if rd (nd xs i).f1 (j : Int) < (o.length : Int) then (if rd o (rd (nd xs i).f1 (j : Int)) > 0 then some false else spec_l1Tree.l1 n xs (o.set (rd (nd xs i).f1 (j : Int)).toNat 1) (i : Int) (wrap64 ((j : Int) + 1))) else none) else none) else some false) _
    rw [rd_nat _ _ hlt, hw1, hw2, hwj]
    obtain ⟨c, hc⟩ : ∃ c, c = (nd xs i).f1[j] := ⟨_, rfl⟩
    rw [← hc]
    by_cases c1 : c ≥ ((i + 1 : Nat) : Int)
    · refine b0 (a := decide (c ≤ (xs.length : Int) - 1)) (by unfold spec_l6In.f; rw [if_pos c1]) ?_
      by_cases c2 : c ≤ (xs.length : Int) - 1
      · refine ifp (decide_eq_true c2) (ifp (by omega) (ifp (by rw [ho.1]; omega) ?_))
        obtain ⟨m, rfl⟩ := Int.eq_ofNat_of_zero_le (show 0 ≤ c by omega)
        have hm := ho.2 m (by omega)
        cases hb : rdOf false s (m : Int) with
        | true =>
          refine ifp (hm.2 hb) ?_
          rw [if_neg (by simp)]
          exact Ev.now _
        | false =>
          refine ifn (fun h => by rw [hm.1 h] at hb; cases hb) ?_
          rw [if_pos ⟨⟨by omega, c2⟩, rfl⟩, Int.toNat_natCast]
          exact ih (j + 1) _ _ (by omega) (over_set ho m) (by simpa using hs)
      · refine ifn (by simpa using c2) ?_
        rw [if_neg (fun h => c2 h.1.2)]
        exact Ev.now _
    · refine b0 (a := false) (by unfold spec_l6In.f; rw [if_neg c1]) ?_
      refine ifn (by simp) ?_
      rw [if_neg (fun h => c1 (by omega))]
      exact Ev.now _

theorem spec_tree_l0 (xs : List Node) (hn : xs.length ≤ 1000) (hk : ∀ x ∈ xs, x.f1.length ≤ 1000000000000000) : ∀ (d i : Nat) (o : List Int) (s : List Bool), i + d = xs.length → Over o s → s.length = xs.length →
    Ev (fun k => spec_l1Tree.l0 k xs o (i : Int)) (treeGo xs d i s) := by
  intro d
  induction d with
  | zero =>
    intro i o s hi ho hs
    rw [treeGo]
    refine Ev.step (fun k => by rw [spec_l1Tree.l0]) ?_
    exact ifn (by omega) (Ev.now _)
  | succ d ih =>
    intro i o s hi ho hs
    have hlt : i < xs.length := by omega
    rw [treeGo]
    refine Ev.step (fun k => by rw [spec_l1Tree.l0]) ?_
    refine ifp (by omega) ?_
    have := spec_tree_l1 xs hn i hlt (by rw [nd_nat _ _ hlt]; exact hk _ (List.getElem_mem hlt)) (fun s' => treeGo xs d (i + 1) s') (fun o s ho hs => ih (i + 1) o s (by omega) ho hs) (nd xs i).f1.length 0 o s (by omega) ho hs
    exact this

theorem spec_tree_ev (xs : List Node) (hk : ∀ x ∈ xs, x.f1.length ≤ 1000000000000000) (hl : xs.length ≤ 1000000000000000) : Ev (fun k => spec_l1Tree.f k xs) (isTree xs) := by
  have no : ¬ (1 ≤ xs.length ∧ xs.length ≤ 241) → Ev (fun k => spec_l1Tree.j0 k xs true) (isTree xs) := by
    intro h
    refine Ev.step (fun k => by rw [spec_l1Tree.j0]) ?_
    refine ifp rfl (Ev_eq (Ev.now _) ?_)
    unfold isTree
    rw [decide_eq_false h]
    rfl
  unfold spec_l1Tree.f
  by_cases h1 : (xs.length : Int) < 1
  · exact ifp h1 (no (by omega))
  refine ifn h1 ?_
  by_cases h2 : (xs.length : Int) > 241
  · rw [decide_eq_true h2]
    exact no (by omega)
  · rw [decide_eq_false h2]
    refine Ev.step (fun k => by rw [spec_l1Tree.j0]) ?_
    refine ifn (by simp) (ifp (by omega) (ifp (by omega) ?_))
    unfold isTree
    rw [decide_eq_true (show 1 ≤ xs.length ∧ xs.length ≤ 241 by omega), Bool.true_and, Int.toNat_natCast]
    refine spec_tree_l0 xs (by omega) hk xs.length 0 _ _ (by omega) ⟨by simp, fun j hj => ?_⟩ (by simp)
    have hj' : j < xs.length := by simpa using hj
    rw [rd_nat _ _ (by simpa using hj'), rdOf_nat _ _ _ (by simpa using hj')]
    simp

theorem impl_tree_l1 (xs : List Node) (hn : xs.length ≤ 1000) (i : Nat) (hi : i < xs.length) (hk : (nd xs i).f1.length ≤ 1000000000000000) (res : List Bool → Bool) (hnext : ∀ s : List Bool, s.length = xs.length → Ev (fun k => impl_isTree.l0 k xs s xs (xs.length : Int) ((i + 1 : Nat) : Int)) (res s)) :
    ∀ (d j : Nat) (s : List Bool), j + d = (nd xs i).f1.length → s.length = xs.length →
      Ev (fun k => impl_isTree.l1 k xs s (i : Int) xs (xs.length : Int) (i : Int) (nd xs i).f1 ((nd xs i).f1.length : Int) (j : Int)) (match kidsGo xs.length i ((nd xs i).f1.drop j) s with | none => false | some s' => res s') := by
  have hw1 : wrap64 ((i : Int) + 1) = ((i + 1 : Nat) : Int) := by rw [w64 (by omega) (by omega)]; omega
  have hw2 : wrap64 ((xs.length : Int) - 1) = (xs.length : Int) - 1 := w64 (by omega) (by omega)
  intro d
  induction d with
  | zero =>
    intro j s hj hs
    rw [List.drop_eq_nil_of_le (by omega)]
    refine Ev.step (fun k => by rw [impl_isTree.l1]) ?_
    refine ifn (by omega) ?_
    rw [hw1]
    exact hnext s hs
  | succ d ih =>
    intro j s hj hs
    have hlt : j < (nd xs i).f1.length := by omega
    have hwj : wrap64 ((j : Int) + 1) = ((j + 1 : Nat) : Int) := by rw [w64 (by omega) (by omega)]; omega
    rw [List.drop_eq_getElem_cons hlt, kidsGo]
    refine Ev.step (fun k => by rw [impl_isTree.l1]) ?_
    refine ifp (by omega) (ifp (by omega) (ifp (by omega) ?_))
    rw [rd_nat _ _ hlt, hw1, hw2, hwj]
    obtain ⟨c, hc⟩ : ∃ c, c = (nd xs i).f1[j] := ⟨_, rfl⟩
    rw [← hc]
    by_cases c1 : c ≥ ((i + 1 : Nat) : Int)
    · refine b0 (a := decide (c ≤ (xs.length : Int) - 1)) (by unfold impl_within.f; rw [if_pos c1]) ?_
      by_cases c2 : c ≤ (xs.length : Int) - 1
      · refine ifp (decide_eq_true c2) (ifp (by omega) (ifp (by rw [hs]; omega) ?_))
        obtain ⟨m, rfl⟩ := Int.eq_ofNat_of_zero_le (show 0 ≤ c by omega)
        cases hb : rdOf false s (m : Int) with
        | true =>
          refine ifp rfl ?_
          rw [if_neg (by simp)]
          exact Ev.now _
        | false =>
          refine ifn (by simp) ?_
          rw [if_pos ⟨⟨by omega, c2⟩, rfl⟩, Int.toNat_natCast]
          exact ih (j + 1) _ (by omega) (by simpa using hs)
      · refine ifn (by simpa using c2) ?_
        rw [if_neg (fun h => c2 h.1.2)]
        exact Ev.now _
    · refine b0 (a := false) (by unfold impl_within.f; rw [if_neg c1]) ?_
      refine ifn (by simp) ?_
      rw [if_neg (fun h => c1 (by omega))]
      exact Ev.now _

theorem impl_tree_l0 (xs : List Node) (hn : xs.length ≤ 1000) (hk : ∀ x ∈ xs, x.f1.length ≤ 1000000000000000) : ∀ (d i : Nat) (s : List Bool), i + d = xs.length → s.length = xs.length →
    Ev (fun k => impl_isTree.l0 k xs s xs (xs.length : Int) (i : Int)) (treeGo xs d i s) := by
  intro d
  induction d with
  | zero =>
    intro i s hi hs
    rw [treeGo]
    refine Ev.step (fun k => by rw [impl_isTree.l0]) ?_
    exact ifn (by omega) (Ev.now _)
  | succ d ih =>
    intro i s hi hs
    have hlt : i < xs.length := by omega
    rw [treeGo]
    refine Ev.step (fun k => by rw [impl_isTree.l0]) ?_
    refine ifp (by omega) (ifp (by omega) (ifp (by omega) ?_))
    have := impl_tree_l1 xs hn i hlt (by rw [nd_nat _ _ hlt]; exact hk _ (List.getElem_mem hlt)) (fun s' => treeGo xs d (i + 1) s') (fun s hs => ih (i + 1) s (by omega) hs) (nd xs i).f1.length 0 s (by omega) hs
    exact this

theorem impl_tree_ev (xs : List Node) (hk : ∀ x ∈ xs, x.f1.length ≤ 1000000000000000) (hl : xs.length ≤ 1000000000000000) : Ev (fun k => impl_isTree.f k xs) (isTree xs) := by
  unfold impl_isTree.f isTree
  by_cases h1 : (xs.length : Int) ≥ 1
  · refine b0 (a := decide ((xs.length : Int) ≤ 241)) (by unfold impl_within.f; rw [if_pos h1]) ?_
    by_cases h2 : (xs.length : Int) ≤ 241
    · refine ifp (decide_eq_true h2) (ifp (by omega) (ifp (by omega) ?_))
      rw [decide_eq_true (show 1 ≤ xs.length ∧ xs.length ≤ 241 by omega), Bool.true_and, Int.toNat_natCast]
      exact impl_tree_l0 xs (by omega) hk xs.length 0 _ (by omega) (by simp)
    · refine ifn (by simpa using h2) ?_
      rw [decide_eq_false (by omega)]
      exact Ev.now _
  · refine b0 (a := false) (by unfold impl_within.f; rw [if_neg h1]) ?_
    refine ifn (by simp) ?_
    rw [decide_eq_false (by omega)]
    exact Ev.now _

/-- Kids of a tree's nodes stand behind them. -/
theorem kidsGo_some {n i : Int} : ∀ {l : List Int} {s s' : List Bool}, kidsGo n i l s = some s' → ∀ c ∈ l, i + 1 ≤ c ∧ c ≤ n - 1
  | [], _, _, _, c, hc => by simp at hc
  | x :: r, s, s', h, c, hc => by
    rw [kidsGo] at h
    by_cases hx : (i + 1 ≤ x ∧ x ≤ n - 1) ∧ rdOf false s x = false
    · rw [if_pos hx] at h
      rcases List.mem_cons.1 hc with rfl | hc
      · exact hx.1
      · exact kidsGo_some h c hc
    · rw [if_neg hx] at h
      cases h

theorem treeGo_kids (xs : List Node) : ∀ (d i : Nat) (s : List Bool), treeGo xs d i s = true → ∀ j, i ≤ j → j < i + d → ∀ c ∈ (nd xs (j : Int)).f1, (j : Int) + 1 ≤ c ∧ c ≤ (xs.length : Int) - 1
  | 0, i, s, _, j, h1, h2 => by omega
  | d + 1, i, s, h, j, h1, h2 => by
    rw [treeGo] at h
    cases hk : kidsGo xs.length i (nd xs i).f1 s with
    | none => rw [hk] at h; cases h
    | some s' =>
      rw [hk] at h
      by_cases e : j = i
      · subst e
        exact kidsGo_some hk
      · exact treeGo_kids xs d (i + 1) s' h j (by omega) (by omega)

theorem isTree_kids {xs : List Node} (h : isTree xs = true) : 1 ≤ xs.length ∧ xs.length ≤ 241 ∧ ∀ j : Nat, j < xs.length → ∀ c ∈ (nd xs (j : Int)).f1, (j : Int) + 1 ≤ c ∧ c ≤ (xs.length : Int) - 1 := by
  unfold isTree at h
  rw [Bool.and_eq_true, decide_eq_true_eq] at h
  exact ⟨h.1.1, h.1.2, fun j hj => treeGo_kids xs _ 0 _ h.2 j (by omega) (by omega)⟩

/-! ### Finding in trees -/
def kidOf (xs : List Node) (b : Int) : List Int → Int
  | [] => -1
  | c :: r => if (nd xs c).f0 = b then c else kidOf xs b r

def findGo (xs : List Node) (t : ByteArray) : Nat → Nat → Int → Int
  | 0, _, at_ => at_
  | d + 1, i, at_ => if kidOf xs (bt t i) (nd xs at_).f1 < 0 then -1 else findGo xs t d (i + 1) (kidOf xs (bt t i) (nd xs at_).f1)

def trieFind (xs : List Node) (t : ByteArray) : Int := if isTree xs = true then findGo xs t t.size 0 0 else -1

theorem kidOf_range {xs : List Node} {b : Int} {j n : Int} : ∀ {l : List Int}, (∀ c ∈ l, j + 1 ≤ c ∧ c ≤ n) → kidOf xs b l = -1 ∨ (j + 1 ≤ kidOf xs b l ∧ kidOf xs b l ≤ n)
  | [], _ => Or.inl rfl
  | c :: r, h => by
    rw [kidOf]
    split
    · exact Or.inr (h c (by simp))
    · exact kidOf_range (fun x hx => h x (by simp [hx]))

theorem spec_kid_l0 (xs : List Node) (hn : xs.length ≤ 1000) (i : Nat) (hi : i < xs.length) (b : Int) (hl : (nd xs i).f1.length ≤ 1000000000000000) (hk : ∀ c ∈ (nd xs (i : Int)).f1, (i : Int) + 1 ≤ c ∧ c ≤ (xs.length : Int) - 1) :
    ∀ (d j : Nat), j + d = (nd xs i).f1.length → Ev (fun k => spec_l1Kid.l0 k xs (i : Int) b (j : Int)) (kidOf xs b ((nd xs i).f1.drop j)) := by
  intro d
  induction d with
  | zero =>
    intro j hj
    rw [List.drop_eq_nil_of_le (by omega), kidOf]
    refine Ev.step (fun k => by rw [spec_l1Kid.l0]) ?_
    exact ifp (by omega) (ifp (by omega) (ifn (by show ¬ (j : Int) < ((nd xs i).f1.length : Int); omega) (Ev.now _)))
  | succ d ih =>
    intro j hj
    have hlt : j < (nd xs i).f1.length := by omega
    have hwj : wrap64 ((j : Int) + 1) = ((j + 1 : Nat) : Int) := by rw [w64 (by omega) (by omega)]; omega
    rw [List.drop_eq_getElem_cons hlt, kidOf]
    refine Ev.step (fun k => by rw [spec_l1Kid.l0]) ?_
    refine ifp (by omega) (ifp (by omega) (ifp (by show (j : Int) < ((nd xs i).f1.length : Int); omega) (ifp (by omega) ?_)))
    show Ev (fun n => if 0 ≤ rd (nd xs i).f1 (j : Int) then (if rd (nd xs i).f1 (j : Int) < (xs.length : Int) then (if (nd xs (rd (nd xs i).f1 (j : Int))).f0 = b then some (rd (nd xs i).f1 (j : Int)) else spec_l1Kid.l0 n xs (i : Int) b (wrap64 ((j : Int) + 1))) else none) else none) _
    rw [rd_nat _ _ hlt, hwj]
    obtain ⟨k1, k2⟩ := hk _ (List.getElem_mem hlt)
    refine ifp (by omega) (ifp (by omega) ?_)
    by_cases hc : (nd xs (nd xs i).f1[j]).f0 = b
    · rw [if_pos hc]
      exact ifp hc (Ev.now _)
    · rw [if_neg hc]
      exact ifn hc (ih (j + 1) (by omega))

theorem spec_find_l0 (xs : List Node) (t : ByteArray) (hs : t.size ≤ 1000000000000000) (hn : xs.length ≤ 1000) (hl : ∀ x ∈ xs, x.f1.length ≤ 1000000000000000) (hk : ∀ j : Nat, j < xs.length → ∀ c ∈ (nd xs (j : Int)).f1, (j : Int) + 1 ≤ c ∧ c ≤ (xs.length : Int) - 1) :
    ∀ (d i a : Nat), i + d = t.size → a < xs.length → Ev (fun k => spec_TrieFind.l0 k xs t (a : Int) (i : Int)) (findGo xs t d i (a : Int)) := by
  intro d
  induction d with
  | zero =>
    intro i a hi ha
    rw [findGo]
    refine Ev.step (fun k => by rw [spec_TrieFind.l0]) ?_
    exact ifn (by omega) (Ev.now _)
  | succ d ih =>
    intro i a hi ha
    have hwi : wrap64 ((i : Int) + 1) = ((i + 1 : Nat) : Int) := by rw [w64 (by omega) (by omega)]; omega
    have hb := bt_range t (i : Int)
    have hwb : wrap64 (bt t (i : Int)) = bt t (i : Int) := w64 (by omega) (by omega)
    rw [findGo]
    refine Ev.step (fun k => by rw [spec_TrieFind.l0]) ?_
    refine ifp (by omega) (ifp (by omega) ?_)
    rw [hwi, hwb]
    have hkid := spec_kid_l0 xs hn a ha (bt t (i : Int)) (by rw [nd_nat _ _ ha]; exact hl _ (List.getElem_mem ha)) (hk a ha) (nd xs (a : Int)).f1.length 0 (by omega)
    rw [List.drop_zero] at hkid
    refine Ev.bind (a := kidOf xs (bt t (i : Int)) (nd xs (a : Int)).f1) (by unfold spec_l1Kid.f; exact hkid) ?_
    rcases kidOf_range (xs := xs) (b := bt t (i : Int)) (hk a ha) with h | ⟨h1, h2⟩
    · rw [if_pos (by omega)]
      exact ifp (by omega) (Ev.now _)
    · rw [if_neg (by omega)]
      refine ifn (by omega) ?_
      obtain ⟨m, hm⟩ := Int.eq_ofNat_of_zero_le (show 0 ≤ kidOf xs (bt t (i : Int)) (nd xs (a : Int)).f1 by omega)
      rw [hm] at h2 ⊢
      exact ih (i + 1) m (by omega) (by omega)

theorem spec_find_ev (xs : List Node) (t : ByteArray) (hs : t.size ≤ 1000000000000000) (hx : xs.length ≤ 1000000000000000) (hl : ∀ x ∈ xs, x.f1.length ≤ 1000000000000000) : Ev (fun k => spec_TrieFind.f k xs t) (trieFind xs t) := by
  unfold spec_TrieFind.f trieFind
  refine Ev.bind (spec_tree_ev xs hl hx) ?_
  by_cases h : isTree xs = true
  · obtain ⟨n1, n2, hk⟩ := isTree_kids h
    rw [if_pos h]
    exact ifp h (spec_find_l0 xs t hs (by omega) hl hk t.size 0 0 (by omega) (by omega))
  · rw [if_neg h]
    exact ifn h (Ev.now _)

theorem impl_find_l1 (xs : List Node) (t : ByteArray) (hs : t.size ≤ 1000000000000000) (hn : xs.length ≤ 1000) (i : Nat) (hi : i < t.size) (l : List Int) (hl : l.length ≤ 1000000000000000) (hk : ∀ c ∈ l, 0 ≤ c ∧ c ≤ (xs.length : Int) - 1) (res : Int → Int) (hnext : ∀ c : Int, 0 ≤ c → c ≤ (xs.length : Int) - 1 → Ev (fun k => impl_TrieFind.l0 k xs t c (t.size : Int) ((i + 1 : Nat) : Int)) (res c)) :
    ∀ (d j : Nat), j + d = l.length → Ev (fun k => impl_TrieFind.l1 k xs t (i : Int) (-1) (t.size : Int) (i : Int) l (l.length : Int) (j : Int)) (if kidOf xs (bt t (i : Int)) (l.drop j) < 0 then -1 else res (kidOf xs (bt t (i : Int)) (l.drop j))) := by
  have hwi : wrap64 ((i : Int) + 1) = ((i + 1 : Nat) : Int) := by rw [w64 (by omega) (by omega)]; omega
  have hb := bt_range t (i : Int)
  have hwb : wrap64 (bt t (i : Int)) = bt t (i : Int) := w64 (by omega) (by omega)
  intro d
  induction d with
  | zero =>
    intro j hj
    rw [List.drop_eq_nil_of_le (by omega), kidOf, if_pos (by omega)]
    refine Ev.step (fun k => by rw [impl_TrieFind.l1]) ?_
    exact ifn (by omega) (ifp (by omega) (Ev.now _))
  | succ d ih =>
    intro j hj
    have hlt : j < l.length := by omega
    have hwj : wrap64 ((j : Int) + 1) = ((j + 1 : Nat) : Int) := by rw [w64 (by omega) (by omega)]; omega
    obtain ⟨k1, k2⟩ := hk _ (List.getElem_mem hlt)
    rw [List.drop_eq_getElem_cons hlt, kidOf]
    refine Ev.step (fun k => by rw [impl_TrieFind.l1]) ?_
    refine ifp (by omega) (ifp (by omega) (ifp (by omega) ?_))
    rw [rd_nat _ _ hlt, hwb, hwi, hwj]
    refine ifp (by omega) (ifp (by omega) (ifp (by omega) (ifp (by omega) ?_)))
    by_cases hc : (nd xs l[j]).f0 = bt t (i : Int)
    · refine ifp hc (ifn (by omega) ?_)
      rw [if_pos hc, if_neg (by omega)]
      exact hnext _ k1 k2
    · refine ifn hc ?_
      rw [if_neg hc]
      exact ih (j + 1) (by omega)

theorem impl_find_l0 (xs : List Node) (t : ByteArray) (hs : t.size ≤ 1000000000000000) (hn : xs.length ≤ 1000) (hl : ∀ x ∈ xs, x.f1.length ≤ 1000000000000000) (hk : ∀ j : Nat, j < xs.length → ∀ c ∈ (nd xs (j : Int)).f1, (j : Int) + 1 ≤ c ∧ c ≤ (xs.length : Int) - 1) :
    ∀ (d i a : Nat), i + d = t.size → a < xs.length → Ev (fun k => impl_TrieFind.l0 k xs t (a : Int) (t.size : Int) (i : Int)) (findGo xs t d i (a : Int)) := by
  intro d
  induction d with
  | zero =>
    intro i a hi ha
    rw [findGo]
    refine Ev.step (fun k => by rw [impl_TrieFind.l0]) ?_
    exact ifn (by omega) (Ev.now _)
  | succ d ih =>
    intro i a hi ha
    rw [findGo]
    refine Ev.step (fun k => by rw [impl_TrieFind.l0]) ?_
    refine ifp (by omega) (ifp (by omega) (ifp (by omega) ?_))
    have := impl_find_l1 xs t hs hn i (by omega) (nd xs (a : Int)).f1 (by rw [nd_nat _ _ ha]; exact hl _ (List.getElem_mem ha)) (fun c hc => by have := hk a ha c hc; omega) (fun c => findGo xs t d (i + 1) c) (fun c c0 c1 => by
      obtain ⟨m, rfl⟩ := Int.eq_ofNat_of_zero_le c0
      exact ih (i + 1) m (by omega) (by omega)) (nd xs (a : Int)).f1.length 0 (by omega)
    rw [List.drop_zero] at this
    exact this

theorem impl_find_ev (xs : List Node) (t : ByteArray) (hs : t.size ≤ 1000000000000000) (hx : xs.length ≤ 1000000000000000) (hl : ∀ x ∈ xs, x.f1.length ≤ 1000000000000000) : Ev (fun k => impl_TrieFind.f k xs t) (trieFind xs t) := by
  unfold impl_TrieFind.f trieFind
  refine Ev.bind (impl_tree_ev xs hl hx) ?_
  by_cases h : isTree xs = true
  · obtain ⟨n1, n2, hk⟩ := isTree_kids h
    rw [if_pos h]
    exact ifp h (impl_find_l0 xs t hs (by omega) hl hk t.size 0 0 (by omega) (by omega))
  · rw [if_neg h]
    exact ifn h (Ev.now _)

/-! ### Numbers that came in: copied, compared -/
theorem to_int_l0 (ps : List Int) (hl : ps.length ≤ 1048576) : ∀ (d i : Nat) (ys : List Int), i + d = ps.length → ys.length = ps.length → (∀ j, j < i → ys[j]? = ps[j]?) →
    Ev (fun k => laws_toIntS.l0 k ps ys (i : Int)) ps := by
  intro d
  induction d with
  | zero =>
    intro i ys hi hy hj
    refine Ev.step (fun k => by rw [laws_toIntS.l0]) ?_
    refine ifn (by omega) (Ev_eq (Ev.now _) ?_)
    apply List.ext_getElem?
    intro j
    by_cases h : j < i
    · exact hj j h
    · rw [List.getElem?_eq_none (by omega), List.getElem?_eq_none (by omega)]
  | succ d ih =>
    intro i ys hi hy hj
    have hlt : i < ps.length := by omega
    refine Ev.step (fun k => by rw [laws_toIntS.l0]) ?_
    refine ifp (by omega) (ifp (by omega) (ifp (by omega) ?_))
    rw [rd_nat _ _ hlt, show wrap64 ((i : Int) + 1) = ((i + 1 : Nat) : Int) by rw [w64 (by omega) (by omega)]; omega, Int.toNat_natCast]
    refine ih (i + 1) _ (by omega) (by simp [hy]) (fun j hji => ?_)
    by_cases e : j = i
    · subst e
      rw [List.getElem?_set_self (by omega), List.getElem?_eq_getElem hlt]
    · rw [List.getElem?_set_ne (by omega)]
      exact hj j (by omega)

theorem to_int (ps : List Int) (hl : ps.length ≤ 1048576) : Ev (fun k => laws_toIntS.f k ps) ps := by
  unfold laws_toIntS.f
  refine ifp (by omega) (ifp (by omega) ?_)
  exact to_int_l0 ps hl ps.length 0 _ (by omega) (by simp) (fun j hj => by omega)

theorem eq_int_l0 (a b : List Int) (ha : a.length ≤ 1000000000000000) (hab : a.length = b.length) : ∀ (d i : Nat), i + d = a.length → Ev (fun k => laws_eqIntS.l0 k a b (i : Int)) (decide (a.drop i = b.drop i)) := by
  intro d
  induction d with
  | zero =>
    intro i hi
    rw [List.drop_eq_nil_of_le (by omega), List.drop_eq_nil_of_le (by omega)]
    refine Ev.step (fun k => by rw [laws_eqIntS.l0]) ?_
    exact ifn (by omega) (Ev_eq (Ev.now _) (by simp))
  | succ d ih =>
    intro i hi
    have h1 : i < a.length := by omega
    have h2 : i < b.length := by omega
    rw [List.drop_eq_getElem_cons h1, List.drop_eq_getElem_cons h2]
    refine Ev.step (fun k => by rw [laws_eqIntS.l0]) ?_
    refine ifp (by omega) (ifp (by omega) (ifp (by omega) ?_))
    rw [rd_nat _ _ h1, rd_nat _ _ h2, show wrap64 ((i : Int) + 1) = ((i + 1 : Nat) : Int) by rw [w64 (by omega) (by omega)]; omega]
    by_cases hc : a[i] = b[i]
    · refine ifp hc ?_
      exact Ev_eq (ih (i + 1) (by omega)) (dec_cons hc)
    · refine ifn hc ?_
      exact Ev_eq (Ev.now _) (dec_ne hc)

theorem eq_int (a b : List Int) (ha : a.length ≤ 1000000000000000) : Ev (fun k => laws_eqIntS.f k a b) (decide (a = b)) := by
  unfold laws_eqIntS.f
  by_cases h : (a.length : Int) = (b.length : Int)
  · refine ifp h ?_
    have := eq_int_l0 a b ha (by omega) a.length 0 (by omega)
    simpa using this
  · refine ifn h ?_
    refine Ev_eq (Ev.now _) (decide_eq_false ?_).symm
    intro e
    exact h (by rw [e])

theorem eq_int_self (a : List Int) (ha : a.length ≤ 1000000000000000) : Ev (fun k => laws_eqIntS.f k a a) true := Ev_eq (eq_int a a ha) (by simp)

/-! ### Nodes that came in: measured, copied, compared -/
abbrev LNode := S79
abbrev lnd (xs : List LNode) (i : Int) : LNode := rd_T79 xs i
def conv (x : LNode) : Node := ⟨x.f0, x.f1, x.f2⟩

theorem lnd_nat (xs : List LNode) (i : Nat) (h : i < xs.length) : lnd xs (i : Int) = xs[i] := by
  show xs.getD _ _ = _
  simp [h]

theorem sz_ints (l : List Int) (hl : l.length ≤ 9223372036854775807) (left : Int) (h0 : 0 ≤ left) (h1 : left ≤ 1048576) : ∃ r, laws_szIntS.f l left = some r ∧ (r = -1 ∨ (0 ≤ r ∧ r ≤ left ∧ (l.length : Int) ≤ left)) := by
  unfold laws_szIntS.f
  rw [w64 (by omega) (by omega)]
  by_cases h : left - (l.length : Int) < 0
  · exact ⟨-1, if_pos h, Or.inl rfl⟩
  · exact ⟨_, if_neg h, Or.inr ⟨by omega, by omega, by omega⟩⟩

theorem sz_trie (x : LNode) (h2 : x.f1.length ≤ 9223372036854775807) (h3 : x.f2.length ≤ 9223372036854775807) (left : Int) (h0 : 0 ≤ left) (h1 : left ≤ 1048576) :
    ∃ r, laws_szTrie.f x.f0 x.f1 x.f2 left = some r ∧ (r = -1 ∨ (0 ≤ r ∧ r ≤ left ∧ x.f1.length ≤ 1048576 ∧ x.f2.length ≤ 1048576)) := by
  unfold laws_szTrie.f
  obtain ⟨r, hr, hr2⟩ := sz_ints x.f1 h2 left h0 h1
  rw [hr, Option.bind_some]
  rcases hr2 with rfl | ⟨a, b, c⟩
  · exact ⟨-1, if_pos (by omega), Or.inl rfl⟩
  rw [if_neg (by omega)]
  obtain ⟨q, hq, hq2⟩ := sz_ints x.f2 h3 r a (by omega)
  rw [hq, Option.bind_some]
  rcases hq2 with rfl | ⟨a', b', c'⟩
  · exact ⟨-1, if_pos (by omega), Or.inl rfl⟩
  · exact ⟨q, if_neg (by omega), Or.inr ⟨a', by omega, by omega, by omega⟩⟩

theorem sz_tries_l0 (xs : List LNode) (hl : xs.length ≤ 1048576) (h2 : ∀ x ∈ xs, x.f1.length ≤ 9223372036854775807 ∧ x.f2.length ≤ 9223372036854775807) : ∀ (d i : Nat) (left : Int), i + d = xs.length → 0 ≤ left → left ≤ 1048576 →
    ∃ r, Ev (fun k => laws_szTrieS.l0 k xs left (i : Int)) r ∧ (r = -1 ∨ (0 ≤ r ∧ ∀ x ∈ xs.drop i, x.f1.length ≤ 1048576 ∧ x.f2.length ≤ 1048576)) := by
  intro d
  induction d with
  | zero =>
    intro i left hi h0 h1
    refine ⟨left, ?_, Or.inr ⟨h0, ?_⟩⟩
    · refine Ev.step (fun k => by rw [laws_szTrieS.l0]) ?_
      exact ifn (by omega) (Ev.now _)
    · rw [List.drop_eq_nil_of_le (by omega)]
      simp
  | succ d ih =>
    intro i left hi h0 h1
    have hlt : i < xs.length := by omega
    obtain ⟨q, hq, hq2⟩ := sz_trie xs[i] (h2 _ (List.getElem_mem hlt)).1 (h2 _ (List.getElem_mem hlt)).2 left h0 h1
    have hq3 : laws_szTrie.f (lnd xs (i : Int)).f0 (lnd xs (i : Int)).f1 (lnd xs (i : Int)).f2 left = some q := by rw [lnd_nat _ _ hlt]; exact hq
    rcases hq2 with rfl | ⟨a, b, c⟩
    · refine ⟨-1, ?_, Or.inl rfl⟩
      refine Ev.step (fun k => by rw [laws_szTrieS.l0]) ?_
      refine ifp (by omega) (ifp (by omega) ?_)
      refine b0 hq3 ?_
      exact ifp (by omega) (Ev.now _)
    · obtain ⟨r, hr, hr2⟩ := ih (i + 1) q (by omega) a (by omega)
      refine ⟨r, ?_, ?_⟩
      · refine Ev.step (fun k => by rw [laws_szTrieS.l0]) ?_
        refine ifp (by omega) (ifp (by omega) ?_)
        refine b0 hq3 ?_
        rw [show wrap64 ((i : Int) + 1) = ((i + 1 : Nat) : Int) by rw [w64 (by omega) (by omega)]; omega]
        exact ifn (by omega) hr
      · rcases hr2 with h | ⟨g1, g2⟩
        · exact Or.inl h
        · refine Or.inr ⟨g1, fun x hx => ?_⟩
          rw [List.drop_eq_getElem_cons hlt] at hx
          rcases List.mem_cons.1 hx with rfl | hx
          · exact c
          · exact g2 x hx

theorem sz_tries (xs : List LNode) (hl : xs.length ≤ 9223372036854775807) (h2 : ∀ x ∈ xs, x.f1.length ≤ 9223372036854775807 ∧ x.f2.length ≤ 9223372036854775807) :
    ∃ r, Ev (fun k => laws_szTrieS.f k xs 1048576) r ∧ (r < 0 ∨ (¬ r < 0 ∧ xs.length ≤ 1048576 ∧ ∀ x ∈ xs, x.f1.length ≤ 1048576 ∧ x.f2.length ≤ 1048576)) := by
  unfold laws_szTrieS.f
  rw [w64 (by omega) (by omega)]
  by_cases h : 1048576 - (xs.length : Int) < 0
  · exact ⟨-1, ifp h (Ev.now _), Or.inl (by omega)⟩
  · obtain ⟨r, hr, hr2⟩ := sz_tries_l0 xs (by omega) h2 xs.length 0 (1048576 - (xs.length : Int)) (by omega) (by omega) (by omega)
    refine ⟨r, ifn h hr, ?_⟩
    rcases hr2 with h | ⟨g1, g2⟩
    · exact Or.inl (by omega)
    · exact Or.inr ⟨by omega, by omega, by simpa using g2⟩

theorem to_trie_l0 (xs : List LNode) (hl : xs.length ≤ 1048576) (h2 : ∀ x ∈ xs, x.f1.length ≤ 1048576 ∧ x.f2.length ≤ 1048576) : ∀ (d i : Nat) (ys : List Node), i + d = xs.length → ys.length = xs.length → (∀ j, j < i → ys[j]? = (xs.map conv)[j]?) →
    Ev (fun k => laws_toTrieS.l0 k xs ys (i : Int)) (xs.map conv) := by
  intro d
  induction d with
  | zero =>
    intro i ys hi hy hj
    refine Ev.step (fun k => by rw [laws_toTrieS.l0]) ?_
    refine ifn (by omega) (Ev_eq (Ev.now _) ?_)
    apply List.ext_getElem?
    intro j
    by_cases h : j < i
    · exact hj j h
    · rw [List.getElem?_eq_none (by omega), List.getElem?_eq_none (by simp; omega)]
  | succ d ih =>
    intro i ys hi hy hj
    have hlt : i < xs.length := by omega
    have hx := h2 _ (List.getElem_mem hlt)
    refine Ev.step (fun k => by rw [laws_toTrieS.l0]) ?_
    refine ifp (by omega) (ifp (by omega) ?_)
    have ht : Ev (fun k => laws_toTrie.f k (lnd xs (i : Int)).f0 (lnd xs (i : Int)).f1 (lnd xs (i : Int)).f2) (xs[i].f0, xs[i].f1, xs[i].f2) := by
      rw [lnd_nat _ _ hlt]
      unfold laws_toTrie.f
      refine Ev.bind (to_int _ hx.1) ?_
      exact Ev.bind (to_int _ hx.2) (Ev.now _)
    refine Ev.bind ht ?_
    refine ifp (by omega) ?_
    rw [show wrap64 ((i : Int) + 1) = ((i + 1 : Nat) : Int) by rw [w64 (by omega) (by omega)]; omega, Int.toNat_natCast]
    refine ih (i + 1) _ (by omega) (by simp [hy]) (fun j hji => ?_)
    by_cases e : j = i
    · subst e
      rw [List.getElem?_set_self (by omega), List.getElem?_map, List.getElem?_eq_getElem hlt]
      rfl
    · rw [List.getElem?_set_ne (by omega)]
      exact hj j (by omega)

theorem to_tries (xs : List LNode) (hl : xs.length ≤ 1048576) (h2 : ∀ x ∈ xs, x.f1.length ≤ 1048576 ∧ x.f2.length ≤ 1048576) : Ev (fun k => laws_toTrieS.f k xs) (xs.map conv) := by
  unfold laws_toTrieS.f
  refine ifp (by omega) (ifp (by omega) ?_)
  exact to_trie_l0 xs hl h2 xs.length 0 _ (by omega) (by simp) (fun j hj => by omega)

theorem eq_trie_l0 (a b : List Node) (ha : a.length ≤ 1000000000000000) (h2 : ∀ x ∈ a, x.f1.length ≤ 1000000000000000 ∧ x.f2.length ≤ 1000000000000000) (hab : a = b) : ∀ (d i : Nat), i + d = a.length → Ev (fun k => laws_eqTrieS.l0 k a b (i : Int)) true := by
  subst hab
  intro d
  induction d with
  | zero =>
    intro i hi
    refine Ev.step (fun k => by rw [laws_eqTrieS.l0]) ?_
    exact ifn (by omega) (Ev.now _)
  | succ d ih =>
    intro i hi
    have h1 : i < a.length := by omega
    have hx := h2 _ (List.getElem_mem h1)
    refine Ev.step (fun k => by rw [laws_eqTrieS.l0]) ?_
    refine ifp (by omega) (ifp (by omega) (ifp (by omega) ?_))
    rw [show wrap64 ((i : Int) + 1) = ((i + 1 : Nat) : Int) by rw [w64 (by omega) (by omega)]; omega]
    have ht : Ev (fun k => laws_eqTrie.f k (nd a (i : Int)).f0 (nd a (i : Int)).f1 (nd a (i : Int)).f2 (nd a (i : Int)).f0 (nd a (i : Int)).f1 (nd a (i : Int)).f2) true := by
      rw [nd_nat _ _ h1]
      unfold laws_eqTrie.f
      refine ifp rfl ?_
      refine Ev.bind (eq_int_self _ hx.1) (ifp rfl ?_)
      exact Ev.bind (eq_int_self _ hx.2) (ifp rfl (Ev.now _))
    refine Ev.bind ht ?_
    exact ifp rfl (ih (i + 1) (by omega))

theorem eq_tries_self (a : List Node) (ha : a.length ≤ 1000000000000000) (h2 : ∀ x ∈ a, x.f1.length ≤ 1000000000000000 ∧ x.f2.length ≤ 1000000000000000) : Ev (fun k => laws_eqTrieS.f k a a) true := by
  unfold laws_eqTrieS.f
  exact ifp rfl (eq_trie_l0 a a ha h2 rfl a.length 0 (by omega))

theorem FnExactTrieFind (xs : List LNode) (t : ByteArray) (h0 : xs.length ≤ maxLen ∧ ∀ x ∈ xs, (Lit.int .i64 x.f0).wf = true ∧ (x.f1.length ≤ maxLen ∧ ∀ y ∈ x.f1, (Lit.int .i64 y).wf = true) ∧ (x.f2.length ≤ maxLen ∧ ∀ y ∈ x.f2, (Lit.int .i64 y).wf = true)) (h1 : t.size ≤ maxLen) : ∃ k, laws_FnExactTrieFind.f k xs t = some true := by
  refine Ev.rounds (g := fun k => laws_FnExactTrieFind.f k xs t) ?_
  obtain ⟨r, hr, hr2⟩ := sz_tries xs h0.1 (fun x hx => ⟨(h0.2 x hx).2.1.1, (h0.2 x hx).2.2.1⟩)
  unfold laws_FnExactTrieFind.f
  by_cases hlong : (t.size : Int) > 1048576
  · exact ifp hlong (Ev.now _)
  refine ifn hlong ?_
  refine Ev.bind hr ?_
  rcases hr2 with h | ⟨h, g1, g2⟩
  · exact ifp h (Ev.now _)
  refine ifn h ?_
  have ht := to_tries xs g1 g2
  have hc : ∀ x ∈ xs.map conv, x.f1.length ≤ 1048576 ∧ x.f2.length ≤ 1048576 := by
    intro x hx
    obtain ⟨y, hy, rfl⟩ := List.mem_map.1 hx
    exact g2 y hy
  have hlen : (xs.map conv).length ≤ 1048576 := by simpa using g1
  refine Ev.bind ht ?_
  refine Ev.bind (spec_find_ev (xs.map conv) t (by omega) (by omega) (fun x hx => by have := hc x hx; omega)) ?_
  refine Ev.bind ht ?_
  refine Ev.bind (impl_find_ev (xs.map conv) t (by omega) (by omega) (fun x hx => by have := hc x hx; omega)) ?_
  refine ifp rfl ?_
  refine Ev.bind ht ?_
  refine Ev.bind (eq_tries_self _ (by omega) (fun x hx => by have := hc x hx; omega)) ?_
  exact ifp rfl (Ev.now _)

end Go.Proofs.Ytaacknjgfipejaa.Pure
