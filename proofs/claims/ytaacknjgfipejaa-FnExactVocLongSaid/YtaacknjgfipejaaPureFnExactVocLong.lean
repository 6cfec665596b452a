/- The program's VocLong returns what the reference's returns: for all arguments, without a condition. -/
import Derived.Test.YtaacknjgfipejaaPx31
import Derived.Test.YtaacknjgfipejaaH
namespace Go.Proofs.Ytaacknjgfipejaa.Pure
open Go.RowKit Go.Proofs.Ytaacknjgfipejaa.P Go.Proofs.YtaacknjgfipejaaW.PrintWords Go.Proofs.YtaacknjgfipejaaW.PrintLast Go.Proofs.Ytaacknjgfipejaa.H
set_option linter.unusedVariables false
set_option linter.unusedSimpArgs false

/-! ### Are pieces ok? -/
def vocOk (ps : List ByteArray) (e : Int) : Bool := decide (1 ≤ ps.length) && decide (ps.length ≤ 40) && decide (-1 ≤ e) && decide (e < (ps.length : Int)) && ps.all (fun p => decide (p.size ≤ 6))

theorem spec_vocok_l0 (ps : List ByteArray) (e : Int) (hl : ps.length ≤ 1000000000000000) : ∀ (d i : Nat), i + d = ps.length →
    Ev (fun k => spec_VocOk.l0 k (i : Int) ps e) ((ps.drop i).all (fun p => decide (p.size ≤ 6))) := by
  intro d
  induction d with
  | zero =>
    intro i hi
    rw [List.drop_eq_nil_of_le (by omega)]
    refine Ev.step (fun k => by rw [spec_VocOk.l0]) ?_
    exact ifn (by omega) (Ev.now _)
  | succ d ih =>
    intro i hi
    have hlt : i < ps.length := by omega
    rw [List.drop_eq_getElem_cons hlt, List.all_cons]
    refine Ev.step (fun k => by rw [spec_VocOk.l0]) ?_
    refine ifp (by omega) ?_
    refine ifp (by omega) ?_
    rw [rdOf_nat _ _ _ hlt]
    by_cases hs : (ps[i].size : Int) > 6
    · refine ifp hs ?_
      rw [show decide (ps[i].size ≤ 6) = false from decide_eq_false (by omega), Bool.false_and]
      exact Ev.now _
    · refine ifn hs ?_
      rw [show decide (ps[i].size ≤ 6) = true from decide_eq_true (by omega), Bool.true_and, show wrap64 ((i : Int) + 1) = ((i + 1 : Nat) : Int) by rw [w64 (by omega) (by omega)]; omega]
      exact ih (i + 1) (by omega)

theorem spec_vocok_ev (ps : List ByteArray) (e : Int) (hl : ps.length ≤ 1000000000000000) : Ev (fun k => spec_VocOk.f k ps e) (vocOk ps e) := by
  have hj : ∀ c : Bool, Ev (fun k => spec_VocOk.j0 k c ps e) (!c && ps.all (fun p => decide (p.size ≤ 6))) := by
    intro c
    refine Ev.step (fun k => by rw [spec_VocOk.j0]) ?_
    cases c with
    | true => exact ifp rfl (Ev.now _)
    | false =>
      refine ifn (by simp) ?_
      exact spec_vocok_l0 ps e hl ps.length 0 (by omega)
  have hw : wrap64 ((ps.length : Int) - 1) = (ps.length : Int) - 1 := w64 (by omega) (by omega)
  unfold spec_VocOk.f
  by_cases h1 : (ps.length : Int) < 1
  · refine ifp h1 (Ev_eq (hj true) ?_)
    unfold vocOk
    rw [show decide (1 ≤ ps.length) = false from decide_eq_false (by omega)]
    rfl
  by_cases h2 : (ps.length : Int) > 40
  · refine ifn h1 (ifp h2 (Ev_eq (hj true) ?_))
    unfold vocOk
    rw [show decide (ps.length ≤ 40) = false from decide_eq_false (by omega), Bool.and_false]
    rfl
  refine ifn h1 (ifn h2 ?_)
  rw [hw]
  have ha : decide (1 ≤ ps.length) = true := decide_eq_true (by omega)
  have hb : decide (ps.length ≤ 40) = true := decide_eq_true (by omega)
  by_cases h3 : e ≥ -1
  · refine b0 (a := decide (e ≤ (ps.length : Int) - 1)) (by unfold spec_l6In.f; rw [if_pos h3]) (Ev_eq (hj _) ?_)
    unfold vocOk
    rw [ha, hb, show decide (-1 ≤ e) = true from decide_eq_true h3, show decide (e < (ps.length : Int)) = decide (e ≤ (ps.length : Int) - 1) from by rw [decide_eq_decide]; omega]
    simp
  · refine b0 (a := false) (by unfold spec_l6In.f; rw [if_neg h3]) (Ev_eq (hj _) ?_)
    unfold vocOk
    rw [show decide (-1 ≤ e) = false from decide_eq_false h3]
    simp

theorem impl_vocok_l0 (ps : List ByteArray) (e : Int) (hl : ps.length ≤ 1000000000000000) : ∀ (d i : Nat), i + d = ps.length →
    Ev (fun k => impl_VocOk.l0 k ps (ps.length : Int) (i : Int) ps e) ((ps.drop i).all (fun p => decide (p.size ≤ 6)) && (decide (1 ≤ ps.length) && decide (ps.length ≤ 40) && decide (-1 ≤ e) && decide (e < (ps.length : Int)))) := by
  intro d
  induction d with
  | zero =>
    intro i hi
    have hw : wrap64 ((ps.length : Int) - 1) = (ps.length : Int) - 1 := w64 (by omega) (by omega)
    rw [List.drop_eq_nil_of_le (by omega)]
    refine Ev.step (fun k => by rw [impl_VocOk.l0]) ?_
    refine ifn (by omega) ?_
    rw [hw]
    by_cases h1 : (ps.length : Int) ≥ 1
    · refine b0 (a := decide ((ps.length : Int) ≤ 40)) (by unfold impl_within.f; rw [if_pos h1]) ?_
      by_cases h2 : (ps.length : Int) ≤ 40
      · refine ifp (decide_eq_true h2) ?_
        have ha : decide (1 ≤ ps.length) = true := decide_eq_true (by omega)
        have hb : decide (ps.length ≤ 40) = true := decide_eq_true (by omega)
        by_cases h3 : e ≥ -1
        · refine b0 (a := decide (e ≤ (ps.length : Int) - 1)) (by unfold impl_within.f; rw [if_pos h3]) ?_
          refine Ev_eq (Ev.now _) ?_
          rw [ha, hb, show decide (-1 ≤ e) = true from decide_eq_true h3, show decide (e < (ps.length : Int)) = decide (e ≤ (ps.length : Int) - 1) from by rw [decide_eq_decide]; omega]
          simp
        · refine b0 (a := false) (by unfold impl_within.f; rw [if_neg h3]) ?_
          refine Ev_eq (Ev.now _) ?_
          rw [show decide (-1 ≤ e) = false from decide_eq_false h3]
          simp
      · refine ifn (by simpa using h2) ?_
        refine Ev_eq (Ev.now _) ?_
        rw [show decide (ps.length ≤ 40) = false from decide_eq_false (by omega)]
        simp
    · refine b0 (a := false) (by unfold impl_within.f; rw [if_neg h1]) ?_
      refine ifn (by simp) ?_
      refine Ev_eq (Ev.now _) ?_
      rw [show decide (1 ≤ ps.length) = false from decide_eq_false (by omega)]
      simp
  | succ d ih =>
    intro i hi
    have hlt : i < ps.length := by omega
    rw [List.drop_eq_getElem_cons hlt, List.all_cons]
    refine Ev.step (fun k => by rw [impl_VocOk.l0]) ?_
    refine ifp (by omega) ?_
    refine ifp (by omega) ?_
    refine ifp (by omega) ?_
    rw [rdOf_nat _ _ _ hlt]
    by_cases hs : (ps[i].size : Int) > 6
    · refine ifp hs ?_
      rw [show decide (ps[i].size ≤ 6) = false from decide_eq_false (by omega), Bool.false_and, Bool.false_and]
      exact Ev.now _
    · refine ifn hs ?_
      rw [show decide (ps[i].size ≤ 6) = true from decide_eq_true (by omega), Bool.true_and, show wrap64 ((i : Int) + 1) = ((i + 1 : Nat) : Int) by rw [w64 (by omega) (by omega)]; omega]
      exact ih (i + 1) (by omega)

theorem impl_vocok_ev (ps : List ByteArray) (e : Int) (hl : ps.length ≤ 1000000000000000) : Ev (fun k => impl_VocOk.f k ps e) (vocOk ps e) := by
  unfold impl_VocOk.f
  refine Ev_eq (impl_vocok_l0 ps e hl ps.length 0 (by omega)) ?_
  rw [List.drop_zero, Bool.and_comm]
  rfl

theorem vocOk_parts {ps : List ByteArray} {e : Int} (h : vocOk ps e = true) : 1 ≤ ps.length ∧ ps.length ≤ 40 ∧ -1 ≤ e ∧ e < (ps.length : Int) ∧ ∀ p ∈ ps, p.size ≤ 6 := by
  unfold vocOk at h
  simp only [Bool.and_eq_true, decide_eq_true_eq, List.all_eq_true] at h
  obtain ⟨⟨⟨⟨h1, h2⟩, h3⟩, h4⟩, h5⟩ := h
  exact ⟨h1, h2, h3, h4, h5⟩

/-! ### A text that is cut into pieces -/
/-- May piece i be taken from the text t? -/
def fitsAt (ps : List ByteArray) (e : Int) (t : ByteArray) (i : Int) : Prop := i ≠ e ∧ 0 < (rdOf ByteArray.empty ps i).size ∧ (rdOf ByteArray.empty ps i).size ≤ t.size ∧ t.extract 0 (rdOf ByteArray.empty ps i).size = rdOf ByteArray.empty ps i

open Classical in
/-- The scan over the pieces from i on; d are left. -/
noncomputable def bestGo (ps : List ByteArray) (e : Int) (t : ByteArray) : Nat → Int → Int → Int
  | 0, _, b => b
  | d + 1, i, b => if fitsAt ps e t i ∧ (b < 0 ∨ (rdOf ByteArray.empty ps i).size > (rdOf ByteArray.empty ps b).size) then bestGo ps e t d (i + 1) i else bestGo ps e t d (i + 1) b

noncomputable def best (ps : List ByteArray) (e : Int) (t : ByteArray) : Int := bestGo ps e t ps.length 0 (-1)

/-- The cut, with as many rounds as there are bytes. -/
noncomputable def longGo (ps : List ByteArray) (e : Int) : Nat → ByteArray → List Int → List Int × Bool
  | 0, _, _ => ([], false)
  | n + 1, t, out => if t.size = 0 then (out, true) else if best ps e t < 0 ∨ out.length ≥ 60 then ([], false) else longGo ps e n (t.extract (rdOf ByteArray.empty ps (best ps e t)).size t.size) (out ++ [best ps e t])

noncomputable def vocLong (ps : List ByteArray) (e : Int) (t : ByteArray) : List Int × Bool := if vocOk ps e = true then longGo ps e (t.size + 1) t [] else ([], false)

/-- What the scan knows of what it has: it is none, and none fits so far; or it fits, the others so far are no longer, and those ahead of it shorter. -/
def BestInv (ps : List ByteArray) (e : Int) (t : ByteArray) (i b : Int) : Prop :=
  (b = -1 ∧ ∀ j, 0 ≤ j → j < i → ¬ fitsAt ps e t j) ∨
  (0 ≤ b ∧ b < i ∧ fitsAt ps e t b ∧ (∀ j, 0 ≤ j → j < i → fitsAt ps e t j → (rdOf ByteArray.empty ps j).size ≤ (rdOf ByteArray.empty ps b).size) ∧ (∀ j, 0 ≤ j → j < b → fitsAt ps e t j → (rdOf ByteArray.empty ps j).size < (rdOf ByteArray.empty ps b).size))

theorem bestInv_step {ps : List ByteArray} {e : Int} {t : ByteArray} {i b : Int} (hi : 0 ≤ i) (h : BestInv ps e t i b) :
    (fitsAt ps e t i ∧ (b < 0 ∨ (rdOf ByteArray.empty ps i).size > (rdOf ByteArray.empty ps b).size) → BestInv ps e t (i + 1) i) ∧
    (¬ (fitsAt ps e t i ∧ (b < 0 ∨ (rdOf ByteArray.empty ps i).size > (rdOf ByteArray.empty ps b).size)) → BestInv ps e t (i + 1) b) := by
  constructor
  · rintro ⟨hf, hc⟩
    refine Or.inr ⟨hi, by omega, hf, fun j j0 j1 hj => ?_, fun j j0 j1 hj => ?_⟩
    · by_cases hji : j = i
      · subst hji; exact Nat.le_refl _
      · rcases h with ⟨rfl, hn⟩ | ⟨b0, b1, bf, hle, _⟩
        · exact absurd hj (hn j j0 (by omega))
        · have := hle j j0 (by omega) hj
          omega
    · rcases h with ⟨rfl, hn⟩ | ⟨b0, b1, bf, hle, _⟩
      · exact absurd hj (hn j j0 j1)
      · have := hle j j0 j1 hj
        omega
  · intro hc
    rcases h with ⟨rfl, hn⟩ | ⟨b0, b1, bf, hle, hlt⟩
    · refine Or.inl ⟨rfl, fun j j0 j1 hj => ?_⟩
      by_cases hji : j = i
      · subst hji; exact hc ⟨hj, Or.inl (by omega)⟩
      · exact hn j j0 (by omega) hj
    · refine Or.inr ⟨b0, by omega, bf, fun j j0 j1 hj => ?_, hlt⟩
      by_cases hji : j = i
      · subst hji
        by_cases hsz : (rdOf ByteArray.empty ps j).size > (rdOf ByteArray.empty ps b).size
        · exact absurd ⟨hj, Or.inr hsz⟩ hc
        · omega
      · exact hle j j0 (by omega) hj

theorem bestGo_inv (ps : List ByteArray) (e : Int) (t : ByteArray) : ∀ (d : Nat) (i b : Int), 0 ≤ i → BestInv ps e t i b → BestInv ps e t (i + d) (bestGo ps e t d i b)
  | 0, i, b, _, h => by rw [bestGo]; simpa using h
  | d + 1, i, b, hi, h => by
    rw [bestGo, show i + ((d + 1 : Nat) : Int) = i + 1 + (d : Int) by omega]
    split
    · rename_i hc
      exact bestGo_inv ps e t d (i + 1) i (by omega) ((bestInv_step hi h).1 hc)
    · rename_i hc
      exact bestGo_inv ps e t d (i + 1) b (by omega) ((bestInv_step hi h).2 hc)

theorem best_inv (ps : List ByteArray) (e : Int) (t : ByteArray) : BestInv ps e t ps.length (best ps e t) := by
  have := bestGo_inv ps e t ps.length 0 (-1) (by omega) (Or.inl ⟨rfl, fun j j0 j1 => by omega⟩)
  rwa [Int.zero_add] at this

theorem plain_eq (ps : List ByteArray) (e i : Int) (h0 : 0 ≤ i) (h1 : i < (ps.length : Int)) (hl : ps.length ≤ 1000000000000000) :
    spec_l1Plain.f ps e i = some (decide (i ≠ e ∧ 0 < (rdOf ByteArray.empty ps i).size)) ∧ impl_Voc_plain.f ps e i = some (decide (i ≠ e ∧ 0 < (rdOf ByteArray.empty ps i).size)) := by
  have hw : wrap64 ((ps.length : Int) - 1) = (ps.length : Int) - 1 := w64 (by omega) (by omega)
  constructor
  · unfold spec_l1Plain.f spec_l6In.f
    rw [hw, if_pos h0, Option.bind_some, if_pos (decide_eq_true (by omega))]
    by_cases he : i = e
    · rw [if_pos he]; simp [he]
    · rw [if_neg he, if_pos h0, if_pos h1]; simp [he]
  · unfold impl_Voc_plain.f
    by_cases he : i = e
    · rw [if_pos he]; simp [he]
    · rw [if_neg he, if_pos h0, if_pos h1]
      congr 1
      rw [Bool.eq_iff_iff, bne_iff_ne, decide_eq_true_eq, ne_eq, toList_nil]
      omega

theorem begins_eq (t p : ByteArray) (ht : t.size ≤ 1000000000000000) :
    spec_l1Fits.f t p = some (decide (p.size ≤ t.size ∧ t.extract 0 p.size = p)) ∧ strings_HasPrefix.f t p = some (decide (p.size ≤ t.size ∧ t.extract 0 p.size = p)) := by
  constructor
  · unfold spec_l1Fits.f
    by_cases h : (p.size : Int) ≤ (t.size : Int)
    · rw [if_pos h, if_pos (by omega), Int.toNat_natCast]
      congr 1
      rw [Bool.eq_iff_iff, beq_iff_eq, decide_eq_true_eq, toList_inj]
      exact ⟨fun h' => ⟨by omega, h'⟩, fun h' => h'.2⟩
    · rw [if_neg h]
      congr 1
      exact (decide_eq_false (by omega)).symm
  · unfold strings_HasPrefix.f stringslite_HasPrefix.f
    by_cases h : (p.size : Int) ≤ (t.size : Int)
    · rw [if_pos h, if_pos (by omega), if_pos h, Int.toNat_natCast, Option.bind_some]
      congr 1
      rw [Bool.eq_iff_iff, beq_iff_eq, decide_eq_true_eq, toList_inj]
      exact ⟨fun h' => ⟨by omega, h'⟩, fun h' => h'.2⟩
    · rw [if_neg (by omega), Option.bind_some]
      congr 1
      exact (decide_eq_false (by omega)).symm

/-- What stands behind the scan. -/
noncomputable def longNext (ps : List ByteArray) (e : Int) (n : Nat) (t : ByteArray) (out : List Int) (b : Int) : List Int × Bool :=
  if b < 0 ∨ out.length ≥ 60 then ([], false) else longGo ps e n (t.extract (rdOf ByteArray.empty ps b).size t.size) (out ++ [b])

theorem spec_voclong_l1 (ps : List ByteArray) (e : Int) (hl : ps.length ≤ 1000000000000000) (t : ByteArray) (ht : t.size ≤ 1000000000000000) (out : List Int) (ho : out.length ≤ 60) (n : Nat)
    (hnext : ∀ b, 0 ≤ b → b < (ps.length : Int) → fitsAt ps e t b → out.length < 60 → Ev (fun k => spec_VocLong.l0 k (t.extract (rdOf ByteArray.empty ps b).size t.size) (out ++ [b]) ps e) (longGo ps e n (t.extract (rdOf ByteArray.empty ps b).size t.size) (out ++ [b]))) :
    ∀ (d : Nat) (i b : Int), 0 ≤ i → i + d = (ps.length : Int) → (b = -1 ∨ (0 ≤ b ∧ b < i ∧ fitsAt ps e t b)) → Ev (fun k => spec_VocLong.l1 k t out b i ps e) (longNext ps e n t out (bestGo ps e t d i b)) := by
  intro d
  induction d with
  | zero =>
    intro i b hi hd hb
    rw [bestGo]
    unfold longNext
    refine Ev.step (fun k => by rw [spec_VocLong.l1]) ?_
    refine ifn (by omega) ?_
    by_cases hb0 : b < 0
    · refine ifp hb0 ?_
      rw [if_pos (Or.inl hb0)]
      exact Ev.now _
    · refine ifn hb0 ?_
      have hf : fitsAt ps e t b := hb.elim (fun h => by omega) (fun h => h.2.2)
      have hfs := hf.2.2.1
      by_cases ho2 : (out.length : Int) ≥ 60
      · refine ifp ho2 ?_
        rw [if_pos (Or.inr (by omega))]
        exact Ev.now _
      · refine ifn ho2 ?_
        rw [if_neg (by omega)]
        refine ifp (by omega) (ifp (by omega) (ifp (by omega) (ifp (by omega) (ifp (by omega) ?_))))
        rw [Int.toNat_natCast]
        exact hnext b (by omega) (by omega) hf (by omega)
  | succ d ih =>
    intro i b hi hd hb
    have hi1 : wrap64 (i + 1) = i + 1 := w64 (by omega) (by omega)
    have yes : fitsAt ps e t i → Ev (fun k => spec_VocLong.l1 k t out i (i + 1) ps e) (longNext ps e n t out (bestGo ps e t d (i + 1) i)) := fun hf => ih (i + 1) i (by omega) (by omega) (Or.inr ⟨hi, by omega, hf⟩)
    have no : Ev (fun k => spec_VocLong.l1 k t out b (i + 1) ps e) (longNext ps e n t out (bestGo ps e t d (i + 1) b)) := ih (i + 1) b (by omega) (by omega) (hb.imp id fun h => ⟨h.1, by omega, h.2.2⟩)
    refine Ev.step (fun k => by rw [spec_VocLong.l1]) ?_
    refine ifp (by omega) ?_
    rw [hi1, bestGo]
    refine b0 (plain_eq ps e i hi (by omega) hl).1 ?_
    by_cases c1 : i ≠ e ∧ 0 < (rdOf ByteArray.empty ps i).size
    · refine ifp (decide_eq_true c1) ?_
      refine ifp hi ?_
      refine b0 (begins_eq t _ ht).1 ?_
      by_cases c2 : (rdOf ByteArray.empty ps i).size ≤ t.size ∧ t.extract 0 (rdOf ByteArray.empty ps i).size = rdOf ByteArray.empty ps i
      · have hf : fitsAt ps e t i := ⟨c1.1, c1.2, c2.1, c2.2⟩
        refine ifp (decide_eq_true c2) ?_
        by_cases c3 : b < 0
        · refine ifp c3 ?_
          rw [if_pos ⟨hf, Or.inl c3⟩]
          exact yes hf
        · refine ifn c3 ?_
          refine ifp (by omega) (ifp (by omega) ?_)
          by_cases c4 : ((rdOf ByteArray.empty ps i).size : Int) > ((rdOf ByteArray.empty ps b).size : Int)
          · refine ifp c4 ?_
            rw [if_pos ⟨hf, Or.inr (by omega)⟩]
            exact yes hf
          · refine ifn c4 ?_
            rw [if_neg (fun h => by rcases h.2 with h | h <;> omega)]
            exact no
      · refine ifn (by simpa using c2) ?_
        rw [if_neg (fun h => c2 ⟨h.1.2.2.1, h.1.2.2.2⟩)]
        exact no
    · refine ifn (by simpa using c1) ?_
      rw [if_neg (fun h => c1 ⟨h.1.1, h.1.2.1⟩)]
      exact no

theorem impl_voclong_l1 (ps : List ByteArray) (e : Int) (hl : ps.length ≤ 1000000000000000) (t : ByteArray) (ht : t.size ≤ 1000000000000000) (out : List Int) (ho : out.length ≤ 60) (n : Nat)
    (hnext : ∀ b, 0 ≤ b → b < (ps.length : Int) → fitsAt ps e t b → out.length < 60 → Ev (fun k => impl_VocLong.l0 k (t.extract (rdOf ByteArray.empty ps b).size t.size) (out ++ [b]) ps e) (longGo ps e n (t.extract (rdOf ByteArray.empty ps b).size t.size) (out ++ [b]))) :
    ∀ (d : Nat) (i b : Int), 0 ≤ i → i + d = (ps.length : Int) → (b = -1 ∨ (0 ≤ b ∧ b < i ∧ fitsAt ps e t b)) → Ev (fun k => impl_VocLong.l1 k t out b ps (ps.length : Int) i ps e) (longNext ps e n t out (bestGo ps e t d i b)) := by
  intro d
  induction d with
  | zero =>
    intro i b hi hd hb
    rw [bestGo]
    unfold longNext
    refine Ev.step (fun k => by rw [impl_VocLong.l1]) ?_
    refine ifn (by omega) ?_
    by_cases hb0 : b < 0
    · refine ifp hb0 ?_
      rw [if_pos (Or.inl hb0)]
      exact Ev.now _
    · refine ifn hb0 ?_
      have hf : fitsAt ps e t b := hb.elim (fun h => by omega) (fun h => h.2.2)
      have hfs := hf.2.2.1
      by_cases ho2 : (out.length : Int) = 60
      · refine ifp ho2 ?_
        rw [if_pos (Or.inr (by omega))]
        exact Ev.now _
      · refine ifn ho2 ?_
        rw [if_neg (by omega)]
        refine ifp (by omega) (ifp (by omega) (ifp (by omega) (ifp (by omega) (ifp (by omega) ?_))))
        rw [Int.toNat_natCast]
        exact hnext b (by omega) (by omega) hf (by omega)
  | succ d ih =>
    intro i b hi hd hb
    have hi1 : wrap64 (i + 1) = i + 1 := w64 (by omega) (by omega)
    have yes : fitsAt ps e t i → Ev (fun k => impl_VocLong.l1 k t out i ps (ps.length : Int) (i + 1) ps e) (longNext ps e n t out (bestGo ps e t d (i + 1) i)) := fun hf => ih (i + 1) i (by omega) (by omega) (Or.inr ⟨hi, by omega, hf⟩)
    have no : Ev (fun k => impl_VocLong.l1 k t out b ps (ps.length : Int) (i + 1) ps e) (longNext ps e n t out (bestGo ps e t d (i + 1) b)) := ih (i + 1) b (by omega) (by omega) (hb.imp id fun h => ⟨h.1, by omega, h.2.2⟩)
    refine Ev.step (fun k => by rw [impl_VocLong.l1]) ?_
    refine ifp (by omega) ?_
    refine ifp hi ?_
    refine ifp (by omega) ?_
    rw [hi1, bestGo]
    refine b0 (plain_eq ps e i hi (by omega) hl).2 ?_
    by_cases c1 : i ≠ e ∧ 0 < (rdOf ByteArray.empty ps i).size
    · refine ifp (decide_eq_true c1) ?_
      refine b0 (begins_eq t _ ht).2 ?_
      by_cases c2 : (rdOf ByteArray.empty ps i).size ≤ t.size ∧ t.extract 0 (rdOf ByteArray.empty ps i).size = rdOf ByteArray.empty ps i
      · have hf : fitsAt ps e t i := ⟨c1.1, c1.2, c2.1, c2.2⟩
        refine ifp (decide_eq_true c2) ?_
        by_cases c3 : b < 0
        · refine ifp c3 ?_
          rw [if_pos ⟨hf, Or.inl c3⟩]
          exact yes hf
        · refine ifn c3 ?_
          refine ifp (by omega) (ifp (by omega) ?_)
          by_cases c4 : ((rdOf ByteArray.empty ps i).size : Int) > ((rdOf ByteArray.empty ps b).size : Int)
          · refine ifp c4 ?_
            rw [if_pos ⟨hf, Or.inr (by omega)⟩]
            exact yes hf
          · refine ifn c4 ?_
            rw [if_neg (fun h => by rcases h.2 with h | h <;> omega)]
            exact no
      · refine ifn (by simpa using c2) ?_
        rw [if_neg (fun h => c2 ⟨h.1.2.2.1, h.1.2.2.2⟩)]
        exact no
    · refine ifn (by simpa using c1) ?_
      rw [if_neg (fun h => c1 ⟨h.1.1, h.1.2.1⟩)]
      exact no

theorem cut_size {ps : List ByteArray} {e b : Int} {t : ByteArray} (hf : fitsAt ps e t b) : (t.extract (rdOf ByteArray.empty ps b).size t.size).size < t.size := by
  have h1 := hf.2.1
  have h2 := hf.2.2.1
  rw [ByteArray.size_extract]
  omega

theorem spec_voclong_l0 (ps : List ByteArray) (e : Int) (hl : ps.length ≤ 1000000000000000) : ∀ (n : Nat) (t : ByteArray) (out : List Int), t.size < n → t.size ≤ 1000000000000000 → out.length ≤ 60 → Ev (fun k => spec_VocLong.l0 k t out ps e) (longGo ps e n t out) := by
  intro n
  induction n with
  | zero => intro t out h; omega
  | succ n ih =>
    intro t out h ht ho
    rw [longGo]
    refine Ev.step (fun k => by rw [spec_VocLong.l0]) ?_
    by_cases hz : t.size = 0
    · rw [if_pos hz]
      exact ifn (by omega) (Ev.now _)
    · rw [if_neg hz]
      refine ifp (by omega) ?_
      exact spec_voclong_l1 ps e hl t ht out ho n (fun b _ _ hf hlt => ih _ _ (by have := cut_size hf; omega) (by have := cut_size hf; omega) (by simp; omega)) ps.length 0 (-1) (by omega) (by omega) (Or.inl rfl)

theorem impl_voclong_l0 (ps : List ByteArray) (e : Int) (hl : ps.length ≤ 1000000000000000) : ∀ (n : Nat) (t : ByteArray) (out : List Int), t.size < n → t.size ≤ 1000000000000000 → out.length ≤ 60 → Ev (fun k => impl_VocLong.l0 k t out ps e) (longGo ps e n t out) := by
  intro n
  induction n with
  | zero => intro t out h; omega
  | succ n ih =>
    intro t out h ht ho
    rw [longGo]
    refine Ev.step (fun k => by rw [impl_VocLong.l0]) ?_
    by_cases hz : t.size = 0
    · rw [if_pos hz]
      exact ifp (toList_nil.2 hz) (Ev.now _)
    · rw [if_neg hz]
      refine ifn (fun h => hz (toList_nil.1 h)) ?_
      exact impl_voclong_l1 ps e hl t ht out ho n (fun b _ _ hf hlt => ih _ _ (by have := cut_size hf; omega) (by have := cut_size hf; omega) (by simp; omega)) ps.length 0 (-1) (by omega) (by omega) (Or.inl rfl)

theorem spec_voclong_ev (ps : List ByteArray) (e : Int) (hl : ps.length ≤ 1000000000000000) (t : ByteArray) (ht : t.size ≤ 1000000000000000) : Ev (fun k => spec_VocLong.f k ps e t) (vocLong ps e t) := by
  unfold spec_VocLong.f vocLong
  refine bs ?_
  refine Ev.bind (spec_vocok_ev ps e hl) ?_
  by_cases hv : vocOk ps e = true
  · rw [if_pos hv]
    refine ifp hv ?_
    exact spec_voclong_l0 ps e hl (t.size + 1) t [] (by omega) ht (by simp)
  · rw [if_neg hv]
    exact ifn hv (Ev.now _)

theorem impl_voclong_ev (ps : List ByteArray) (e : Int) (hl : ps.length ≤ 1000000000000000) (t : ByteArray) (ht : t.size ≤ 1000000000000000) : Ev (fun k => impl_VocLong.f k ps e t) (vocLong ps e t) := by
  unfold impl_VocLong.f vocLong
  refine bs ?_
  refine Ev.bind (impl_vocok_ev ps e hl) ?_
  by_cases hv : vocOk ps e = true
  · rw [if_pos hv]
    refine ifp hv ?_
    exact impl_voclong_l0 ps e hl (t.size + 1) t [] (by omega) ht (by simp)
  · rw [if_neg hv]
    exact ifn hv (Ev.now _)

/-- What the cut tells: the pieces, each the best of the rest. -/
inductive Cut (ps : List ByteArray) (e : Int) : ByteArray → List Int → Prop
  | done {t : ByteArray} (h : t.size = 0) : Cut ps e t []
  | piece {t : ByteArray} {b : Int} {r : List Int} (h0 : b = best ps e t) (h1 : 0 ≤ b) (h2 : b < (ps.length : Int)) (hf : fitsAt ps e t b) (hr : Cut ps e (t.extract (rdOf ByteArray.empty ps b).size t.size) r) : Cut ps e t (b :: r)

theorem longGo_cut (ps : List ByteArray) (e : Int) : ∀ (n : Nat) (t : ByteArray) (out ids : List Int), longGo ps e n t out = (ids, true) → out.length ≤ 60 → ∃ r, ids = out ++ r ∧ Cut ps e t r ∧ ids.length ≤ 60
  | 0, t, out, ids, h, _ => by rw [longGo] at h; cases h
  | n + 1, t, out, ids, h, ho => by
    rw [longGo] at h
    by_cases hz : t.size = 0
    · rw [if_pos hz] at h
      injection h with h
      exact ⟨[], by simp [h], Cut.done hz, by rw [← h]; exact ho⟩
    · rw [if_neg hz] at h
      by_cases hc : best ps e t < 0 ∨ out.length ≥ 60
      · rw [if_pos hc] at h
        cases h
      · rw [if_neg hc] at h
        obtain ⟨r, h1, h2, h3⟩ := longGo_cut ps e n _ _ ids h (by simp; omega)
        rcases best_inv ps e t with ⟨hb, _⟩ | ⟨b0, b1, bf, _, _⟩
        · omega
        · exact ⟨best ps e t :: r, by rw [h1, List.append_assoc]; rfl, Cut.piece rfl b0 b1 bf h2, h3⟩

theorem longGo_false (ps : List ByteArray) (e : Int) : ∀ (n : Nat) (t : ByteArray) (out : List Int), (longGo ps e n t out).2 = false → (longGo ps e n t out).1 = []
  | 0, t, out, _ => by rw [longGo]
  | n + 1, t, out, h => by
    rw [longGo] at h ⊢
    by_cases hz : t.size = 0
    · rw [if_pos hz] at h; cases h
    · rw [if_neg hz] at h ⊢
      by_cases hc : best ps e t < 0 ∨ out.length ≥ 60
      · rw [if_pos hc]
      · rw [if_neg hc] at h ⊢
        exact longGo_false ps e n _ _ h

theorem vocLong_len (ps : List ByteArray) (e : Int) (t : ByteArray) : (vocLong ps e t).1.length ≤ 60 := by
  unfold vocLong
  split
  · obtain ⟨r, hr⟩ : ∃ r, r = longGo ps e (t.size + 1) t [] := ⟨_, rfl⟩
    rw [← hr]
    obtain ⟨ids, ok⟩ := r
    cases ok with
    | true =>
      obtain ⟨_, _, _, h⟩ := longGo_cut ps e _ t [] ids hr.symm (by simp)
      exact h
    | false =>
      have := longGo_false ps e (t.size + 1) t [] (by rw [← hr])
      rw [← hr] at this
      dsimp only at this
      rw [this]
      simp
  · simp

/-! ### Pieces that came in: measured, copied, compared -/
theorem sz_str_l0 (ps : List ByteArray) (hs : ∀ x ∈ ps, x.size ≤ 9223372036854775807) : ∀ (d i : Nat) (left : Int), i + d = ps.length → ps.length ≤ 2000000 → 0 ≤ left → left ≤ 1048576 →
    ∃ r, Ev (fun k => laws_szStringS.l0 k ps left (i : Int)) r ∧ (r = -1 ∨ (0 ≤ r ∧ r ≤ left ∧ ∀ x ∈ ps.drop i, (x.size : Int) ≤ left)) := by
  intro d
  induction d with
  | zero =>
    intro i left hi hl h0 h1
    refine ⟨left, ?_, Or.inr ⟨h0, Int.le_refl _, ?_⟩⟩
    · refine Ev.step (fun k => by rw [laws_szStringS.l0]) ?_
      exact ifn (by omega) (Ev.now _)
    · rw [List.drop_eq_nil_of_le (by omega)]
      simp
  | succ d ih =>
    intro i left hi hl h0 h1
    have hlt : i < ps.length := by omega
    have hsz := hs _ (List.getElem_mem hlt)
    have hw : wrap64 (left - ((ps[i].size : Nat) : Int)) = left - (ps[i].size : Int) := w64 (by omega) (by omega)
    by_cases hc : left - (ps[i].size : Int) < 0
    · refine ⟨-1, ?_, Or.inl rfl⟩
      refine Ev.step (fun k => by rw [laws_szStringS.l0]) ?_
      refine ifp (by omega) (ifp (by omega) ?_)
      rw [rdOf_nat _ _ _ hlt, hw]
      exact ifp hc (Ev.now _)
    · obtain ⟨r, hr, hr2⟩ := ih (i + 1) (left - (ps[i].size : Int)) (by omega) hl (by omega) (by omega)
      refine ⟨r, ?_, ?_⟩
      · refine Ev.step (fun k => by rw [laws_szStringS.l0]) ?_
        refine ifp (by omega) (ifp (by omega) ?_)
        rw [rdOf_nat _ _ _ hlt, hw, show wrap64 ((i : Int) + 1) = ((i + 1 : Nat) : Int) by rw [w64 (by omega) (by omega)]; omega]
        exact ifn hc hr
      · rcases hr2 with h | ⟨g1, g2, g3⟩
        · exact Or.inl h
        · refine Or.inr ⟨g1, by omega, fun x hx => ?_⟩
          rw [List.drop_eq_getElem_cons hlt] at hx
          rcases List.mem_cons.1 hx with rfl | hx
          · omega
          · have := g3 x hx
            omega

theorem sz_voc (ps : List ByteArray) (e : Int) (hl : ps.length ≤ 9223372036854775807) (hs : ∀ x ∈ ps, x.size ≤ 9223372036854775807) :
    ∃ r, Ev (fun k => laws_szVoc.f k ps e 1048576) r ∧ (r < 0 ∨ (¬ r < 0 ∧ ps.length ≤ 1048576 ∧ ∀ x ∈ ps, x.size ≤ 1048576)) := by
  have hw : wrap64 (1048576 - (ps.length : Int)) = 1048576 - (ps.length : Int) := w64 (by omega) (by omega)
  have key : ∃ r, Ev (fun k => laws_szStringS.f k ps 1048576) r ∧ (r = -1 ∨ (0 ≤ r ∧ ps.length ≤ 1048576 ∧ ∀ x ∈ ps, x.size ≤ 1048576)) := by
    unfold laws_szStringS.f
    rw [hw]
    by_cases hc : 1048576 - (ps.length : Int) < 0
    · exact ⟨-1, ifp hc (Ev.now _), Or.inl rfl⟩
    · obtain ⟨r, hr, hr2⟩ := sz_str_l0 ps hs ps.length 0 (1048576 - (ps.length : Int)) (by omega) (by omega) (by omega) (by omega)
      refine ⟨r, ifn hc hr, ?_⟩
      rcases hr2 with h | ⟨g1, g2, g3⟩
      · exact Or.inl h
      · refine Or.inr ⟨g1, by omega, fun x hx => ?_⟩
        have := g3 x (by simpa using hx)
        omega
  obtain ⟨r, hr, hr2⟩ := key
  rcases hr2 with h | ⟨g1, g2, g3⟩
  · refine ⟨-1, ?_, Or.inl (by omega)⟩
    unfold laws_szVoc.f
    refine Ev.bind hr ?_
    exact ifp (by omega) (Ev.now _)
  · refine ⟨r, ?_, Or.inr ⟨by omega, g2, g3⟩⟩
    unfold laws_szVoc.f
    refine Ev.bind hr ?_
    exact ifn (by omega) (Ev.now _)

theorem to_str_l0 (ps : List ByteArray) (hl : ps.length ≤ 1048576) : ∀ (d i : Nat) (ys : List ByteArray), i + d = ps.length → ys.length = ps.length → (∀ j, j < i → ys[j]? = ps[j]?) →
    Ev (fun k => laws_toStringS.l0 k ps ys (i : Int)) ps := by
  intro d
  induction d with
  | zero =>
    intro i ys hi hy hj
    refine Ev.step (fun k => by rw [laws_toStringS.l0]) ?_
    refine ifn (by omega) (Ev_eq (Ev.now _) ?_)
    apply List.ext_getElem?
    intro j
    by_cases h : j < i
    · exact hj j h
    · rw [List.getElem?_eq_none (by omega), List.getElem?_eq_none (by omega)]
  | succ d ih =>
    intro i ys hi hy hj
    have hlt : i < ps.length := by omega
    refine Ev.step (fun k => by rw [laws_toStringS.l0]) ?_
    refine ifp (by omega) (ifp (by omega) (ifp (by omega) ?_))
    rw [rdOf_nat _ _ _ hlt, show wrap64 ((i : Int) + 1) = ((i + 1 : Nat) : Int) by rw [w64 (by omega) (by omega)]; omega, Int.toNat_natCast]
    refine ih (i + 1) _ (by omega) (by simp [hy]) (fun j hji => ?_)
    by_cases e : j = i
    · subst e
      rw [List.getElem?_set_self (by omega), List.getElem?_eq_getElem hlt]
    · rw [List.getElem?_set_ne (by omega)]
      exact hj j (by omega)

theorem to_voc (ps : List ByteArray) (e : Int) (hl : ps.length ≤ 1048576) : Ev (fun k => laws_toVoc.f k ps e) (ps, e) := by
  unfold laws_toVoc.f laws_toStringS.f
  refine Ev.bind (a := ps) ?_ (Ev.now _)
  refine ifp (by omega) (ifp (by omega) ?_)
  exact to_str_l0 ps hl ps.length 0 _ (by omega) (by simp) (fun j hj => by omega)

theorem eq_str_l0 (a b : List ByteArray) (ha : a.length ≤ 1000000000000000) (hab : a.length = b.length) : ∀ (d i : Nat), i + d = a.length → Ev (fun k => laws_eqStringS.l0 k a b (i : Int)) (decide (a.drop i = b.drop i)) := by
  intro d
  induction d with
  | zero =>
    intro i hi
    rw [List.drop_eq_nil_of_le (by omega), List.drop_eq_nil_of_le (by omega)]
    refine Ev.step (fun k => by rw [laws_eqStringS.l0]) ?_
    exact ifn (by omega) (Ev_eq (Ev.now _) (by simp))
  | succ d ih =>
    intro i hi
    have h1 : i < a.length := by omega
    have h2 : i < b.length := by omega
    rw [List.drop_eq_getElem_cons h1, List.drop_eq_getElem_cons h2]
    refine Ev.step (fun k => by rw [laws_eqStringS.l0]) ?_
    refine ifp (by omega) (ifp (by omega) (ifp (by omega) ?_))
    rw [rdOf_nat _ _ _ h1, rdOf_nat _ _ _ h2, show wrap64 ((i : Int) + 1) = ((i + 1 : Nat) : Int) by rw [w64 (by omega) (by omega)]; omega]
    by_cases hc : a[i] = b[i]
    · refine ifp (by rw [hc]) ?_
      exact Ev_eq (ih (i + 1) (by omega)) (dec_cons hc)
    · refine ifn (fun h => hc (toList_inj.1 h)) ?_
      exact Ev_eq (Ev.now _) (dec_ne hc)

theorem eq_voc (a b : List ByteArray) (e f : Int) (ha : a.length ≤ 1000000000000000) : Ev (fun k => laws_eqVoc.f k a e b f) (decide (a = b) && decide (e = f)) := by
  have hs : Ev (fun k => laws_eqStringS.f k a b) (decide (a = b)) := by
    unfold laws_eqStringS.f
    by_cases h : (a.length : Int) = (b.length : Int)
    · refine ifp h ?_
      have := eq_str_l0 a b ha (by omega) a.length 0 (by omega)
      simpa using this
    · refine ifn h ?_
      refine Ev_eq (Ev.now _) (decide_eq_false ?_).symm
      intro e
      exact h (by rw [e])
  unfold laws_eqVoc.f
  refine Ev.bind hs ?_
  by_cases h : a = b
  · refine ifp (decide_eq_true h) ?_
    by_cases h2 : e = f
    · exact ifp h2 (Ev_eq (Ev.now _) (by simp [h, h2]))
    · exact ifn h2 (Ev_eq (Ev.now _) (by simp [h2]))
  · exact ifn (by simpa using h) (Ev_eq (Ev.now _) (by simp [h]))

theorem eq_voc_self (a : List ByteArray) (e : Int) (ha : a.length ≤ 1000000000000000) : Ev (fun k => laws_eqVoc.f k a e a e) true := Ev_eq (eq_voc a a e e ha) (by simp)

theorem eq_int_l0 (a b : List Int) (ha : a.length ≤ 1000000000000000) (hab : a.length = b.length) : ∀ (d i : Nat), i + d = a.length → Ev (fun k => laws_eqIntS.l0 k a b (i : Int)) (decide (a.drop i = b.drop i)) := by
  intro d
  induction d with
  | zero =>
    intro i hi
    rw [List.drop_eq_nil_of_le (by omega), List.drop_eq_nil_of_le (by omega)]
    refine Ev.step (fun k => by rw [laws_eqIntS.l0]) ?_
    exact ifn (by omega) (Ev_eq (Ev.now _) (by simp))
  | succ d ih =>
    intro i hi
    have h1 : i < a.length := by omega
    have h2 : i < b.length := by omega
    rw [List.drop_eq_getElem_cons h1, List.drop_eq_getElem_cons h2]
    refine Ev.step (fun k => by rw [laws_eqIntS.l0]) ?_
    refine ifp (by omega) (ifp (by omega) (ifp (by omega) ?_))
    rw [rd_nat _ _ h1, rd_nat _ _ h2, show wrap64 ((i : Int) + 1) = ((i + 1 : Nat) : Int) by rw [w64 (by omega) (by omega)]; omega]
    by_cases hc : a[i] = b[i]
    · refine ifp hc ?_
      exact Ev_eq (ih (i + 1) (by omega)) (dec_cons hc)
    · refine ifn hc ?_
      exact Ev_eq (Ev.now _) (dec_ne hc)

theorem eq_int (a b : List Int) (ha : a.length ≤ 1000000000000000) : Ev (fun k => laws_eqIntS.f k a b) (decide (a = b)) := by
  unfold laws_eqIntS.f
  by_cases h : (a.length : Int) = (b.length : Int)
  · refine ifp h ?_
    have := eq_int_l0 a b ha (by omega) a.length 0 (by omega)
    simpa using this
  · refine ifn h ?_
    refine Ev_eq (Ev.now _) (decide_eq_false ?_).symm
    intro e
    exact h (by rw [e])

theorem eq_int_self (a : List Int) (ha : a.length ≤ 1000000000000000) : Ev (fun k => laws_eqIntS.f k a a) true := Ev_eq (eq_int a a ha) (by simp)

/-! ### Marks in rows of numbers -/
theorem mark_int_l0 : ∀ (d i : Nat) (xs : List Int) (m : Int), i + d = xs.length → 0 ≤ m → m + d ≤ 1000000000000000 → xs.length ≤ 1000000000000000 →
    ∃ ys, Ev (fun k => laws_markIntS.l0 k xs m (i : Int)) (m + d, ys) ∧ ys.length = xs.length ∧ (∀ j, j < i → ys[j]? = xs[j]?) ∧ ∀ j : Nat, i ≤ j → j < xs.length → ys[j]? = some (m + (j : Int) - (i : Int)) := by
  intro d
  induction d with
  | zero =>
    intro i xs m hi h0 h1 h2
    refine ⟨xs, ?_, rfl, fun j _ => rfl, fun j h3 h4 => by omega⟩
    refine Ev.step (fun k => by rw [laws_markIntS.l0]) ?_
    exact ifn (by omega) (Ev_eq (Ev.now _) (by simp))
  | succ d ih =>
    intro i xs m hi h0 h1 h2
    obtain ⟨ys, he, hl, ha, hb⟩ := ih (i + 1) (xs.set i m) (m + 1) (by simp; omega) (by omega) (by omega) (by simpa using h2)
    refine ⟨ys, ?_, by simpa using hl, fun j hj => ?_, fun j hj hj2 => ?_⟩
    · refine Ev.step (fun k => by rw [laws_markIntS.l0]) ?_
      refine ifp (by omega) (ifp (by omega) ?_)
      rw [show wrap64 ((i : Int) + 1) = ((i + 1 : Nat) : Int) by rw [w64 (by omega) (by omega)]; omega, show wrap64 (m + 1) = m + 1 from w64 (by omega) (by omega), Int.toNat_natCast, show m + ((d + 1 : Nat) : Int) = m + 1 + (d : Int) by omega]
      exact he
    · rw [ha j (by omega), List.getElem?_set_ne (by omega)]
    · by_cases e : j = i
      · subst e
        rw [ha j (by omega), List.getElem?_set_self (by omega)]
        congr 1
        omega
      · rw [hb j (by omega) (by simpa using hj2)]
        congr 1
        omega

theorem mark_int (xs : List Int) (m : Int) (h0 : 0 ≤ m) (h1 : m + xs.length ≤ 1000000000000000) : ∃ ys, Ev (fun k => laws_markIntS.f k xs m) (m + xs.length, ys) ∧ ys.length = xs.length ∧ ∀ j : Nat, j < xs.length → ys[j]? = some (m + (j : Int)) := by
  obtain ⟨ys, he, hl, _, hb⟩ := mark_int_l0 xs.length 0 xs m (by omega) h0 h1 (by omega)
  exact ⟨ys, he, hl, fun j hj => by rw [hb j (by omega) hj]; congr 1; omega⟩

theorem held_int_l0 (ys : List Int) (m : Int) (h0 : 0 ≤ m) (h1 : m + ys.length ≤ 1000000000000000) (hy : ∀ j : Nat, j < ys.length → ys[j]? = some (m + (j : Int))) : ∀ (d i : Nat), i + d = ys.length → Ev (fun k => laws_heldIntS.l0 k ys (m + i) (i : Int)) (m + ys.length) := by
  intro d
  induction d with
  | zero =>
    intro i hi
    refine Ev.step (fun k => by rw [laws_heldIntS.l0]) ?_
    exact ifn (by omega) (Ev_eq (Ev.now _) (by omega))
  | succ d ih =>
    intro i hi
    have hlt : i < ys.length := by omega
    have hv : ys[i] = m + (i : Int) := by have := hy i hlt; rw [List.getElem?_eq_getElem hlt] at this; injection this
    refine Ev.step (fun k => by rw [laws_heldIntS.l0]) ?_
    refine ifp (by omega) (ifp (by omega) ?_)
    rw [rd_nat _ _ hlt]
    refine ifp hv ?_
    rw [show wrap64 ((i : Int) + 1) = ((i + 1 : Nat) : Int) by rw [w64 (by omega) (by omega)]; omega, show wrap64 (m + (i : Int) + 1) = m + ((i + 1 : Nat) : Int) by rw [w64 (by omega) (by omega)]; omega]
    exact ih (i + 1) (by omega)

theorem held_int (ys : List Int) (m : Int) (h0 : 0 ≤ m) (h1 : m + ys.length ≤ 1000000000000000) (hy : ∀ j : Nat, j < ys.length → ys[j]? = some (m + (j : Int))) : Ev (fun k => laws_heldIntS.f k ys m) (m + ys.length) := by
  have := held_int_l0 ys m h0 h1 hy ys.length 0 (by omega)
  unfold laws_heldIntS.f
  simpa using this

/-! ### Marks in rows of texts -/
theorem mark_text_l0 : ∀ (n : Nat) (s : ByteArray), n ≤ 100000000000 → s.size + n ≤ 1000000000000 → ∃ r, Ev (fun k => laws_markText.l0 k (n : Int) s) r := by
  intro n
  induction n using Nat.strongRecOn with
  | ind n ih =>
    intro s hn hs
    by_cases h : n = 0
    · subst h
      refine ⟨_, Ev.step (fun k => by rw [laws_markText.l0]) (ifn (by omega) (ifp (by omega) (Ev.now _)))⟩
    · have hd : wrap64 (Int.tdiv (n : Int) 10) = ((n / 10 : Nat) : Int) := by rw [Int.tdiv_eq_ediv_of_nonneg (by omega), w64 (by omega) (by omega)]; omega
      obtain ⟨y, hy⟩ : ∃ y : List Int, y = [(wrap64 (48 + (Int.tmod (n : Int) 10))) % 256] := ⟨_, rfl⟩
      have hys : (strOfNums y).size = 1 := by rw [strOfNums_size, hy]; rfl
      obtain ⟨r, hr⟩ := ih (n / 10) (by omega) (strOfNums y ++ s) (by omega) (by rw [ByteArray.size_append]; omega)
      refine ⟨r, ?_⟩
      refine Ev.step (fun k => by rw [laws_markText.l0]) ?_
      refine ifp (by omega) ?_
      refine bs ?_
      rw [← hy, hd]
      exact ifp (by omega) hr

theorem mark_text (n : Int) (h0 : 0 ≤ n) (h1 : n ≤ 100000000000) : ∃ r, Ev (fun k => laws_markText.f k n) r := by
  unfold laws_markText.f
  by_cases h : n ≤ 0
  · exact ⟨_, ifp h (Ev.now _)⟩
  · obtain ⟨r, hr⟩ := mark_text_l0 n.toNat ⟨#[]⟩ (by omega) (by rw [size_nil]; omega)
    refine ⟨r, ifn h ?_⟩
    rw [show n = ((n.toNat : Nat) : Int) by omega]
    exact hr

theorem mark_str_l0 : ∀ (d i : Nat) (xs : List ByteArray) (m : Int), i + d = xs.length → 0 ≤ m → m + d ≤ 10000000000 → xs.length ≤ 10000000000 → ∃ ys, Ev (fun k => laws_markStringS.l0 k xs m (i : Int)) (m + d, ys) := by
  intro d
  induction d with
  | zero =>
    intro i xs m hi h0 h1 h2
    refine ⟨xs, ?_⟩
    refine Ev.step (fun k => by rw [laws_markStringS.l0]) ?_
    exact ifn (by omega) (Ev_eq (Ev.now _) (by simp))
  | succ d ih =>
    intro i xs m hi h0 h1 h2
    obtain ⟨t, ht⟩ := mark_text m h0 (by omega)
    obtain ⟨ys, he⟩ := ih (i + 1) (xs.set i t) (m + 1) (by simp; omega) (by omega) (by omega) (by simpa using h2)
    refine ⟨ys, ?_⟩
    refine Ev.step (fun k => by rw [laws_markStringS.l0]) ?_
    refine ifp (by omega) ?_
    refine Ev.bind ht ?_
    refine ifp (by omega) ?_
    rw [show wrap64 ((i : Int) + 1) = ((i + 1 : Nat) : Int) by rw [w64 (by omega) (by omega)]; omega, show wrap64 (m + 1) = m + 1 from w64 (by omega) (by omega), Int.toNat_natCast, show m + ((d + 1 : Nat) : Int) = m + 1 + (d : Int) by omega]
    exact he

theorem mark_voc (ps : List ByteArray) (e m : Int) (h0 : 0 ≤ m) (h1 : m + ps.length ≤ 10000000000) : ∃ ys, Ev (fun k => laws_markVoc.f k ps e m) (m + ps.length, ys) := by
  obtain ⟨ys, he⟩ := mark_str_l0 ps.length 0 ps m (by omega) h0 h1 (by omega)
  refine ⟨ys, ?_⟩
  unfold laws_markVoc.f laws_markStringS.f
  exact Ev.bind he (Ev.now _)

theorem FnExactVocLong (ps : List ByteArray) (e : Int) (t : ByteArray) (h0 : (ps.length ≤ maxLen ∧ ∀ x ∈ ps, x.size ≤ maxLen) ∧ (Lit.int .i64 e).wf = true) (h1 : t.size ≤ maxLen) : ∃ k, laws_FnExactVocLong.f k ps e t = some true := by
  refine Ev.rounds (g := fun k => laws_FnExactVocLong.f k ps e t) ?_
  obtain ⟨r, hr, hr2⟩ := sz_voc ps e h0.1.1 h0.1.2
  unfold laws_FnExactVocLong.f
  by_cases hlong : (t.size : Int) > 1048576
  · exact ifp hlong (Ev.now _)
  refine ifn hlong ?_
  refine Ev.bind hr ?_
  rcases hr2 with h | ⟨h, g1, g2⟩
  · exact ifp h (Ev.now _)
  refine ifn h ?_
  have ht := to_voc ps e g1
  have hlen := vocLong_len ps e t
  refine Ev.bind ht ?_
  refine Ev.bind (spec_voclong_ev ps e (by omega) t (by omega)) ?_
  refine Ev.bind ht ?_
  refine Ev.bind (impl_voclong_ev ps e (by omega) t (by omega)) ?_
  refine Ev.bind (eq_int_self _ (by omega)) ?_
  refine ifp rfl ?_
  refine Ev.step (fun k => by rw [laws_FnExactVocLong.j0]) ?_
  refine ifn (by simp) ?_
  refine Ev.bind ht ?_
  refine Ev.bind (eq_voc_self ps e (by omega)) ?_
  refine ifp rfl ?_
  obtain ⟨ms, hm⟩ := mark_voc ps e 1 (by omega) (by omega)
  refine Ev.bind hm ?_
  refine ifn (by dsimp only; omega) ?_
  refine Ev.bind (eq_int_self _ (by omega)) ?_
  refine ifp rfl ?_
  refine Ev.step (fun k => by rw [laws_FnExactVocLong.j1]) ?_
  refine ifn (by simp) ?_
  obtain ⟨ys, hy, y1, y2⟩ := mark_int (vocLong ps e t).1 1 (by omega) (by omega)
  have hh := held_int ys 1 (by omega) (by omega) (fun j hj => y2 j (by omega))
  refine Ev.bind hy ?_
  refine Ev.bind hh ?_
  refine ifn (by omega) ?_
  refine ifp (by rw [y1]) ?_
  refine Ev.bind ht ?_
  refine Ev.bind (impl_voclong_ev ps e (by omega) t (by omega)) ?_
  refine Ev.bind (eq_int_self _ (by omega)) ?_
  refine ifp rfl ?_
  refine Ev.step (fun k => by rw [laws_FnExactVocLong.j2]) ?_
  refine ifn (by simp) ?_
  refine Ev.bind hh ?_
  refine ifn (by omega) ?_
  exact ifp (by rw [y1]) (Ev.now _)

end Go.Proofs.Ytaacknjgfipejaa.Pure
