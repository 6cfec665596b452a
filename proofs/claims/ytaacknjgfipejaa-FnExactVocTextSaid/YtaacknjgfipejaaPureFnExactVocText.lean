/- The program's VocText returns what the reference's returns: for all arguments, without a condition. -/
import Derived.Test.YtaacknjgfipejaaPx28
import Derived.Test.YtaacknjgfipejaaH
namespace Go.Proofs.Ytaacknjgfipejaa.Pure
open Go.RowKit Go.Proofs.Ytaacknjgfipejaa.P Go.Proofs.YtaacknjgfipejaaW.PrintWords Go.Proofs.YtaacknjgfipejaaW.PrintLast Go.Proofs.Ytaacknjgfipejaa.H
set_option linter.unusedVariables false

/-! ### Are pieces ok? -/
def vocOk (ps : List ByteArray) (e : Int) : Bool := decide (1 ≤ ps.length) && decide (ps.length ≤ 40) && decide (-1 ≤ e) && decide (e < (ps.length : Int)) && ps.all (fun p => decide (p.size ≤ 6))

theorem spec_vocok_l0 (ps : List ByteArray) (e : Int) (hl : ps.length ≤ 1000000000000000) : ∀ (d i : Nat), i + d = ps.length →
    Ev (fun k => spec_VocOk.l0 k (i : Int) ps e) ((ps.drop i).all (fun p => decide (p.size ≤ 6))) := by
  intro d
  induction d with
  | zero =>
    intro i hi
    rw [List.drop_eq_nil_of_le (by omega)]
    refine Ev.step (fun k => by rw [spec_VocOk.l0]) ?_
    exact ifn (by omega) (Ev.now _)
  | succ d ih =>
    intro i hi
    have hlt : i < ps.length := by omega
    rw [List.drop_eq_getElem_cons hlt, List.all_cons]
    refine Ev.step (fun k => by rw [spec_VocOk.l0]) ?_
    refine ifp (by omega) ?_
    refine ifp (by omega) ?_
    rw [rdOf_nat _ _ _ hlt]
    by_cases hs : (ps[i].size : Int) > 6
    · refine ifp hs ?_
      rw [show decide (ps[i].size ≤ 6) = false from decide_eq_false (by omega), Bool.false_and]
      exact Ev.now _
    · refine ifn hs ?_
      rw [show decide (ps[i].size ≤ 6) = true from decide_eq_true (by omega), Bool.true_and, show wrap64 ((i : Int) + 1) = ((i + 1 : Nat) : Int) by rw [w64 (by omega) (by omega)]; omega]
      exact ih (i + 1) (by omega)

theorem spec_vocok_ev (ps : List ByteArray) (e : Int) (hl : ps.length ≤ 1000000000000000) : Ev (fun k => spec_VocOk.f k ps e) (vocOk ps e) := by
  have hj : ∀ c : Bool, Ev (fun k => spec_VocOk.j0 k c ps e) (!c && ps.all (fun p => decide (p.size ≤ 6))) := by
    intro c
    refine Ev.step (fun k => by rw [spec_VocOk.j0]) ?_
    cases c with
    | true => exact ifp rfl (Ev.now _)
    | false =>
      refine ifn (by simp) ?_
      exact spec_vocok_l0 ps e hl ps.length 0 (by omega)
  have hw : wrap64 ((ps.length : Int) - 1) = (ps.length : Int) - 1 := w64 (by omega) (by omega)
  unfold spec_VocOk.f
  by_cases h1 : (ps.length : Int) < 1
  · refine ifp h1 (Ev_eq (hj true) ?_)
    unfold vocOk
    rw [show decide (1 ≤ ps.length) = false from decide_eq_false (by omega)]
    rfl
  by_cases h2 : (ps.length : Int) > 40
  · refine ifn h1 (ifp h2 (Ev_eq (hj true) ?_))
    unfold vocOk
    rw [show decide (ps.length ≤ 40) = false from decide_eq_false (by omega), Bool.and_false]
    rfl
  refine ifn h1 (ifn h2 ?_)
  rw [hw]
  have ha : decide (1 ≤ ps.length) = true := decide_eq_true (by omega)
  have hb : decide (ps.length ≤ 40) = true := decide_eq_true (by omega)
  by_cases h3 : e ≥ -1
  · refine b0 (a := decide (e ≤ (ps.length : Int) - 1)) (by unfold spec_l6In.f; rw [if_pos h3]) (Ev_eq (hj _) ?_)
    unfold vocOk
    rw [ha, hb, show decide (-1 ≤ e) = true from decide_eq_true h3, show decide (e < (ps.length : Int)) = decide (e ≤ (ps.length : Int) - 1) from by rw [decide_eq_decide]; omega]
    simp
  · refine b0 (a := false) (by unfold spec_l6In.f; rw [if_neg h3]) (Ev_eq (hj _) ?_)
    unfold vocOk
    rw [show decide (-1 ≤ e) = false from decide_eq_false h3]
    simp

theorem impl_vocok_l0 (ps : List ByteArray) (e : Int) (hl : ps.length ≤ 1000000000000000) : ∀ (d i : Nat), i + d = ps.length →
    Ev (fun k => impl_VocOk.l0 k ps (ps.length : Int) (i : Int) ps e) ((ps.drop i).all (fun p => decide (p.size ≤ 6)) && (decide (1 ≤ ps.length) && decide (ps.length ≤ 40) && decide (-1 ≤ e) && decide (e < (ps.length : Int)))) := by
  intro d
  induction d with
  | zero =>
    intro i hi
    have hw : wrap64 ((ps.length : Int) - 1) = (ps.length : Int) - 1 := w64 (by omega) (by omega)
    rw [List.drop_eq_nil_of_le (by omega)]
    refine Ev.step (fun k => by rw [impl_VocOk.l0]) ?_
    refine ifn (by omega) ?_
    rw [hw]
    by_cases h1 : (ps.length : Int) ≥ 1
    · refine b0 (a := decide ((ps.length : Int) ≤ 40)) (by unfold impl_within.f; rw [if_pos h1]) ?_
      by_cases h2 : (ps.length : Int) ≤ 40
      · refine ifp (decide_eq_true h2) ?_
        have ha : decide (1 ≤ ps.length) = true := decide_eq_true (by omega)
        have hb : decide (ps.length ≤ 40) = true := decide_eq_true (by omega)
        by_cases h3 : e ≥ -1
        · refine b0 (a := decide (e ≤ (ps.length : Int) - 1)) (by unfold impl_within.f; rw [if_pos h3]) ?_
          refine Ev_eq (Ev.now _) ?_
          rw [ha, hb, show decide (-1 ≤ e) = true from decide_eq_true h3, show decide (e < (ps.length : Int)) = decide (e ≤ (ps.length : Int) - 1) from by rw [decide_eq_decide]; omega]
          simp
        · refine b0 (a := false) (by unfold impl_within.f; rw [if_neg h3]) ?_
          refine Ev_eq (Ev.now _) ?_
          rw [show decide (-1 ≤ e) = false from decide_eq_false h3]
          simp
      · refine ifn (by simpa using h2) ?_
        refine Ev_eq (Ev.now _) ?_
        rw [show decide (ps.length ≤ 40) = false from decide_eq_false (by omega)]
        simp
    · refine b0 (a := false) (by unfold impl_within.f; rw [if_neg h1]) ?_
      refine ifn (by simp) ?_
      refine Ev_eq (Ev.now _) ?_
      rw [show decide (1 ≤ ps.length) = false from decide_eq_false (by omega)]
      simp
  | succ d ih =>
    intro i hi
    have hlt : i < ps.length := by omega
    rw [List.drop_eq_getElem_cons hlt, List.all_cons]
    refine Ev.step (fun k => by rw [impl_VocOk.l0]) ?_
    refine ifp (by omega) ?_
    refine ifp (by omega) ?_
    refine ifp (by omega) ?_
    rw [rdOf_nat _ _ _ hlt]
    by_cases hs : (ps[i].size : Int) > 6
    · refine ifp hs ?_
      rw [show decide (ps[i].size ≤ 6) = false from decide_eq_false (by omega), Bool.false_and, Bool.false_and]
      exact Ev.now _
    · refine ifn hs ?_
      rw [show decide (ps[i].size ≤ 6) = true from decide_eq_true (by omega), Bool.true_and, show wrap64 ((i : Int) + 1) = ((i + 1 : Nat) : Int) by rw [w64 (by omega) (by omega)]; omega]
      exact ih (i + 1) (by omega)

theorem impl_vocok_ev (ps : List ByteArray) (e : Int) (hl : ps.length ≤ 1000000000000000) : Ev (fun k => impl_VocOk.f k ps e) (vocOk ps e) := by
  unfold impl_VocOk.f
  refine Ev_eq (impl_vocok_l0 ps e hl ps.length 0 (by omega)) ?_
  rw [List.drop_zero, Bool.and_comm]
  rfl

theorem vocOk_parts {ps : List ByteArray} {e : Int} (h : vocOk ps e = true) : 1 ≤ ps.length ∧ ps.length ≤ 40 ∧ -1 ≤ e ∧ e < (ps.length : Int) ∧ ∀ p ∈ ps, p.size ≤ 6 := by
  unfold vocOk at h
  simp only [Bool.and_eq_true, decide_eq_true_eq, List.all_eq_true] at h
  obtain ⟨⟨⟨⟨h1, h2⟩, h3⟩, h4⟩, h5⟩ := h
  exact ⟨h1, h2, h3, h4, h5⟩

/-! ### The text of pieces -/
def textGo (ps : List ByteArray) (e : Int) : List Int → ByteArray → Option ByteArray
  | [], acc => some acc
  | i :: r, acc => if 0 ≤ i ∧ i < (ps.length : Int) then (if i = e then textGo ps e r acc else textGo ps e r (acc ++ rdOf ByteArray.empty ps i)) else none

def textEnd : Option ByteArray → ByteArray × Bool
  | some s => (s, true)
  | none => (⟨#[]⟩, false)

def vocText (ps : List ByteArray) (e : Int) (ids : List Int) : ByteArray × Bool :=
  if vocOk ps e = true ∧ ids.length ≤ 60 then textEnd (textGo ps e ids ⟨#[]⟩) else (⟨#[]⟩, false)

theorem spec_voctext_l0 (ps : List ByteArray) (e : Int) (hv : vocOk ps e = true) (ids : List Int) (hids : ids.length ≤ 60) : ∀ (d i : Nat) (acc : ByteArray), i + d = ids.length → acc.size ≤ 6 * i →
    Ev (fun k => spec_VocText.l0 k ids acc (i : Int) ps e) (textEnd (textGo ps e (ids.drop i) acc)) := by
  obtain ⟨g1, g2, g3, g4, g5⟩ := vocOk_parts hv
  have hw : wrap64 ((ps.length : Int) - 1) = (ps.length : Int) - 1 := w64 (by omega) (by omega)
  intro d
  induction d with
  | zero =>
    intro i acc hi ha
    rw [List.drop_eq_nil_of_le (by omega)]
    refine Ev.step (fun k => by rw [spec_VocText.l0]) ?_
    exact ifn (by omega) (Ev.now _)
  | succ d ih =>
    intro i acc hi ha
    have hlt : i < ids.length := by omega
    have hi1 : wrap64 ((i : Int) + 1) = ((i + 1 : Nat) : Int) := by rw [w64 (by omega) (by omega)]; omega
    rw [List.drop_eq_getElem_cons hlt, textGo]
    refine Ev.step (fun k => by rw [spec_VocText.l0]) ?_
    refine ifp (by omega) ?_
    refine ifp (by omega) ?_
    rw [rd_nat _ _ hlt, hw, hi1]
    obtain ⟨x, hx⟩ : ∃ x, x = ids[i] := ⟨_, rfl⟩
    rw [← hx]
    by_cases c1 : 0 ≤ x
    · refine b0 (a := decide (x ≤ (ps.length : Int) - 1)) (by unfold spec_l6In.f; rw [if_pos c1]) ?_
      by_cases c2 : x < (ps.length : Int)
      · refine ifp (decide_eq_true (by omega)) ?_
        rw [if_pos ⟨c1, c2⟩]
        by_cases c3 : x = e
        · refine ifp c3 ?_
          rw [if_pos c3]
          exact ih (i + 1) acc (by omega) (by omega)
        · have hm := g5 _ (rdOf_mem ByteArray.empty ps x c1 c2)
          refine ifn c3 ?_
          rw [if_neg c3]
          refine ifp c1 (ifp c2 (ifp (by omega) ?_))
          exact ih (i + 1) _ (by omega) (by rw [ByteArray.size_append]; omega)
      · refine ifn (by simp; omega) ?_
        rw [if_neg (by omega)]
        exact Ev.now _
    · refine b0 (a := false) (by unfold spec_l6In.f; rw [if_neg c1]) ?_
      refine ifn (by simp) ?_
      rw [if_neg (by omega)]
      exact Ev.now _

theorem spec_voctext_ev (ps : List ByteArray) (e : Int) (hl : ps.length ≤ 1000000000000000) (ids : List Int) : Ev (fun k => spec_VocText.f k ps e ids) (vocText ps e ids) := by
  have hj : ∀ c : Bool, (c = false → vocOk ps e = true ∧ ids.length ≤ 60) → (c = true → ¬ (vocOk ps e = true ∧ ids.length ≤ 60)) → Ev (fun k => spec_VocText.j0 k ids c ps e) (vocText ps e ids) := by
    intro c h1 h2
    refine Ev.step (fun k => by rw [spec_VocText.j0]) ?_
    unfold vocText
    cases c with
    | true => rw [if_neg (h2 rfl)]; exact ifp rfl (Ev.now _)
    | false =>
      rw [if_pos (h1 rfl)]
      refine ifn (by simp) ?_
      exact spec_voctext_l0 ps e (h1 rfl).1 ids (h1 rfl).2 ids.length 0 _ (by omega) (by simp [ByteArray.size])
  unfold spec_VocText.f
  refine Ev.bind (spec_vocok_ev ps e hl) ?_
  by_cases hv : vocOk ps e = true
  · refine ifp hv ?_
    refine hj _ (fun h => ⟨hv, ?_⟩) (fun h hh => ?_)
    · have := of_decide_eq_false h; omega
    · have := of_decide_eq_true h; omega
  · refine ifn hv ?_
    exact hj _ (fun h => by cases h) (fun _ h => hv h.1)

theorem impl_voctext_l0 (ps : List ByteArray) (e : Int) (hv : vocOk ps e = true) (ids : List Int) (hids : ids.length ≤ 60) : ∀ (d i : Nat) (acc : ByteArray), i + d = ids.length → acc.size ≤ 6 * i →
    Ev (fun k => impl_VocText.l0 k acc ids (ids.length : Int) (i : Int) ps e) (textEnd (textGo ps e (ids.drop i) acc)) := by
  obtain ⟨g1, g2, g3, g4, g5⟩ := vocOk_parts hv
  have hw : wrap64 ((ps.length : Int) - 1) = (ps.length : Int) - 1 := w64 (by omega) (by omega)
  intro d
  induction d with
  | zero =>
    intro i acc hi ha
    rw [List.drop_eq_nil_of_le (by omega)]
    refine Ev.step (fun k => by rw [impl_VocText.l0]) ?_
    exact ifn (by omega) (Ev.now _)
  | succ d ih =>
    intro i acc hi ha
    have hlt : i < ids.length := by omega
    have hi1 : wrap64 ((i : Int) + 1) = ((i + 1 : Nat) : Int) := by rw [w64 (by omega) (by omega)]; omega
    rw [List.drop_eq_getElem_cons hlt, textGo]
    refine Ev.step (fun k => by rw [impl_VocText.l0]) ?_
    refine ifp (by omega) ?_
    refine ifp (by omega) ?_
    refine ifp (by omega) ?_
    rw [rd_nat _ _ hlt, hw, hi1]
    obtain ⟨x, hx⟩ : ∃ x, x = ids[i] := ⟨_, rfl⟩
    rw [← hx]
    by_cases c1 : 0 ≤ x
    · refine b0 (a := decide (x ≤ (ps.length : Int) - 1)) (by unfold impl_within.f; rw [if_pos c1]) ?_
      by_cases c2 : x < (ps.length : Int)
      · refine ifp (decide_eq_true (by omega)) ?_
        rw [if_pos ⟨c1, c2⟩]
        by_cases c3 : x = e
        · refine ifp c3 ?_
          rw [if_pos c3]
          exact ih (i + 1) acc (by omega) (by omega)
        · have hm := g5 _ (rdOf_mem ByteArray.empty ps x c1 c2)
          refine ifn c3 ?_
          rw [if_neg c3]
          refine ifp c1 (ifp c2 (ifp (by omega) ?_))
          exact ih (i + 1) _ (by omega) (by rw [ByteArray.size_append]; omega)
      · refine ifn (by simp; omega) ?_
        rw [if_neg (by omega)]
        exact Ev.now _
    · refine b0 (a := false) (by unfold impl_within.f; rw [if_neg c1]) ?_
      refine ifn (by simp) ?_
      rw [if_neg (by omega)]
      exact Ev.now _

theorem impl_voctext_ev (ps : List ByteArray) (e : Int) (hl : ps.length ≤ 1000000000000000) (ids : List Int) : Ev (fun k => impl_VocText.f k ps e ids) (vocText ps e ids) := by
  have hj : ∀ c : Bool, (c = false → vocOk ps e = true ∧ ids.length ≤ 60) → (c = true → ¬ (vocOk ps e = true ∧ ids.length ≤ 60)) → Ev (fun k => impl_VocText.j0 k ids c ps e) (vocText ps e ids) := by
    intro c h1 h2
    refine Ev.step (fun k => by rw [impl_VocText.j0]) ?_
    unfold vocText
    cases c with
    | true => rw [if_neg (h2 rfl)]; exact ifp rfl (Ev.now _)
    | false =>
      rw [if_pos (h1 rfl)]
      refine ifn (by simp) ?_
      exact impl_voctext_l0 ps e (h1 rfl).1 ids (h1 rfl).2 ids.length 0 _ (by omega) (by simp [ByteArray.size])
  unfold impl_VocText.f
  refine Ev.bind (impl_vocok_ev ps e hl) ?_
  by_cases hv : vocOk ps e = true
  · refine ifp hv ?_
    refine hj _ (fun h => ⟨hv, ?_⟩) (fun h hh => ?_)
    · have := of_decide_eq_false h; omega
    · have := of_decide_eq_true h; omega
  · refine ifn hv ?_
    exact hj _ (fun h => by cases h) (fun _ h => hv h.1)

/-! ### Pieces that came in: measured, copied, compared -/
theorem sz_str_l0 (ps : List ByteArray) (hs : ∀ x ∈ ps, x.size ≤ 9223372036854775807) : ∀ (d i : Nat) (left : Int), i + d = ps.length → ps.length ≤ 2000000 → 0 ≤ left → left ≤ 1048576 →
    ∃ r, Ev (fun k => laws_szStringS.l0 k ps left (i : Int)) r ∧ (r = -1 ∨ (0 ≤ r ∧ r ≤ left ∧ ∀ x ∈ ps.drop i, (x.size : Int) ≤ left)) := by
  intro d
  induction d with
  | zero =>
    intro i left hi hl h0 h1
    refine ⟨left, ?_, Or.inr ⟨h0, Int.le_refl _, ?_⟩⟩
    · refine Ev.step (fun k => by rw [laws_szStringS.l0]) ?_
      exact ifn (by omega) (Ev.now _)
    · rw [List.drop_eq_nil_of_le (by omega)]
      simp
  | succ d ih =>
    intro i left hi hl h0 h1
    have hlt : i < ps.length := by omega
    have hsz := hs _ (List.getElem_mem hlt)
    have hw : wrap64 (left - ((ps[i].size : Nat) : Int)) = left - (ps[i].size : Int) := w64 (by omega) (by omega)
    by_cases hc : left - (ps[i].size : Int) < 0
    · refine ⟨-1, ?_, Or.inl rfl⟩
      refine Ev.step (fun k => by rw [laws_szStringS.l0]) ?_
      refine ifp (by omega) (ifp (by omega) ?_)
      rw [rdOf_nat _ _ _ hlt, hw]
      exact ifp hc (Ev.now _)
    · obtain ⟨r, hr, hr2⟩ := ih (i + 1) (left - (ps[i].size : Int)) (by omega) hl (by omega) (by omega)
      refine ⟨r, ?_, ?_⟩
      · refine Ev.step (fun k => by rw [laws_szStringS.l0]) ?_
        refine ifp (by omega) (ifp (by omega) ?_)
        rw [rdOf_nat _ _ _ hlt, hw, show wrap64 ((i : Int) + 1) = ((i + 1 : Nat) : Int) by rw [w64 (by omega) (by omega)]; omega]
        exact ifn hc hr
      · rcases hr2 with h | ⟨g1, g2, g3⟩
        · exact Or.inl h
        · refine Or.inr ⟨g1, by omega, fun x hx => ?_⟩
          rw [List.drop_eq_getElem_cons hlt] at hx
          rcases List.mem_cons.1 hx with rfl | hx
          · omega
          · have := g3 x hx
            omega

theorem sz_voc (ps : List ByteArray) (e : Int) (hl : ps.length ≤ 9223372036854775807) (hs : ∀ x ∈ ps, x.size ≤ 9223372036854775807) :
    ∃ r, Ev (fun k => laws_szVoc.f k ps e 1048576) r ∧ (r < 0 ∨ (¬ r < 0 ∧ ps.length ≤ 1048576 ∧ ∀ x ∈ ps, x.size ≤ 1048576)) := by
  have hw : wrap64 (1048576 - (ps.length : Int)) = 1048576 - (ps.length : Int) := w64 (by omega) (by omega)
  have key : ∃ r, Ev (fun k => laws_szStringS.f k ps 1048576) r ∧ (r = -1 ∨ (0 ≤ r ∧ ps.length ≤ 1048576 ∧ ∀ x ∈ ps, x.size ≤ 1048576)) := by
    unfold laws_szStringS.f
    rw [hw]
    by_cases hc : 1048576 - (ps.length : Int) < 0
    · exact ⟨-1, ifp hc (Ev.now _), Or.inl rfl⟩
    · obtain ⟨r, hr, hr2⟩ := sz_str_l0 ps hs ps.length 0 (1048576 - (ps.length : Int)) (by omega) (by omega) (by omega) (by omega)
      refine ⟨r, ifn hc hr, ?_⟩
      rcases hr2 with h | ⟨g1, g2, g3⟩
      · exact Or.inl h
      · refine Or.inr ⟨g1, by omega, fun x hx => ?_⟩
        have := g3 x (by simpa using hx)
        omega
  obtain ⟨r, hr, hr2⟩ := key
  rcases hr2 with h | ⟨g1, g2, g3⟩
  · refine ⟨-1, ?_, Or.inl (by omega)⟩
    unfold laws_szVoc.f
    refine Ev.bind hr ?_
    exact ifp (by omega) (Ev.now _)
  · refine ⟨r, ?_, Or.inr ⟨by omega, g2, g3⟩⟩
    unfold laws_szVoc.f
    refine Ev.bind hr ?_
    exact ifn (by omega) (Ev.now _)

theorem to_str_l0 (ps : List ByteArray) (hl : ps.length ≤ 1048576) : ∀ (d i : Nat) (ys : List ByteArray), i + d = ps.length → ys.length = ps.length → (∀ j, j < i → ys[j]? = ps[j]?) →
    Ev (fun k => laws_toStringS.l0 k ps ys (i : Int)) ps := by
  intro d
  induction d with
  | zero =>
    intro i ys hi hy hj
    refine Ev.step (fun k => by rw [laws_toStringS.l0]) ?_
    refine ifn (by omega) (Ev_eq (Ev.now _) ?_)
    apply List.ext_getElem?
    intro j
    by_cases h : j < i
    · exact hj j h
    · rw [List.getElem?_eq_none (by omega), List.getElem?_eq_none (by omega)]
  | succ d ih =>
    intro i ys hi hy hj
    have hlt : i < ps.length := by omega
    refine Ev.step (fun k => by rw [laws_toStringS.l0]) ?_
    refine ifp (by omega) (ifp (by omega) (ifp (by omega) ?_))
    rw [rdOf_nat _ _ _ hlt, show wrap64 ((i : Int) + 1) = ((i + 1 : Nat) : Int) by rw [w64 (by omega) (by omega)]; omega, Int.toNat_natCast]
    refine ih (i + 1) _ (by omega) (by simp [hy]) (fun j hji => ?_)
    by_cases e : j = i
    · subst e
      rw [List.getElem?_set_self (by omega), List.getElem?_eq_getElem hlt]
    · rw [List.getElem?_set_ne (by omega)]
      exact hj j (by omega)

theorem to_voc (ps : List ByteArray) (e : Int) (hl : ps.length ≤ 1048576) : Ev (fun k => laws_toVoc.f k ps e) (ps, e) := by
  unfold laws_toVoc.f laws_toStringS.f
  refine Ev.bind (a := ps) ?_ (Ev.now _)
  refine ifp (by omega) (ifp (by omega) ?_)
  exact to_str_l0 ps hl ps.length 0 _ (by omega) (by simp) (fun j hj => by omega)

theorem eq_str_l0 (a b : List ByteArray) (ha : a.length ≤ 1000000000000000) (hab : a.length = b.length) : ∀ (d i : Nat), i + d = a.length → Ev (fun k => laws_eqStringS.l0 k a b (i : Int)) (decide (a.drop i = b.drop i)) := by
  intro d
  induction d with
  | zero =>
    intro i hi
    rw [List.drop_eq_nil_of_le (by omega), List.drop_eq_nil_of_le (by omega)]
    refine Ev.step (fun k => by rw [laws_eqStringS.l0]) ?_
    exact ifn (by omega) (Ev_eq (Ev.now _) (by simp))
  | succ d ih =>
    intro i hi
    have h1 : i < a.length := by omega
    have h2 : i < b.length := by omega
    rw [List.drop_eq_getElem_cons h1, List.drop_eq_getElem_cons h2]
    refine Ev.step (fun k => by rw [laws_eqStringS.l0]) ?_
    refine ifp (by omega) (ifp (by omega) (ifp (by omega) ?_))
    rw [rdOf_nat _ _ _ h1, rdOf_nat _ _ _ h2, show wrap64 ((i : Int) + 1) = ((i + 1 : Nat) : Int) by rw [w64 (by omega) (by omega)]; omega]
    by_cases hc : a[i] = b[i]
    · refine ifp (by rw [hc]) ?_
      exact Ev_eq (ih (i + 1) (by omega)) (dec_cons hc)
    · refine ifn (fun h => hc (toList_inj.1 h)) ?_
      exact Ev_eq (Ev.now _) (dec_ne hc)

theorem eq_voc (a b : List ByteArray) (e f : Int) (ha : a.length ≤ 1000000000000000) : Ev (fun k => laws_eqVoc.f k a e b f) (decide (a = b) && decide (e = f)) := by
  have hs : Ev (fun k => laws_eqStringS.f k a b) (decide (a = b)) := by
    unfold laws_eqStringS.f
    by_cases h : (a.length : Int) = (b.length : Int)
    · refine ifp h ?_
      have := eq_str_l0 a b ha (by omega) a.length 0 (by omega)
      simpa using this
    · refine ifn h ?_
      refine Ev_eq (Ev.now _) (decide_eq_false ?_).symm
      intro e
      exact h (by rw [e])
  unfold laws_eqVoc.f
  refine Ev.bind hs ?_
  by_cases h : a = b
  · refine ifp (decide_eq_true h) ?_
    by_cases h2 : e = f
    · exact ifp h2 (Ev_eq (Ev.now _) (by simp [h, h2]))
    · exact ifn h2 (Ev_eq (Ev.now _) (by simp [h2]))
  · exact ifn (by simpa using h) (Ev_eq (Ev.now _) (by simp [h]))

theorem eq_voc_self (a : List ByteArray) (e : Int) (ha : a.length ≤ 1000000000000000) : Ev (fun k => laws_eqVoc.f k a e a e) true := Ev_eq (eq_voc a a e e ha) (by simp)

/-! ### Numbers that came in: copied, compared -/
theorem to_int_l0 (ps : List Int) (hl : ps.length ≤ 1048576) : ∀ (d i : Nat) (ys : List Int), i + d = ps.length → ys.length = ps.length → (∀ j, j < i → ys[j]? = ps[j]?) →
    Ev (fun k => laws_toIntS.l0 k ps ys (i : Int)) ps := by
  intro d
  induction d with
  | zero =>
    intro i ys hi hy hj
    refine Ev.step (fun k => by rw [laws_toIntS.l0]) ?_
    refine ifn (by omega) (Ev_eq (Ev.now _) ?_)
    apply List.ext_getElem?
    intro j
    by_cases h : j < i
    · exact hj j h
    · rw [List.getElem?_eq_none (by omega), List.getElem?_eq_none (by omega)]
  | succ d ih =>
    intro i ys hi hy hj
    have hlt : i < ps.length := by omega
    refine Ev.step (fun k => by rw [laws_toIntS.l0]) ?_
    refine ifp (by omega) (ifp (by omega) (ifp (by omega) ?_))
    rw [rd_nat _ _ hlt, show wrap64 ((i : Int) + 1) = ((i + 1 : Nat) : Int) by rw [w64 (by omega) (by omega)]; omega, Int.toNat_natCast]
    refine ih (i + 1) _ (by omega) (by simp [hy]) (fun j hji => ?_)
    by_cases e : j = i
    · subst e
      rw [List.getElem?_set_self (by omega), List.getElem?_eq_getElem hlt]
    · rw [List.getElem?_set_ne (by omega)]
      exact hj j (by omega)

theorem to_int (ps : List Int) (hl : ps.length ≤ 1048576) : Ev (fun k => laws_toIntS.f k ps) ps := by
  unfold laws_toIntS.f
  refine ifp (by omega) (ifp (by omega) ?_)
  exact to_int_l0 ps hl ps.length 0 _ (by omega) (by simp) (fun j hj => by omega)

theorem eq_int_l0 (a b : List Int) (ha : a.length ≤ 1000000000000000) (hab : a.length = b.length) : ∀ (d i : Nat), i + d = a.length → Ev (fun k => laws_eqIntS.l0 k a b (i : Int)) (decide (a.drop i = b.drop i)) := by
  intro d
  induction d with
  | zero =>
    intro i hi
    rw [List.drop_eq_nil_of_le (by omega), List.drop_eq_nil_of_le (by omega)]
    refine Ev.step (fun k => by rw [laws_eqIntS.l0]) ?_
    exact ifn (by omega) (Ev_eq (Ev.now _) (by simp))
  | succ d ih =>
    intro i hi
    have h1 : i < a.length := by omega
    have h2 : i < b.length := by omega
    rw [List.drop_eq_getElem_cons h1, List.drop_eq_getElem_cons h2]
    refine Ev.step (fun k => by rw [laws_eqIntS.l0]) ?_
    refine ifp (by omega) (ifp (by omega) (ifp (by omega) ?_))
    rw [rd_nat _ _ h1, rd_nat _ _ h2, show wrap64 ((i : Int) + 1) = ((i + 1 : Nat) : Int) by rw [w64 (by omega) (by omega)]; omega]
    by_cases hc : a[i] = b[i]
    · refine ifp hc ?_
      exact Ev_eq (ih (i + 1) (by omega)) (dec_cons hc)
    · refine ifn hc ?_
      exact Ev_eq (Ev.now _) (dec_ne hc)

theorem eq_int (a b : List Int) (ha : a.length ≤ 1000000000000000) : Ev (fun k => laws_eqIntS.f k a b) (decide (a = b)) := by
  unfold laws_eqIntS.f
  by_cases h : (a.length : Int) = (b.length : Int)
  · refine ifp h ?_
    have := eq_int_l0 a b ha (by omega) a.length 0 (by omega)
    simpa using this
  · refine ifn h ?_
    refine Ev_eq (Ev.now _) (decide_eq_false ?_).symm
    intro e
    exact h (by rw [e])

theorem eq_int_self (a : List Int) (ha : a.length ≤ 1000000000000000) : Ev (fun k => laws_eqIntS.f k a a) true := Ev_eq (eq_int a a ha) (by simp)

theorem FnExactVocText (ps : List ByteArray) (e : Int) (ids : List Int) (h0 : (ps.length ≤ maxLen ∧ ∀ x ∈ ps, x.size ≤ maxLen) ∧ (Lit.int .i64 e).wf = true) (h1 : ids.length ≤ maxLen ∧ ∀ y ∈ ids, (Lit.int .i64 y).wf = true) : ∃ k, laws_FnExactVocText.f k ps e ids = some true := by
  refine Ev.rounds (g := fun k => laws_FnExactVocText.f k ps e ids) ?_
  obtain ⟨r, hr, hr2⟩ := sz_voc ps e h0.1.1 h0.1.2
  unfold laws_FnExactVocText.f
  by_cases hlong : (ids.length : Int) > 1048576
  · exact ifp hlong (Ev.now _)
  refine ifn hlong ?_
  refine Ev.bind hr ?_
  rcases hr2 with h | ⟨h, g1, g2⟩
  · exact ifp h (Ev.now _)
  refine ifn h ?_
  have ht := to_voc ps e g1
  have hn := to_int ids (by omega)
  refine Ev.bind ht ?_
  refine Ev.bind hn ?_
  refine Ev.bind (spec_voctext_ev ps e (by omega) ids) ?_
  refine Ev.bind ht ?_
  refine Ev.bind hn ?_
  refine Ev.bind (impl_voctext_ev ps e (by omega) ids) ?_
  refine ifp rfl ?_
  refine Ev.step (fun k => by rw [laws_FnExactVocText.j0]) ?_
  refine ifn (by simp) ?_
  refine Ev.bind ht ?_
  refine Ev.bind (eq_voc_self ps e (by omega)) ?_
  refine ifp rfl ?_
  refine Ev.bind hn ?_
  refine Ev.bind (eq_int_self ids (by omega)) ?_
  exact ifp rfl (Ev.now _)

end Go.Proofs.Ytaacknjgfipejaa.Pure
