/- The program's VocOk returns what the reference's returns: for all arguments, without a condition. -/
import Derived.Test.YtaacknjgfipejaaPx26
import Derived.Test.YtaacknjgfipejaaH
namespace Go.Proofs.Ytaacknjgfipejaa.Pure
open Go.RowKit Go.Proofs.Ytaacknjgfipejaa.P Go.Proofs.YtaacknjgfipejaaW.PrintWords Go.Proofs.YtaacknjgfipejaaW.PrintLast Go.Proofs.Ytaacknjgfipejaa.H
set_option linter.unusedVariables false

/-! ### Are pieces ok? -/
def vocOk (ps : List ByteArray) (e : Int) : Bool := decide (1 ≤ ps.length) && decide (ps.length ≤ 40) && decide (-1 ≤ e) && decide (e < (ps.length : Int)) && ps.all (fun p => decide (p.size ≤ 6))

theorem spec_vocok_l0 (ps : List ByteArray) (e : Int) (hl : ps.length ≤ 1000000000000000) : ∀ (d i : Nat), i + d = ps.length →
    Ev (fun k => spec_VocOk.l0 k (i : Int) ps e) ((ps.drop i).all (fun p => decide (p.size ≤ 6))) := by
  intro d
  induction d with
  | zero =>
    intro i hi
    rw [List.drop_eq_nil_of_le (by omega)]
    refine Ev.step (fun k => by rw [spec_VocOk.l0]) ?_
    exact ifn (by omega) (Ev.now _)
  | succ d ih =>
    intro i hi
    have hlt : i < ps.length := by omega
    rw [List.drop_eq_getElem_cons hlt, List.all_cons]
    refine Ev.step (fun k => by rw [spec_VocOk.l0]) ?_
    refine ifp (by omega) ?_
    refine ifp (by omega) ?_
    rw [rdOf_nat _ _ _ hlt]
    by_cases hs : (ps[i].size : Int) > 6
    · refine ifp hs ?_
      rw [show decide (ps[i].size ≤ 6) = false from decide_eq_false (by omega), Bool.false_and]
      exact Ev.now _
    · refine ifn hs ?_
      rw [show decide (ps[i].size ≤ 6) = true from decide_eq_true (by omega), Bool.true_and, show wrap64 ((i : Int) + 1) = ((i + 1 : Nat) : Int) by rw [w64 (by omega) (by omega)]; omega]
      exact ih (i + 1) (by omega)

theorem spec_vocok_ev (ps : List ByteArray) (e : Int) (hl : ps.length ≤ 1000000000000000) : Ev (fun k => spec_VocOk.f k ps e) (vocOk ps e) := by
  have hj : ∀ c : Bool, Ev (fun k => spec_VocOk.j0 k c ps e) (!c && ps.all (fun p => decide (p.size ≤ 6))) := by
    intro c
    refine Ev.step (fun k => by rw [spec_VocOk.j0]) ?_
    cases c with
    | true => exact ifp rfl (Ev.now _)
    | false =>
      refine ifn (by simp) ?_
      exact spec_vocok_l0 ps e hl ps.length 0 (by omega)
  have hw : wrap64 ((ps.length : Int) - 1) = (ps.length : Int) - 1 := w64 (by omega) (by omega)
  unfold spec_VocOk.f
  by_cases h1 : (ps.length : Int) < 1
  · refine ifp h1 (Ev_eq (hj true) ?_)
    unfold vocOk
    rw [show decide (1 ≤ ps.length) = false from decide_eq_false (by omega)]
    rfl
  by_cases h2 : (ps.length : Int) > 40
  · refine ifn h1 (ifp h2 (Ev_eq (hj true) ?_))
    unfold vocOk
    rw [show decide (ps.length ≤ 40) = false from decide_eq_false (by omega), Bool.and_false]
    rfl
  refine ifn h1 (ifn h2 ?_)
  rw [hw]
  have ha : decide (1 ≤ ps.length) = true := decide_eq_true (by omega)
  have hb : decide (ps.length ≤ 40) = true := decide_eq_true (by omega)
  by_cases h3 : e ≥ -1
  · refine b0 (a := decide (e ≤ (ps.length : Int) - 1)) (by unfold spec_l6In.f; rw [if_pos h3]) (Ev_eq (hj _) ?_)
    unfold vocOk
    rw [ha, hb, show decide (-1 ≤ e) = true from decide_eq_true h3, show decide (e < (ps.length : Int)) = decide (e ≤ (ps.length : Int) - 1) from by rw [decide_eq_decide]; omega]
    simp
  · refine b0 (a := false) (by unfold spec_l6In.f; rw [if_neg h3]) (Ev_eq (hj _) ?_)
    unfold vocOk
    rw [show decide (-1 ≤ e) = false from decide_eq_false h3]
    simp

theorem impl_vocok_l0 (ps : List ByteArray) (e : Int) (hl : ps.length ≤ 1000000000000000) : ∀ (d i : Nat), i + d = ps.length →
    Ev (fun k => impl_VocOk.l0 k ps (ps.length : Int) (i : Int) ps e) ((ps.drop i).all (fun p => decide (p.size ≤ 6)) && (decide (1 ≤ ps.length) && decide (ps.length ≤ 40) && decide (-1 ≤ e) && decide (e < (ps.length : Int)))) := by
  intro d
  induction d with
  | zero =>
    intro i hi
    have hw : wrap64 ((ps.length : Int) - 1) = (ps.length : Int) - 1 := w64 (by omega) (by omega)
    rw [List.drop_eq_nil_of_le (by omega)]
    refine Ev.step (fun k => by rw [impl_VocOk.l0]) ?_
    refine ifn (by omega) ?_
    rw [hw]
    by_cases h1 : (ps.length : Int) ≥ 1
    · refine b0 (a := decide ((ps.length : Int) ≤ 40)) (by unfold impl_within.f; rw [if_pos h1]) ?_
      by_cases h2 : (ps.length : Int) ≤ 40
      · refine ifp (decide_eq_true h2) ?_
        have ha : decide (1 ≤ ps.length) = true := decide_eq_true (by omega)
        have hb : decide (ps.length ≤ 40) = true := decide_eq_true (by omega)
        by_cases h3 : e ≥ -1
        · refine b0 (a := decide (e ≤ (ps.length : Int) - 1)) (by unfold impl_within.f; rw [if_pos h3]) ?_
          refine Ev_eq (Ev.now _) ?_
          rw [ha, hb, show decide (-1 ≤ e) = true from decide_eq_true h3, show decide (e < (ps.length : Int)) = decide (e ≤ (ps.length : Int) - 1) from by rw [decide_eq_decide]; omega]
          simp
        · refine b0 (a := false) (by unfold impl_within.f; rw [if_neg h3]) ?_
          refine Ev_eq (Ev.now _) ?_
          rw [show decide (-1 ≤ e) = false from decide_eq_false h3]
          simp
      · refine ifn (by simpa using h2) ?_
        refine Ev_eq (Ev.now _) ?_
        rw [show decide (ps.length ≤ 40) = false from decide_eq_false (by omega)]
        simp
    · refine b0 (a := false) (by unfold impl_within.f; rw [if_neg h1]) ?_
      refine ifn (by simp) ?_
      refine Ev_eq (Ev.now _) ?_
      rw [show decide (1 ≤ ps.length) = false from decide_eq_false (by omega)]
      simp
  | succ d ih =>
    intro i hi
    have hlt : i < ps.length := by omega
    rw [List.drop_eq_getElem_cons hlt, List.all_cons]
    refine Ev.step (fun k => by rw [impl_VocOk.l0]) ?_
    refine ifp (by omega) ?_
    refine ifp (by omega) ?_
    refine ifp (by omega) ?_
    rw [rdOf_nat _ _ _ hlt]
    by_cases hs : (ps[i].size : Int) > 6
    · refine ifp hs ?_
      rw [show decide (ps[i].size ≤ 6) = false from decide_eq_false (by omega), Bool.false_and, Bool.false_and]
      exact Ev.now _
    · refine ifn hs ?_
      rw [show decide (ps[i].size ≤ 6) = true from decide_eq_true (by omega), Bool.true_and, show wrap64 ((i : Int) + 1) = ((i + 1 : Nat) : Int) by rw [w64 (by omega) (by omega)]; omega]
      exact ih (i + 1) (by omega)

theorem impl_vocok_ev (ps : List ByteArray) (e : Int) (hl : ps.length ≤ 1000000000000000) : Ev (fun k => impl_VocOk.f k ps e) (vocOk ps e) := by
  unfold impl_VocOk.f
  refine Ev_eq (impl_vocok_l0 ps e hl ps.length 0 (by omega)) ?_
  rw [List.drop_zero, Bool.and_comm]
  rfl

theorem vocOk_parts {ps : List ByteArray} {e : Int} (h : vocOk ps e = true) : 1 ≤ ps.length ∧ ps.length ≤ 40 ∧ -1 ≤ e ∧ e < (ps.length : Int) ∧ ∀ p ∈ ps, p.size ≤ 6 := by
  unfold vocOk at h
  simp only [Bool.and_eq_true, decide_eq_true_eq, List.all_eq_true] at h
  obtain ⟨⟨⟨⟨h1, h2⟩, h3⟩, h4⟩, h5⟩ := h
  exact ⟨h1, h2, h3, h4, h5⟩

/-! ### Pieces that came in: measured, copied, compared -/
theorem sz_str_l0 (ps : List ByteArray) (hs : ∀ x ∈ ps, x.size ≤ 9223372036854775807) : ∀ (d i : Nat) (left : Int), i + d = ps.length → ps.length ≤ 2000000 → 0 ≤ left → left ≤ 1048576 →
    ∃ r, Ev (fun k => laws_szStringS.l0 k ps left (i : Int)) r ∧ (r = -1 ∨ (0 ≤ r ∧ r ≤ left ∧ ∀ x ∈ ps.drop i, (x.size : Int) ≤ left)) := by
  intro d
  induction d with
  | zero =>
    intro i left hi hl h0 h1
    refine ⟨left, ?_, Or.inr ⟨h0, Int.le_refl _, ?_⟩⟩
    · refine Ev.step (fun k => by rw [laws_szStringS.l0]) ?_
      exact ifn (by omega) (Ev.now _)
    · rw [List.drop_eq_nil_of_le (by omega)]
      simp
  | succ d ih =>
    intro i left hi hl h0 h1
    have hlt : i < ps.length := by omega
    have hsz := hs _ (List.getElem_mem hlt)
    have hw : wrap64 (left - ((ps[i].size : Nat) : Int)) = left - (ps[i].size : Int) := w64 (by omega) (by omega)
    by_cases hc : left - (ps[i].size : Int) < 0
    · refine ⟨-1, ?_, Or.inl rfl⟩
      refine Ev.step (fun k => by rw [laws_szStringS.l0]) ?_
      refine ifp (by omega) (ifp (by omega) ?_)
      rw [rdOf_nat _ _ _ hlt, hw]
      exact ifp hc (Ev.now _)
    · obtain ⟨r, hr, hr2⟩ := ih (i + 1) (left - (ps[i].size : Int)) (by omega) hl (by omega) (by omega)
      refine ⟨r, ?_, ?_⟩
      · refine Ev.step (fun k => by rw [laws_szStringS.l0]) ?_
        refine ifp (by omega) (ifp (by omega) ?_)
        rw [rdOf_nat _ _ _ hlt, hw, show wrap64 ((i : Int) + 1) = ((i + 1 : Nat) : Int) by rw [w64 (by omega) (by omega)]; omega]
        exact ifn hc hr
      · rcases hr2 with h | ⟨g1, g2, g3⟩
        · exact Or.inl h
        · refine Or.inr ⟨g1, by omega, fun x hx => ?_⟩
          rw [List.drop_eq_getElem_cons hlt] at hx
          rcases List.mem_cons.1 hx with rfl | hx
          · omega
          · have := g3 x hx
            omega

theorem sz_voc (ps : List ByteArray) (e : Int) (hl : ps.length ≤ 9223372036854775807) (hs : ∀ x ∈ ps, x.size ≤ 9223372036854775807) :
    ∃ r, Ev (fun k => laws_szVoc.f k ps e 1048576) r ∧ (r < 0 ∨ (¬ r < 0 ∧ ps.length ≤ 1048576 ∧ ∀ x ∈ ps, x.size ≤ 1048576)) := by
  have hw : wrap64 (1048576 - (ps.length : Int)) = 1048576 - (ps.length : Int) := w64 (by omega) (by omega)
  have key : ∃ r, Ev (fun k => laws_szStringS.f k ps 1048576) r ∧ (r = -1 ∨ (0 ≤ r ∧ ps.length ≤ 1048576 ∧ ∀ x ∈ ps, x.size ≤ 1048576)) := by
    unfold laws_szStringS.f
    rw [hw]
    by_cases hc : 1048576 - (ps.length : Int) < 0
    · exact ⟨-1, ifp hc (Ev.now _), Or.inl rfl⟩
    · obtain ⟨r, hr, hr2⟩ := sz_str_l0 ps hs ps.length 0 (1048576 - (ps.length : Int)) (by omega) (by omega) (by omega) (by omega)
      refine ⟨r, ifn hc hr, ?_⟩
      rcases hr2 with h | ⟨g1, g2, g3⟩
      · exact Or.inl h
      · refine Or.inr ⟨g1, by omega, fun x hx => ?_⟩
        have := g3 x (by simpa using hx)
        omega
  obtain ⟨r, hr, hr2⟩ := key
  rcases hr2 with h | ⟨g1, g2, g3⟩
  · refine ⟨-1, ?_, Or.inl (by omega)⟩
    unfold laws_szVoc.f
    refine Ev.bind hr ?_
    exact ifp (by omega) (Ev.now _)
  · refine ⟨r, ?_, Or.inr ⟨by omega, g2, g3⟩⟩
    unfold laws_szVoc.f
    refine Ev.bind hr ?_
    exact ifn (by omega) (Ev.now _)

theorem to_str_l0 (ps : List ByteArray) (hl : ps.length ≤ 1048576) : ∀ (d i : Nat) (ys : List ByteArray), i + d = ps.length → ys.length = ps.length → (∀ j, j < i → ys[j]? = ps[j]?) →
    Ev (fun k => laws_toStringS.l0 k ps ys (i : Int)) ps := by
  intro d
  induction d with
  | zero =>
    intro i ys hi hy hj
    refine Ev.step (fun k => by rw [laws_toStringS.l0]) ?_
    refine ifn (by omega) (Ev_eq (Ev.now _) ?_)
    apply List.ext_getElem?
    intro j
    by_cases h : j < i
    · exact hj j h
    · rw [List.getElem?_eq_none (by omega), List.getElem?_eq_none (by omega)]
  | succ d ih =>
    intro i ys hi hy hj
    have hlt : i < ps.length := by omega
    refine Ev.step (fun k => by rw [laws_toStringS.l0]) ?_
    refine ifp (by omega) (ifp (by omega) (ifp (by omega) ?_))
    rw [rdOf_nat _ _ _ hlt, show wrap64 ((i : Int) + 1) = ((i + 1 : Nat) : Int) by rw [w64 (by omega) (by omega)]; omega, Int.toNat_natCast]
    refine ih (i + 1) _ (by omega) (by simp [hy]) (fun j hji => ?_)
    by_cases e : j = i
    · subst e
      rw [List.getElem?_set_self (by omega), List.getElem?_eq_getElem hlt]
    · rw [List.getElem?_set_ne (by omega)]
      exact hj j (by omega)

theorem to_voc (ps : List ByteArray) (e : Int) (hl : ps.length ≤ 1048576) : Ev (fun k => laws_toVoc.f k ps e) (ps, e) := by
  unfold laws_toVoc.f laws_toStringS.f
  refine Ev.bind (a := ps) ?_ (Ev.now _)
  refine ifp (by omega) (ifp (by omega) ?_)
  exact to_str_l0 ps hl ps.length 0 _ (by omega) (by simp) (fun j hj => by omega)

theorem eq_str_l0 (a b : List ByteArray) (ha : a.length ≤ 1000000000000000) (hab : a.length = b.length) : ∀ (d i : Nat), i + d = a.length → Ev (fun k => laws_eqStringS.l0 k a b (i : Int)) (decide (a.drop i = b.drop i)) := by
  intro d
  induction d with
  | zero =>
    intro i hi
    rw [List.drop_eq_nil_of_le (by omega), List.drop_eq_nil_of_le (by omega)]
    refine Ev.step (fun k => by rw [laws_eqStringS.l0]) ?_
    exact ifn (by omega) (Ev_eq (Ev.now _) (by simp))
  | succ d ih =>
    intro i hi
    have h1 : i < a.length := by omega
    have h2 : i < b.length := by omega
    rw [List.drop_eq_getElem_cons h1, List.drop_eq_getElem_cons h2]
    refine Ev.step (fun k => by rw [laws_eqStringS.l0]) ?_
    refine ifp (by omega) (ifp (by omega) (ifp (by omega) ?_))
    rw [rdOf_nat _ _ _ h1, rdOf_nat _ _ _ h2, show wrap64 ((i : Int) + 1) = ((i + 1 : Nat) : Int) by rw [w64 (by omega) (by omega)]; omega]
    by_cases hc : a[i] = b[i]
    · refine ifp (by rw [hc]) ?_
      exact Ev_eq (ih (i + 1) (by omega)) (dec_cons hc)
    · refine ifn (fun h => hc (toList_inj.1 h)) ?_
      exact Ev_eq (Ev.now _) (dec_ne hc)

theorem eq_voc (a b : List ByteArray) (e f : Int) (ha : a.length ≤ 1000000000000000) : Ev (fun k => laws_eqVoc.f k a e b f) (decide (a = b) && decide (e = f)) := by
  have hs : Ev (fun k => laws_eqStringS.f k a b) (decide (a = b)) := by
    unfold laws_eqStringS.f
    by_cases h : (a.length : Int) = (b.length : Int)
    · refine ifp h ?_
      have := eq_str_l0 a b ha (by omega) a.length 0 (by omega)
      simpa using this
    · refine ifn h ?_
      refine Ev_eq (Ev.now _) (decide_eq_false ?_).symm
      intro e
      exact h (by rw [e])
  unfold laws_eqVoc.f
  refine Ev.bind hs ?_
  by_cases h : a = b
  · refine ifp (decide_eq_true h) ?_
    by_cases h2 : e = f
    · exact ifp h2 (Ev_eq (Ev.now _) (by simp [h, h2]))
    · exact ifn h2 (Ev_eq (Ev.now _) (by simp [h2]))
  · exact ifn (by simpa using h) (Ev_eq (Ev.now _) (by simp [h]))

theorem eq_voc_self (a : List ByteArray) (e : Int) (ha : a.length ≤ 1000000000000000) : Ev (fun k => laws_eqVoc.f k a e a e) true := Ev_eq (eq_voc a a e e ha) (by simp)

theorem FnExactVocOk (ps : List ByteArray) (e : Int) (h0 : (ps.length ≤ maxLen ∧ ∀ x ∈ ps, x.size ≤ maxLen) ∧ (Lit.int .i64 e).wf = true) : ∃ k, laws_FnExactVocOk.f k ps e = some true := by
  refine Ev.rounds (g := fun k => laws_FnExactVocOk.f k ps e) ?_
  obtain ⟨r, hr, hr2⟩ := sz_voc ps e h0.1.1 h0.1.2
  unfold laws_FnExactVocOk.f
  refine Ev.bind hr ?_
  rcases hr2 with h | ⟨h, g1, g2⟩
  · exact ifp h (Ev.now _)
  refine ifn h ?_
  have ht := to_voc ps e g1
  refine Ev.bind ht ?_
  refine Ev.bind (spec_vocok_ev ps e (by omega)) ?_
  refine Ev.bind ht ?_
  refine Ev.bind (impl_vocok_ev ps e (by omega)) ?_
  refine ifn (by simp) ?_
  refine Ev.bind ht ?_
  refine Ev.bind (eq_voc_self ps e (by omega)) ?_
  exact ifp rfl (Ev.now _)

end Go.Proofs.Ytaacknjgfipejaa.Pure
