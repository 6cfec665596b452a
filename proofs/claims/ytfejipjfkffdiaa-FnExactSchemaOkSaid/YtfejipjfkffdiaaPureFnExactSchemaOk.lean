/- The program's SchemaOk returns what the reference's returns: for all arguments, without a condition. -/
import Derived.Test.YtfejipjfkffdiaaPx20
import Derived.Test.YtfejipjfkffdiaaH
namespace Go.Proofs.Ytfejipjfkffdiaa.Pure
open Go.RowKit Go.Proofs.Ytfejipjfkffdiaa.P Go.Proofs.YtfejipjfkffdiaaW.PrintWords Go.Proofs.YtfejipjfkffdiaaW.PrintLast Go.Proofs.Ytfejipjfkffdiaa.H
set_option linter.unusedVariables false
set_option linter.unusedSimpArgs false

/-! ### Rows of texts and of flags that came in: measured, copied, compared -/
theorem sz_str_l0 (ps : List ByteArray) (hs : ∀ x ∈ ps, x.size ≤ 9223372036854775807) : ∀ (d i : Nat) (left : Int), i + d = ps.length → ps.length ≤ 2000000 → 0 ≤ left → left ≤ 1048576 →
    ∃ r, Ev (fun k => laws_szStringS.l0 k ps left (i : Int)) r ∧ (r = -1 ∨ (0 ≤ r ∧ r ≤ left ∧ ∀ x ∈ ps.drop i, (x.size : Int) ≤ left)) := by
  intro d
  induction d with
  | zero =>
    intro i left hi hl h0 h1
    refine ⟨left, ?_, Or.inr ⟨h0, Int.le_refl _, ?_⟩⟩
    · refine Ev.step (fun k => by rw [laws_szStringS.l0]) ?_
      exact ifn (by omega) (Ev.now _)
    · rw [List.drop_eq_nil_of_le (by omega)]
      simp
  | succ d ih =>
    intro i left hi hl h0 h1
    have hlt : i < ps.length := by omega
    have hsz := hs _ (List.getElem_mem hlt)
    have hw : wrap64 (left - ((ps[i].size : Nat) : Int)) = left - (ps[i].size : Int) := w64 (by omega) (by omega)
    by_cases hc : left - (ps[i].size : Int) < 0
    · refine ⟨-1, ?_, Or.inl rfl⟩
      refine Ev.step (fun k => by rw [laws_szStringS.l0]) ?_
      refine ifp (by omega) (ifp (by omega) ?_)
      rw [rdOf_nat _ _ _ hlt, hw]
      exact ifp hc (Ev.now _)
    · obtain ⟨r, hr, hr2⟩ := ih (i + 1) (left - (ps[i].size : Int)) (by omega) hl (by omega) (by omega)
      refine ⟨r, ?_, ?_⟩
      · refine Ev.step (fun k => by rw [laws_szStringS.l0]) ?_
        refine ifp (by omega) (ifp (by omega) ?_)
        rw [rdOf_nat _ _ _ hlt, hw, show wrap64 ((i : Int) + 1) = ((i + 1 : Nat) : Int) by rw [w64 (by omega) (by omega)]; omega]
        exact ifn hc hr
      · rcases hr2 with h | ⟨g1, g2, g3⟩
        · exact Or.inl h
        · refine Or.inr ⟨g1, by omega, fun x hx => ?_⟩
          rw [List.drop_eq_getElem_cons hlt] at hx
          rcases List.mem_cons.1 hx with rfl | hx
          · omega
          · have := g3 x hx
            omega

theorem sz_strs (ps : List ByteArray) (left : Int) (h0 : 0 ≤ left) (h1 : left ≤ 1048576) (hl : ps.length ≤ 9223372036854775807) (hs : ∀ x ∈ ps, x.size ≤ 9223372036854775807) :
    ∃ r, Ev (fun k => laws_szStringS.f k ps left) r ∧ (r = -1 ∨ (0 ≤ r ∧ r ≤ left ∧ ps.length ≤ 1048576 ∧ ∀ x ∈ ps, x.size ≤ 1048576)) := by
  have hw : wrap64 (left - (ps.length : Int)) = left - (ps.length : Int) := w64 (by omega) (by omega)
  unfold laws_szStringS.f
  rw [hw]
  by_cases hc : left - (ps.length : Int) < 0
  · exact ⟨-1, ifp hc (Ev.now _), Or.inl rfl⟩
  · obtain ⟨r, hr, hr2⟩ := sz_str_l0 ps hs ps.length 0 (left - (ps.length : Int)) (by omega) (by omega) (by omega) (by omega)
    refine ⟨r, ifn hc hr, ?_⟩
    rcases hr2 with h | ⟨g1, g2, g3⟩
    · exact Or.inl h
    · refine Or.inr ⟨g1, by omega, by omega, fun x hx => ?_⟩
      have := g3 x (by simpa using hx)
      omega

theorem to_str_l0 (ps : List ByteArray) (hl : ps.length ≤ 1048576) : ∀ (d i : Nat) (ys : List ByteArray), i + d = ps.length → ys.length = ps.length → (∀ j, j < i → ys[j]? = ps[j]?) →
    Ev (fun k => laws_toStringS.l0 k ps ys (i : Int)) ps := by
  intro d
  induction d with
  | zero =>
    intro i ys hi hy hj
    refine Ev.step (fun k => by rw [laws_toStringS.l0]) ?_
    refine ifn (by omega) (Ev_eq (Ev.now _) ?_)
    apply List.ext_getElem?
    intro j
    by_cases h : j < i
    · exact hj j h
    · rw [List.getElem?_eq_none (by omega), List.getElem?_eq_none (by omega)]
  | succ d ih =>
    intro i ys hi hy hj
    have hlt : i < ps.length := by omega
    refine Ev.step (fun k => by rw [laws_toStringS.l0]) ?_
    refine ifp (by omega) (ifp (by omega) (ifp (by omega) ?_))
    rw [rdOf_nat _ _ _ hlt, show wrap64 ((i : Int) + 1) = ((i + 1 : Nat) : Int) by rw [w64 (by omega) (by omega)]; omega, Int.toNat_natCast]
    refine ih (i + 1) _ (by omega) (by simp [hy]) (fun j hji => ?_)
    by_cases e : j = i
    · subst e
      rw [List.getElem?_set_self (by omega), List.getElem?_eq_getElem hlt]
    · rw [List.getElem?_set_ne (by omega)]
      exact hj j (by omega)

theorem to_strs (ps : List ByteArray) (hl : ps.length ≤ 1048576) : Ev (fun k => laws_toStringS.f k ps) ps := by
  unfold laws_toStringS.f
  refine ifp (by omega) (ifp (by omega) ?_)
  exact to_str_l0 ps hl ps.length 0 _ (by omega) (by simp) (fun j hj => by omega)

theorem eq_str_l0 (a b : List ByteArray) (ha : a.length ≤ 1000000000000000) (hab : a.length = b.length) : ∀ (d i : Nat), i + d = a.length → Ev (fun k => laws_eqStringS.l0 k a b (i : Int)) (decide (a.drop i = b.drop i)) := by
  intro d
  induction d with
  | zero =>
    intro i hi
    rw [List.drop_eq_nil_of_le (by omega), List.drop_eq_nil_of_le (by omega)]
    refine Ev.step (fun k => by rw [laws_eqStringS.l0]) ?_
    exact ifn (by omega) (Ev_eq (Ev.now _) (by simp))
  | succ d ih =>
    intro i hi
    have h1 : i < a.length := by omega
    have h2 : i < b.length := by omega
    rw [List.drop_eq_getElem_cons h1, List.drop_eq_getElem_cons h2]
    refine Ev.step (fun k => by rw [laws_eqStringS.l0]) ?_
    refine ifp (by omega) (ifp (by omega) (ifp (by omega) ?_))
    rw [rdOf_nat _ _ _ h1, rdOf_nat _ _ _ h2, show wrap64 ((i : Int) + 1) = ((i + 1 : Nat) : Int) by rw [w64 (by omega) (by omega)]; omega]
    by_cases hc : a[i] = b[i]
    · refine ifp (by rw [hc]) ?_
      exact Ev_eq (ih (i + 1) (by omega)) (dec_cons hc)
    · refine ifn (fun h => hc (toList_inj.1 h)) ?_
      exact Ev_eq (Ev.now _) (dec_ne hc)

theorem eq_strs (a b : List ByteArray) (ha : a.length ≤ 1000000000000000) : Ev (fun k => laws_eqStringS.f k a b) (decide (a = b)) := by
  unfold laws_eqStringS.f
  by_cases h : (a.length : Int) = (b.length : Int)
  · refine ifp h ?_
    have := eq_str_l0 a b ha (by omega) a.length 0 (by omega)
    simpa using this
  · refine ifn h ?_
    refine Ev_eq (Ev.now _) (decide_eq_false ?_).symm
    intro e
    exact h (by rw [e])

theorem sz_bools (ps : List Bool) (left : Int) (h0 : 0 ≤ left) (h1 : left ≤ 1048576) (hl : ps.length ≤ 9223372036854775807) :
    ∃ r, laws_szBoolS.f ps left = some r ∧ (r = -1 ∨ (0 ≤ r ∧ r ≤ left ∧ ps.length ≤ 1048576)) := by
  have hw : wrap64 (left - (ps.length : Int)) = left - (ps.length : Int) := w64 (by omega) (by omega)
  unfold laws_szBoolS.f
  rw [hw]
  by_cases hc : left - (ps.length : Int) < 0
  · exact ⟨-1, if_pos hc, Or.inl rfl⟩
  · exact ⟨_, if_neg hc, Or.inr ⟨by omega, by omega, by omega⟩⟩

theorem to_bool_l0 (ps : List Bool) (hl : ps.length ≤ 1048576) : ∀ (d i : Nat) (ys : List Bool), i + d = ps.length → ys.length = ps.length → (∀ j, j < i → ys[j]? = ps[j]?) →
    Ev (fun k => laws_toBoolS.l0 k ps ys (i : Int)) ps := by
  intro d
  induction d with
  | zero =>
    intro i ys hi hy hj
    refine Ev.step (fun k => by rw [laws_toBoolS.l0]) ?_
    refine ifn (by omega) (Ev_eq (Ev.now _) ?_)
    apply List.ext_getElem?
    intro j
    by_cases h : j < i
    · exact hj j h
    · rw [List.getElem?_eq_none (by omega), List.getElem?_eq_none (by omega)]
  | succ d ih =>
    intro i ys hi hy hj
    have hlt : i < ps.length := by omega
    refine Ev.step (fun k => by rw [laws_toBoolS.l0]) ?_
    refine ifp (by omega) (ifp (by omega) (ifp (by omega) ?_))
    rw [rdOf_nat _ _ _ hlt, show wrap64 ((i : Int) + 1) = ((i + 1 : Nat) : Int) by rw [w64 (by omega) (by omega)]; omega, Int.toNat_natCast]
    refine ih (i + 1) _ (by omega) (by simp [hy]) (fun j hji => ?_)
    by_cases e : j = i
    · subst e
      rw [List.getElem?_set_self (by omega), List.getElem?_eq_getElem hlt]
    · rw [List.getElem?_set_ne (by omega)]
      exact hj j (by omega)

theorem to_bools (ps : List Bool) (hl : ps.length ≤ 1048576) : Ev (fun k => laws_toBoolS.f k ps) ps := by
  unfold laws_toBoolS.f
  refine ifp (by omega) (ifp (by omega) ?_)
  exact to_bool_l0 ps hl ps.length 0 _ (by omega) (by simp) (fun j hj => by omega)

theorem eq_bool_l0 (a : List Bool) (ha : a.length ≤ 1000000000000000) : ∀ (d i : Nat), i + d = a.length → Ev (fun k => laws_eqBoolS.l0 k a a (i : Int)) true := by
  intro d
  induction d with
  | zero =>
    intro i hi
    refine Ev.step (fun k => by rw [laws_eqBoolS.l0]) ?_
    exact ifn (by omega) (Ev.now _)
  | succ d ih =>
    intro i hi
    refine Ev.step (fun k => by rw [laws_eqBoolS.l0]) ?_
    refine ifp (by omega) (ifp (by omega) (ifp (by omega) ?_))
    rw [show wrap64 ((i : Int) + 1) = ((i + 1 : Nat) : Int) by rw [w64 (by omega) (by omega)]; omega]
    exact ifn (by simp) (ih (i + 1) (by omega))

theorem eq_bools (a : List Bool) (ha : a.length ≤ 1000000000000000) : Ev (fun k => laws_eqBoolS.f k a a) true := by
  unfold laws_eqBoolS.f
  exact ifp rfl (eq_bool_l0 a ha a.length 0 (by omega))

/-! ### Schemas that came in: measured, copied, compared -/
abbrev SL := S26
abbrev SI := S31

theorem SL_ind {p : SL → Prop} (h : ∀ a b c d e f, (∀ y ∈ f, p y) → p ⟨a, b, c, d, e, f⟩) (s : SL) : p s :=
  S26.rec (motive_1 := p) (motive_2 := fun l => ∀ y ∈ l, p y) (fun a b c d e f ih => h a b c d e f ih) (by simp) (fun x l h1 h2 y hy => by
    rcases List.mem_cons.1 hy with rfl | hy
    · exact h1
    · exact h2 y hy) s

theorem SI_ind {p : SI → Prop} (h : ∀ a b c d e f, (∀ y ∈ f, p y) → p ⟨a, b, c, d, e, f⟩) (s : SI) : p s :=
  S31.rec (motive_1 := p) (motive_2 := fun l => ∀ y ∈ l, p y) (fun a b c d e f ih => h a b c d e f ih) (by simp) (fun x l h1 h2 y hy => by
    rcases List.mem_cons.1 hy with rfl | hy
    · exact h1
    · exact h2 y hy) s

/-- As reading tells it. -/
inductive WfL : SL → Prop
  | mk {a b c : Int} {d : List ByteArray} {e : List Bool} {f : List SL} (h0 : (-9223372036854775808 ≤ b ∧ b ≤ 9223372036854775807) ∧ -9223372036854775808 ≤ c ∧ c ≤ 9223372036854775807) (h1 : d.length ≤ 9223372036854775807) (h2 : ∀ x ∈ d, x.size ≤ 9223372036854775807) (h3 : e.length ≤ 9223372036854775807) (h4 : f.length ≤ 9223372036854775807) (h5 : ∀ y ∈ f, WfL y) : WfL ⟨a, b, c, d, e, f⟩

theorem wf64 {b : Int} (h : (Lit.int .i64 b).wf = true) : -9223372036854775808 ≤ b ∧ b ≤ 9223372036854775807 := by
  have h2 : (decide (IntKind.i64.min ≤ b) && decide (b ≤ IntKind.i64.max)) = true := h
  rw [Bool.and_eq_true, decide_eq_true_eq, decide_eq_true_eq, show IntKind.i64.min = -9223372036854775808 from rfl, show IntKind.i64.max = 9223372036854775807 from rfl] at h2
  exact h2

abbrev Wf26 := WfL

theorem Wf26_mk {a b c : Int} {d : List ByteArray} {e : List Bool} {f : List SL} (h : (Lit.int .i64 a).wf = true ∧ (Lit.int .i64 b).wf = true ∧ (Lit.int .i64 c).wf = true ∧ (d.length ≤ maxLen ∧ ∀ x ∈ d, x.size ≤ maxLen) ∧ (e.length ≤ maxLen ∧ ∀ x ∈ e, True) ∧ (f.length ≤ maxLen ∧ ∀ y ∈ f, WfL y)) : WfL ⟨a, b, c, d, e, f⟩ := by
  obtain ⟨_, hb, hc, ⟨h1, h2⟩, ⟨h3, _⟩, h4, h5⟩ := h
  simp only [maxLen] at h1 h2 h3 h4
  exact WfL.mk ⟨wf64 hb, wf64 hc⟩ h1 h2 h3 h4 h5

/-- Not too large. -/
inductive GoodL : SL → Prop
  | mk {a b c : Int} {d : List ByteArray} {e : List Bool} {f : List SL} (h0 : (-9223372036854775808 ≤ b ∧ b ≤ 9223372036854775807) ∧ -9223372036854775808 ≤ c ∧ c ≤ 9223372036854775807) (h1 : d.length ≤ 1048576) (h2 : ∀ x ∈ d, x.size ≤ 1048576) (h3 : e.length ≤ 1048576) (h4 : f.length ≤ 1048576) (h5 : ∀ y ∈ f, GoodL y) : GoodL ⟨a, b, c, d, e, f⟩

inductive Good : SI → Prop
  | mk {a b c : Int} {d : List ByteArray} {e : List Bool} {f : List SI} (h0 : (-9223372036854775808 ≤ b ∧ b ≤ 9223372036854775807) ∧ -9223372036854775808 ≤ c ∧ c ≤ 9223372036854775807) (h1 : d.length ≤ 1048576) (h2 : ∀ x ∈ d, x.size ≤ 1048576) (h3 : e.length ≤ 1048576) (h4 : f.length ≤ 1048576) (h5 : ∀ y ∈ f, Good y) : Good ⟨a, b, c, d, e, f⟩

theorem Good.parts {s : SI} (h : Good s) : ((-9223372036854775808 ≤ s.f1 ∧ s.f1 ≤ 9223372036854775807) ∧ -9223372036854775808 ≤ s.f2 ∧ s.f2 ≤ 9223372036854775807) ∧ s.f3.length ≤ 1048576 ∧ (∀ x ∈ s.f3, x.size ≤ 1048576) ∧ s.f4.length ≤ 1048576 ∧ s.f5.length ≤ 1048576 ∧ ∀ y ∈ s.f5, Good y := by
  cases h with
  | mk h0 h1 h2 h3 h4 h5 => exact ⟨h0, h1, h2, h3, h4, h5⟩

theorem sl_nat (xs : List SL) (i : Nat) (h : i < xs.length) : rd_T26 xs (i : Int) = xs[i] := by
  show xs.getD _ _ = _
  simp [h]

theorem si_nat (xs : List SI) (i : Nat) (h : i < xs.length) : rd_T31 xs (i : Int) = xs[i] := by
  show xs.getD _ _ = _
  simp [h]

/-- One schema, measured. -/
def SzOk (s : SL) : Prop := ∀ left : Int, 0 ≤ left → left ≤ 1048576 → ∃ r, Ev (fun k => laws_szSchema.f k s.f0 s.f1 s.f2 s.f3 s.f4 s.f5 left) r ∧ (r = -1 ∨ (0 ≤ r ∧ r ≤ left ∧ GoodL s))

theorem sz_schemas_l0 (xs : List SL) (hl : xs.length ≤ 1048576) (h : ∀ y ∈ xs, SzOk y) : ∀ (d i : Nat) (left : Int), i + d = xs.length → 0 ≤ left → left ≤ 1048576 →
    ∃ r, Ev (fun k => laws_szSchemaS.l0 k xs left (i : Int)) r ∧ (r = -1 ∨ (0 ≤ r ∧ r ≤ left ∧ ∀ y ∈ xs.drop i, GoodL y)) := by
  intro d
  induction d with
  | zero =>
    intro i left hi h0 h1
    refine ⟨left, ?_, Or.inr ⟨h0, Int.le_refl _, ?_⟩⟩
    · refine Ev.step (fun k => by rw [laws_szSchemaS.l0]) ?_
      exact ifn (by omega) (Ev.now _)
    · rw [List.drop_eq_nil_of_le (by omega)]
      simp
  | succ d ih =>
    intro i left hi h0 h1
    have hlt : i < xs.length := by omega
    obtain ⟨r1, hr1, hr1'⟩ := h xs[i] (List.getElem_mem hlt) left h0 h1
    have wi : wrap64 ((i : Int) + 1) = ((i + 1 : Nat) : Int) := by rw [w64 (by omega) (by omega)]; omega
    rcases hr1' with e | ⟨g1, g2, g3⟩
    · refine ⟨-1, ?_, Or.inl rfl⟩
      refine Ev.step (fun k => by rw [laws_szSchemaS.l0]) ?_
      refine ifp (by omega) (ifp (by omega) ?_)
      rw [sl_nat _ _ hlt]
      refine Ev.bind hr1 ?_
      exact ifp (by omega) (Ev.now _)
    · obtain ⟨r, hr, hr2⟩ := ih (i + 1) r1 (by omega) g1 (by omega)
      refine ⟨r, ?_, ?_⟩
      · refine Ev.step (fun k => by rw [laws_szSchemaS.l0]) ?_
        refine ifp (by omega) (ifp (by omega) ?_)
        rw [sl_nat _ _ hlt, wi]
        refine Ev.bind hr1 ?_
        exact ifn (by omega) hr
      · rcases hr2 with e | ⟨q1, q2, q3⟩
        · exact Or.inl e
        · refine Or.inr ⟨q1, by omega, fun y hy => ?_⟩
          rw [List.drop_eq_getElem_cons hlt] at hy
          rcases List.mem_cons.1 hy with rfl | hy
          · exact g3
          · exact q3 y hy

theorem sz_schema (s : SL) : WfL s → SzOk s := by
  induction s using SL_ind with
  | h a b c d e f ih =>
    intro hw left h0 h1
    cases hw with
    | mk w0 w1 w2 w3 w4 w5 =>
      show ∃ r, Ev (fun k => laws_szSchema.f k a b c d e f left) r ∧ _
      obtain ⟨r1, hr1, hr1'⟩ := sz_strs d left h0 h1 w1 w2
      rcases hr1' with q | ⟨g1, g2, g3, g4⟩
      · refine ⟨-1, ?_, Or.inl rfl⟩
        refine Ev.step (fun k => by rw [laws_szSchema.f]) ?_
        refine Ev.bind hr1 ?_
        exact ifp (by omega) (Ev.now _)
      · obtain ⟨r2, hr2, hr2'⟩ := sz_bools e r1 g1 (by omega) w3
        rcases hr2' with q | ⟨p1, p2, p3⟩
        · refine ⟨-1, ?_, Or.inl rfl⟩
          refine Ev.step (fun k => by rw [laws_szSchema.f]) ?_
          refine Ev.bind hr1 ?_
          refine ifn (by omega) ?_
          refine b0 hr2 ?_
          exact ifp (by omega) (Ev.now _)
        · have hwr : wrap64 (r2 - (f.length : Int)) = r2 - (f.length : Int) := w64 (by omega) (by omega)
          by_cases hc : r2 - (f.length : Int) < 0
          · refine ⟨-1, ?_, Or.inl rfl⟩
            refine Ev.step (fun k => by rw [laws_szSchema.f]) ?_
            refine Ev.bind hr1 ?_
            refine ifn (by omega) ?_
            refine b0 hr2 ?_
            refine ifn (by omega) ?_
            refine Ev.bind (a := -1) ?_ ?_
            · refine Ev.step (fun k => by rw [laws_szSchemaS.f]) ?_
              rw [hwr]
              exact ifp hc (Ev.now _)
            · exact ifp (by omega) (Ev.now _)
          · obtain ⟨r3, hr3, hr3'⟩ := sz_schemas_l0 f (by omega) (fun y hy => ih y hy (w5 y hy)) f.length 0 (r2 - (f.length : Int)) (by omega) (by omega) (by omega)
            have hS : Ev (fun k => laws_szSchemaS.f k f r2) r3 := by
              refine Ev.step (fun k => by rw [laws_szSchemaS.f]) ?_
              rw [hwr]
              exact ifn hc hr3
            rcases hr3' with q | ⟨q1, q2, q3⟩
            · refine ⟨-1, ?_, Or.inl rfl⟩
              refine Ev.step (fun k => by rw [laws_szSchema.f]) ?_
              refine Ev.bind hr1 ?_
              refine ifn (by omega) ?_
              refine b0 hr2 ?_
              refine ifn (by omega) ?_
              refine Ev.bind hS ?_
              exact ifp (by omega) (Ev.now _)
            · refine ⟨r3, ?_, Or.inr ⟨q1, by omega, GoodL.mk w0 g3 g4 p3 (by omega) (fun y hy => q3 y (by simpa using hy))⟩⟩
              refine Ev.step (fun k => by rw [laws_szSchema.f]) ?_
              refine Ev.bind hr1 ?_
              refine ifn (by omega) ?_
              refine b0 hr2 ?_
              refine ifn (by omega) ?_
              refine Ev.bind hS ?_
              exact ifn (by omega) (Ev.now _)

/-- One schema, copied. -/
def ToOk (s : SL) : Prop := ∃ t : SI, Ev (fun k => laws_toSchema.f k s.f0 s.f1 s.f2 s.f3 s.f4 s.f5) (t.f0, t.f1, t.f2, t.f3, t.f4, t.f5) ∧ Good t

theorem to_schemas_l0 (xs : List SL) (hl : xs.length ≤ 1048576) (h : ∀ y ∈ xs, ToOk y) : ∀ (d i : Nat) (ys : List SI), i + d = xs.length → ys.length = xs.length → (∀ j (hj : j < ys.length), j < i → Good ys[j]) →
    ∃ zs : List SI, Ev (fun k => laws_toSchemaS.l0 k xs ys (i : Int)) zs ∧ zs.length = xs.length ∧ ∀ y ∈ zs, Good y := by
  intro d
  induction d with
  | zero =>
    intro i ys hi hy hg
    refine ⟨ys, ?_, hy, fun y hm => ?_⟩
    · refine Ev.step (fun k => by rw [laws_toSchemaS.l0]) ?_
      exact ifn (by omega) (Ev.now _)
    · obtain ⟨j, hj, rfl⟩ := List.getElem_of_mem hm
      exact hg j hj (by omega)
  | succ d ih =>
    intro i ys hi hy hg
    have hlt : i < xs.length := by omega
    obtain ⟨⟨t0, t1, t2, t3, t4, t5⟩, ht, hgt⟩ := h xs[i] (List.getElem_mem hlt)
    have wi : wrap64 ((i : Int) + 1) = ((i + 1 : Nat) : Int) := by rw [w64 (by omega) (by omega)]; omega
    obtain ⟨zs, hz, hzl, hzg⟩ := ih (i + 1) (ys.set i ⟨t0, t1, t2, t3, t4, t5⟩) (by omega) (by simp [hy]) (fun j hj hji => by
      rw [List.getElem_set]
      split
      · exact hgt
      · exact hg j (by simpa using hj) (by omega))
    refine ⟨zs, ?_, hzl, hzg⟩
    refine Ev.step (fun k => by rw [laws_toSchemaS.l0]) ?_
    refine ifp (by omega) (ifp (by omega) ?_)
    rw [sl_nat _ _ hlt, wi]
    refine Ev.bind ht ?_
    rw [Int.toNat_natCast]
    exact ifp (by omega) hz

theorem to_schema (s : SL) : GoodL s → ToOk s := by
  induction s using SL_ind with
  | h a b c d e f ih =>
    intro hw
    cases hw with
    | mk w0 w1 w2 w3 w4 w5 =>
      obtain ⟨zs, hz, hzl, hzg⟩ := to_schemas_l0 f w4 (fun y hy => ih y hy (w5 y hy)) f.length 0 (List.replicate f.length z31) (by omega) (by simp) (fun j hj hji => by omega)
      refine ⟨⟨a, b, c, d, e, zs⟩, ?_, Good.mk w0 w1 w2 w3 (by omega) hzg⟩
      show Ev (fun k => laws_toSchema.f k a b c d e f) (a, b, c, d, e, zs)
      refine Ev.step (fun k => by rw [laws_toSchema.f]) ?_
      refine Ev.bind (to_strs d w1) ?_
      refine Ev.bind (to_bools e w3) ?_
      refine Ev.bind (a := zs) ?_ (Ev.now _)
      refine Ev.step (fun k => by rw [laws_toSchemaS.f]) ?_
      refine ifp (by omega) (ifp (by omega) ?_)
      rw [Int.toNat_natCast]
      exact hz

/-- One schema, compared with itself. -/
def EqOk (s : SI) : Prop := Ev (fun k => laws_eqSchema.f k s.f0 s.f1 s.f2 s.f3 s.f4 s.f5 s.f0 s.f1 s.f2 s.f3 s.f4 s.f5) true

theorem eq_schemas_l0 (xs : List SI) (hl : xs.length ≤ 1048576) (h : ∀ y ∈ xs, EqOk y) : ∀ (d i : Nat), i + d = xs.length → Ev (fun k => laws_eqSchemaS.l0 k xs xs (i : Int)) true := by
  intro d
  induction d with
  | zero =>
    intro i hi
    refine Ev.step (fun k => by rw [laws_eqSchemaS.l0]) ?_
    exact ifn (by omega) (Ev.now _)
  | succ d ih =>
    intro i hi
    have hlt : i < xs.length := by omega
    refine Ev.step (fun k => by rw [laws_eqSchemaS.l0]) ?_
    refine ifp (by omega) (ifp (by omega) (ifp (by omega) ?_))
    rw [si_nat _ _ hlt, show wrap64 ((i : Int) + 1) = ((i + 1 : Nat) : Int) by rw [w64 (by omega) (by omega)]; omega]
    refine Ev.bind (h xs[i] (List.getElem_mem hlt)) ?_
    exact ifp rfl (ih (i + 1) (by omega))

theorem eq_schema (s : SI) : Good s → EqOk s := by
  induction s using SI_ind with
  | h a b c d e f ih =>
    intro hw
    cases hw with
    | mk w0 w1 w2 w3 w4 w5 =>
      show Ev (fun k => laws_eqSchema.f k a b c d e f a b c d e f) true
      refine Ev.step (fun k => by rw [laws_eqSchema.f]) ?_
      refine ifp rfl (ifp rfl (ifp rfl ?_))
      refine Ev.bind (eq_strs d d (by omega)) ?_
      refine ifp (by simp) ?_
      refine Ev.bind (eq_bools e (by omega)) ?_
      refine ifp rfl ?_
      refine Ev.bind (a := true) ?_ (ifp rfl (Ev.now _))
      refine Ev.step (fun k => by rw [laws_eqSchemaS.f]) ?_
      exact ifp rfl (eq_schemas_l0 f w4 (fun y hy => ih y hy (w5 y hy)) f.length 0 (by omega))

/-! ### Names, texts, and which are each once -/
/-- Is it one of them? -/
def has (l : List ByteArray) (y : ByteArray) : Bool := l.any (fun x => decide (x = y))

theorem has_iff (l : List ByteArray) (y : ByteArray) : has l y = true ↔ y ∈ l := by
  unfold has
  rw [List.any_eq_true]
  constructor
  · rintro ⟨x, hx, h⟩
    rw [← of_decide_eq_true h]
    exact hx
  · intro h
    exact ⟨y, h, decide_eq_true rfl⟩

theorem has_nil (y : ByteArray) : has [] y = false := rfl

theorem has_cons (x : ByteArray) (l : List ByteArray) (y : ByteArray) : has (x :: l) y = (decide (x = y) || has l y) := rfl

def plainFrom (s : ByteArray) : Nat → Nat → Bool
  | 0, _ => true
  | d + 1, i => decide (97 ≤ bt s (i : Int) ∧ bt s (i : Int) ≤ 122) && plainFrom s d (i + 1)

def textFrom (s : ByteArray) : Nat → Nat → Bool
  | 0, _ => true
  | d + 1, i => decide (32 ≤ bt s (i : Int) ∧ bt s (i : Int) ≤ 126 ∧ bt s (i : Int) ≠ 34 ∧ bt s (i : Int) ≠ 92) && textFrom s d (i + 1)

def nameOk_ (s : ByteArray) : Bool := decide (1 ≤ s.size ∧ s.size ≤ 8) && plainFrom s s.size 0
def textOk_ (m : Nat) (s : ByteArray) : Bool := textFrom s s.size 0 && decide (s.size ≤ m)

/-- Each is p, and none stands twice. -/
def onceFrom (p : ByteArray → Bool) (xs : List ByteArray) : Nat → Nat → Bool
  | 0, _ => true
  | d + 1, i => p (rdOf ByteArray.empty xs (i : Int)) && (!has (xs.take i) (rdOf ByteArray.empty xs (i : Int))) && onceFrom p xs d (i + 1)

theorem step64 {i n : Nat} (h : i < n) (hn : n ≤ 1000000000000000) : wrap64 ((i : Int) + 1) = ((i + 1 : Nat) : Int) := by rw [w64 (by omega) (by omega)]; omega

theorem spec_name_l0 (s : ByteArray) (hs : s.size ≤ 1000000000000000) : ∀ (d i : Nat), i + d = s.size → Ev (fun k => spec_l2Name.l0 k s (i : Int)) (plainFrom s d i) := by
  intro d
  induction d with
  | zero =>
    intro i hi
    refine Ev.step (fun k => by rw [spec_l2Name.l0]) ?_
    exact ifn (by omega) (Ev.now _)
  | succ d ih =>
    intro i hi
    refine Ev.step (fun k => by rw [spec_l2Name.l0]) ?_
    refine ifp (by omega) (ifp (by omega) ?_)
    rw [plainFrom]
    by_cases h1 : bt s (i : Int) < 97
    · refine ifp h1 (Ev_eq (Ev.now _) ?_)
      rw [decide_eq_false (by omega), Bool.false_and]
    · refine ifn h1 ?_
      by_cases h2 : bt s (i : Int) > 122
      · refine ifp h2 (Ev_eq (Ev.now _) ?_)
        rw [decide_eq_false (by omega), Bool.false_and]
      · refine ifn h2 ?_
        rw [step64 (n := s.size) (by omega) hs, decide_eq_true (by omega), Bool.true_and]
        exact ih (i + 1) (by omega)

theorem spec_name (s : ByteArray) (hs : s.size ≤ 1000000000000000) : Ev (fun k => spec_l2Name.f k s) (nameOk_ s) := by
  unfold spec_l2Name.f nameOk_
  by_cases h : (s.size : Int) < 1
  · refine ifp h ?_
    refine Ev.step (fun k => by rw [spec_l2Name.j0]) ?_
    refine ifp rfl (Ev_eq (Ev.now _) ?_)
    rw [decide_eq_false (by omega), Bool.false_and]
  · refine ifn h ?_
    refine Ev.step (fun k => by rw [spec_l2Name.j0]) ?_
    by_cases h2 : (s.size : Int) > 8
    · refine ifp (decide_eq_true h2) (Ev_eq (Ev.now _) ?_)
      rw [decide_eq_false (by omega), Bool.false_and]
    · refine ifn (by simpa using h2) ?_
      rw [decide_eq_true (by omega), Bool.true_and]
      exact spec_name_l0 s hs s.size 0 (by omega)

theorem impl_name_l0 (s : ByteArray) (hs : s.size ≤ 1000000000000000) : ∀ (d i : Nat), i + d = s.size → Ev (fun k => impl_nameOk.l0 k s (s.size : Int) (i : Int)) (decide (1 ≤ s.size ∧ s.size ≤ 8) && plainFrom s d i) := by
  intro d
  induction d with
  | zero =>
    intro i hi
    refine Ev.step (fun k => by rw [impl_nameOk.l0]) ?_
    refine ifn (by omega) ?_
    by_cases h : (s.size : Int) ≥ 1
    · refine b0 (a := decide ((s.size : Int) ≤ 8)) (by unfold impl_within.f; rw [if_pos h]) (Ev_eq (Ev.now _) ?_)
      rw [plainFrom, Bool.and_true, decide_eq_decide]
      omega
    · refine b0 (a := false) (by unfold impl_within.f; rw [if_neg h]) (Ev_eq (Ev.now _) ?_)
      rw [decide_eq_false (by omega), Bool.false_and]
  | succ d ih =>
    intro i hi
    refine Ev.step (fun k => by rw [impl_nameOk.l0]) ?_
    refine ifp (by omega) (ifp (by omega) (ifp (by omega) ?_))
    rw [plainFrom]
    by_cases h1 : bt s (i : Int) < 97
    · refine ifp h1 (Ev_eq (Ev.now _) ?_)
      rw [decide_eq_false (p := 97 ≤ bt s (i : Int) ∧ bt s (i : Int) ≤ 122) (by omega), Bool.false_and, Bool.and_false]
    · refine ifn h1 ?_
      by_cases h2 : bt s (i : Int) > 122
      · refine ifp h2 (Ev_eq (Ev.now _) ?_)
        rw [decide_eq_false (p := 97 ≤ bt s (i : Int) ∧ bt s (i : Int) ≤ 122) (by omega), Bool.false_and, Bool.and_false]
      · refine ifn h2 ?_
        rw [step64 (n := s.size) (by omega) hs, decide_eq_true (p := 97 ≤ bt s (i : Int) ∧ bt s (i : Int) ≤ 122) (by omega), Bool.true_and]
        exact ih (i + 1) (by omega)

theorem impl_name (s : ByteArray) (hs : s.size ≤ 1000000000000000) : Ev (fun k => impl_nameOk.f k s) (nameOk_ s) := impl_name_l0 s hs s.size 0 (by omega)

theorem spec_text_l0 (s : ByteArray) (hs : s.size ≤ 1000000000000000) : ∀ (d i : Nat), i + d = s.size → Ev (fun k => spec_l31Text.l0 k s (i : Int)) (textFrom s d i) := by
  intro d
  induction d with
  | zero =>
    intro i hi
    refine Ev.step (fun k => by rw [spec_l31Text.l0]) ?_
    exact ifn (by omega) (Ev.now _)
  | succ d ih =>
    intro i hi
    have no : ¬ (32 ≤ bt s (i : Int) ∧ bt s (i : Int) ≤ 126 ∧ bt s (i : Int) ≠ 34 ∧ bt s (i : Int) ≠ 92) → Ev (fun _ : Nat => some false) (textFrom s (d + 1) i) := fun h => Ev_eq (Ev.now _) (by rw [textFrom, decide_eq_false h, Bool.false_and])
    refine Ev.step (fun k => by rw [spec_l31Text.l0]) ?_
    refine ifp (by omega) (ifp (by omega) ?_)
    by_cases h1 : bt s (i : Int) < 32
    · exact ifp h1 (no (by omega))
    refine ifn h1 ?_
    by_cases h2 : bt s (i : Int) > 126
    · exact ifp h2 (no (by omega))
    refine ifn h2 ?_
    by_cases h3 : bt s (i : Int) = 34
    · exact ifp h3 (no (by omega))
    refine ifn h3 ?_
    by_cases h4 : bt s (i : Int) = 92
    · exact ifp h4 (no (by omega))
    refine ifn h4 ?_
    rw [step64 (n := s.size) (by omega) hs, textFrom, decide_eq_true (by omega), Bool.true_and]
    exact ih (i + 1) (by omega)

theorem impl_text_l0 (s : ByteArray) (m : Nat) (hs : s.size ≤ 1000000000000000) : ∀ (d i : Nat), i + d = s.size → Ev (fun k => impl_textOk.l0 k s (m : Int) (s.size : Int) (i : Int)) (textFrom s d i && decide (s.size ≤ m)) := by
  intro d
  induction d with
  | zero =>
    intro i hi
    refine Ev.step (fun k => by rw [impl_textOk.l0]) ?_
    refine ifn (by omega) (Ev_eq (Ev.now _) ?_)
    rw [textFrom, Bool.true_and, decide_eq_decide]
    omega
  | succ d ih =>
    intro i hi
    have no : ¬ (32 ≤ bt s (i : Int) ∧ bt s (i : Int) ≤ 126 ∧ bt s (i : Int) ≠ 34 ∧ bt s (i : Int) ≠ 92) → Ev (fun _ : Nat => some false) (textFrom s (d + 1) i && decide (s.size ≤ m)) := fun h => Ev_eq (Ev.now _) (by rw [textFrom, decide_eq_false h, Bool.false_and, Bool.false_and])
    refine Ev.step (fun k => by rw [impl_textOk.l0]) ?_
    refine ifp (by omega) (ifp (by omega) (ifp (by omega) ?_))
    by_cases h1 : bt s (i : Int) < 32
    · exact ifp h1 (no (by omega))
    refine ifn h1 ?_
    by_cases h2 : bt s (i : Int) > 126
    · exact ifp h2 (no (by omega))
    refine ifn h2 ?_
    by_cases h3 : bt s (i : Int) = 34
    · exact ifp h3 (no (by omega))
    refine ifn h3 ?_
    by_cases h4 : bt s (i : Int) = 92
    · exact ifp h4 (no (by omega))
    refine ifn h4 ?_
    rw [step64 (n := s.size) (by omega) hs, textFrom, decide_eq_true (p := 32 ≤ bt s (i : Int) ∧ bt s (i : Int) ≤ 126 ∧ bt s (i : Int) ≠ 34 ∧ bt s (i : Int) ≠ 92) (by omega), Bool.true_and]
    exact ih (i + 1) (by omega)

theorem impl_text (s : ByteArray) (m : Nat) (hs : s.size ≤ 1000000000000000) : Ev (fun k => impl_textOk.f k s (m : Int)) (textOk_ m s) := impl_text_l0 s m hs s.size 0 (by omega)

theorem index_l0 (xs : List ByteArray) (y : ByteArray) (hl : xs.length ≤ 1000000000000000) : ∀ (d i : Nat), i + d = xs.length → ∃ r : Int, Ev (fun k => slices_Index_string_string.l0 k xs y (xs.length : Int) (i : Int)) r ∧ (0 ≤ r ↔ y ∈ xs.drop i) := by
  intro d
  induction d with
  | zero =>
    intro i hi
    refine ⟨-1, ?_, ?_⟩
    · refine Ev.step (fun k => by rw [slices_Index_string_string.l0]) ?_
      exact ifn (by omega) (Ev.now _)
    · rw [List.drop_eq_nil_of_le (by omega)]
      simp
  | succ d ih =>
    intro i hi
    have hlt : i < xs.length := by omega
    by_cases h : y = xs[i]
    · refine ⟨(i : Int), ?_, ?_⟩
      · refine Ev.step (fun k => by rw [slices_Index_string_string.l0]) ?_
        refine ifp (by omega) (ifp (by omega) (ifp (by omega) ?_))
        rw [rdOf_nat _ _ _ hlt]
        exact ifp (by rw [h]) (Ev.now _)
      · exact ⟨fun _ => by rw [List.drop_eq_getElem_cons hlt, h]; exact List.mem_cons_self, fun _ => by omega⟩
    · obtain ⟨r, hr, hr2⟩ := ih (i + 1) (by omega)
      refine ⟨r, ?_, ?_⟩
      · refine Ev.step (fun k => by rw [slices_Index_string_string.l0]) ?_
        refine ifp (by omega) (ifp (by omega) (ifp (by omega) ?_))
        rw [rdOf_nat _ _ _ hlt, step64 (n := xs.length) hlt hl]
        exact ifn (fun e => h (toList_inj.1 e)) hr
      · rw [List.drop_eq_getElem_cons hlt, List.mem_cons, hr2]
        exact ⟨Or.inr, fun e => e.resolve_left h⟩

theorem contains_ev (xs : List ByteArray) (y : ByteArray) (hl : xs.length ≤ 1000000000000000) : Ev (fun k => slices_Contains_string_string.f k xs y) (has xs y) := by
  obtain ⟨r, hr, hr2⟩ := index_l0 xs y hl xs.length 0 (by omega)
  rw [List.drop_zero] at hr2
  unfold slices_Contains_string_string.f slices_Index_string_string.f
  refine Ev.bind hr (Ev_eq (Ev.now _) ?_)
  rw [Bool.eq_iff_iff, decide_eq_true_eq, has_iff]
  exact hr2

theorem impl_names_l0 (xs : List ByteArray) (hl : xs.length ≤ 1000000000000000) (hs : ∀ x ∈ xs, x.size ≤ 1000000000000000) : ∀ (d i : Nat), i + d = xs.length → Ev (fun k => impl_namesOk.l0 k xs xs (xs.length : Int) (i : Int)) (onceFrom nameOk_ xs d i) := by
  intro d
  induction d with
  | zero =>
    intro i hi
    refine Ev.step (fun k => by rw [impl_namesOk.l0]) ?_
    exact ifn (by omega) (Ev.now _)
  | succ d ih =>
    intro i hi
    have hlt : i < xs.length := by omega
    refine Ev.step (fun k => by rw [impl_namesOk.l0]) ?_
    refine ifp (by omega) (ifp (by omega) (ifp (by omega) ?_))
    rw [onceFrom, step64 (n := xs.length) hlt hl, Int.toNat_natCast]
    refine Ev.bind (impl_name _ (hs _ (rdOf_mem _ _ _ (by omega) (by omega)))) ?_
    cases nameOk_ (rdOf ByteArray.empty xs (i : Int)) with
    | false => exact ifn (by simp) (Ev_eq (Ev.now _) (by simp))
    | true =>
      refine ifp rfl (ifp (by omega) ?_)
      refine Ev.bind (contains_ev _ _ (by rw [List.length_take]; omega)) ?_
      cases has (xs.take i) (rdOf ByteArray.empty xs (i : Int)) with
      | true => exact ifp rfl (Ev_eq (Ev.now _) (by simp))
      | false => exact ifn (by simp) (Ev_eq (ih (i + 1) (by omega)) (by simp))

theorem impl_words_l0 (xs : List ByteArray) (hl : xs.length ≤ 1000000000000000) (hs : ∀ x ∈ xs, x.size ≤ 1000000000000000) : ∀ (d i : Nat), i + d = xs.length → Ev (fun k => impl_wordsOk.l0 k xs xs (xs.length : Int) (i : Int)) (onceFrom (textOk_ 8) xs d i && decide (1 ≤ xs.length ∧ xs.length ≤ 4)) := by
  intro d
  induction d with
  | zero =>
    intro i hi
    refine Ev.step (fun k => by rw [impl_wordsOk.l0]) ?_
    refine ifn (by omega) ?_
    by_cases h : (xs.length : Int) ≥ 1
    · refine b0 (a := decide ((xs.length : Int) ≤ 4)) (by unfold impl_within.f; rw [if_pos h]) (Ev_eq (Ev.now _) ?_)
      rw [onceFrom, Bool.true_and, decide_eq_decide]
      omega
    · refine b0 (a := false) (by unfold impl_within.f; rw [if_neg h]) (Ev_eq (Ev.now _) ?_)
      rw [decide_eq_false (p := 1 ≤ xs.length ∧ xs.length ≤ 4) (by omega), Bool.and_false]
  | succ d ih =>
    intro i hi
    have hlt : i < xs.length := by omega
    refine Ev.step (fun k => by rw [impl_wordsOk.l0]) ?_
    refine ifp (by omega) (ifp (by omega) (ifp (by omega) ?_))
    rw [onceFrom, step64 (n := xs.length) hlt hl, Int.toNat_natCast]
    refine Ev.bind (impl_text _ 8 (hs _ (rdOf_mem _ _ _ (by omega) (by omega)))) ?_
    cases textOk_ 8 (rdOf ByteArray.empty xs (i : Int)) with
    | false => exact ifn (by simp) (Ev_eq (Ev.now _) (by simp))
    | true =>
      refine ifp rfl (ifp (by omega) ?_)
      refine Ev.bind (contains_ev _ _ (by rw [List.length_take]; omega)) ?_
      cases has (xs.take i) (rdOf ByteArray.empty xs (i : Int)) with
      | true => exact ifp rfl (Ev_eq (Ev.now _) (by simp))
      | false => exact ifn (by simp) (Ev_eq (ih (i + 1) (by omega)) (by simp))

/-- Behind the names before the i-th, from the e-th on: is it one of them? -/
theorem spec_names_l1 (xs : List ByteArray) (hl : xs.length ≤ 1000000000000000) (i : Nat) (hi : i < xs.length) (b : Bool) (hnext : Ev (fun k => spec_l31Names.l0 k xs ((i + 1 : Nat) : Int)) b) : ∀ (d e : Nat), e + d = i →
    Ev (fun k => spec_l31Names.l1 k xs (i : Int) (e : Int)) ((!has ((xs.take i).drop e) (rdOf ByteArray.empty xs (i : Int))) && b) := by
  intro d
  induction d with
  | zero =>
    intro e he
    refine Ev.step (fun k => by rw [spec_l31Names.l1]) ?_
    refine ifn (by omega) ?_
    rw [step64 (n := xs.length) hi hl, List.drop_eq_nil_of_le (by rw [List.length_take]; omega), has_nil]
    exact Ev_eq hnext (by simp)
  | succ d ih =>
    intro e he
    have hlt : e < xs.length := by omega
    have hlt2 : e < (xs.take i).length := by rw [List.length_take]; omega
    refine Ev.step (fun k => by rw [spec_l31Names.l1]) ?_
    refine ifp (by omega) (ifp (by omega) (ifp (by omega) (ifp (by omega) (ifp (by omega) ?_))))
    rw [rdOf_nat _ _ _ hlt, rdOf_nat _ _ _ hi, List.drop_eq_getElem_cons hlt2, List.getElem_take, has_cons]
    by_cases h : xs[e] = xs[i]
    · refine ifp (by rw [h]) (Ev_eq (Ev.now _) ?_)
      rw [decide_eq_true h]
      simp
    · refine ifn (fun q => h (toList_inj.1 q)) ?_
      rw [step64 (n := xs.length) hlt hl]
      refine Ev_eq (ih (e + 1) (by omega)) ?_
      rw [rdOf_nat _ _ _ hi, decide_eq_false h, Bool.false_or]

theorem spec_names_l0 (xs : List ByteArray) (hl : xs.length ≤ 1000000000000000) (hs : ∀ x ∈ xs, x.size ≤ 1000000000000000) : ∀ (d i : Nat), i + d = xs.length → Ev (fun k => spec_l31Names.l0 k xs (i : Int)) (onceFrom nameOk_ xs d i) := by
  intro d
  induction d with
  | zero =>
    intro i hi
    refine Ev.step (fun k => by rw [spec_l31Names.l0]) ?_
    exact ifn (by omega) (Ev.now _)
  | succ d ih =>
    intro i hi
    have hlt : i < xs.length := by omega
    refine Ev.step (fun k => by rw [spec_l31Names.l0]) ?_
    refine ifp (by omega) (ifp (by omega) ?_)
    rw [onceFrom]
    refine Ev.bind (spec_name _ (hs _ (rdOf_mem _ _ _ (by omega) (by omega)))) ?_
    cases nameOk_ (rdOf ByteArray.empty xs (i : Int)) with
    | false => exact ifn (by simp) (Ev_eq (Ev.now _) (by simp))
    | true =>
      refine ifp rfl ?_
      exact Ev_eq (spec_names_l1 xs hl i hlt _ (ih (i + 1) (by omega)) i 0 (by omega)) (by simp)

theorem spec_texts_l1 (xs : List ByteArray) (hl : xs.length ≤ 1000000000000000) (i : Nat) (hi : i < xs.length) (b : Bool) (hnext : Ev (fun k => spec_l32Texts.l0 k xs ((i + 1 : Nat) : Int)) b) : ∀ (d e : Nat), e + d = i →
    Ev (fun k => spec_l32Texts.l1 k xs (i : Int) (e : Int)) ((!has ((xs.take i).drop e) (rdOf ByteArray.empty xs (i : Int))) && b) := by
  intro d
  induction d with
  | zero =>
    intro e he
    refine Ev.step (fun k => by rw [spec_l32Texts.l1]) ?_
    refine ifn (by omega) ?_
    rw [step64 (n := xs.length) hi hl, List.drop_eq_nil_of_le (by rw [List.length_take]; omega), has_nil]
    exact Ev_eq hnext (by simp)
  | succ d ih =>
    intro e he
    have hlt : e < xs.length := by omega
    have hlt2 : e < (xs.take i).length := by rw [List.length_take]; omega
    refine Ev.step (fun k => by rw [spec_l32Texts.l1]) ?_
    refine ifp (by omega) (ifp (by omega) (ifp (by omega) (ifp (by omega) (ifp (by omega) ?_))))
    rw [rdOf_nat _ _ _ hlt, rdOf_nat _ _ _ hi, List.drop_eq_getElem_cons hlt2, List.getElem_take, has_cons]
    by_cases h : xs[e] = xs[i]
    · refine ifp (by rw [h]) (Ev_eq (Ev.now _) ?_)
      rw [decide_eq_true h]
      simp
    · refine ifn (fun q => h (toList_inj.1 q)) ?_
      rw [step64 (n := xs.length) hlt hl]
      refine Ev_eq (ih (e + 1) (by omega)) ?_
      rw [rdOf_nat _ _ _ hi, decide_eq_false h, Bool.false_or]

theorem spec_texts_l0 (xs : List ByteArray) (hl : xs.length ≤ 1000000000000000) (hs : ∀ x ∈ xs, x.size ≤ 1000000000000000) : ∀ (d i : Nat), i + d = xs.length → Ev (fun k => spec_l32Texts.l0 k xs (i : Int)) (onceFrom (textOk_ 8) xs d i) := by
  intro d
  induction d with
  | zero =>
    intro i hi
    refine Ev.step (fun k => by rw [spec_l32Texts.l0]) ?_
    exact ifn (by omega) (Ev.now _)
  | succ d ih =>
    intro i hi
    have hlt : i < xs.length := by omega
    have sz := hs _ (rdOf_mem ByteArray.empty xs (i : Int) (by omega) (by omega))
    refine Ev.step (fun k => by rw [spec_l32Texts.l0]) ?_
    refine ifp (by omega) (ifp (by omega) ?_)
    rw [onceFrom]
    have next := spec_texts_l1 xs hl i hlt _ (ih (i + 1) (by omega)) i 0 (by omega)
    obtain ⟨y, hy⟩ : ∃ y, y = rdOf ByteArray.empty xs (i : Int) := ⟨_, rfl⟩
    rw [← hy] at sz next ⊢
    by_cases h : (y.size : Int) > 8
    · refine ifp h ?_
      refine Ev.step (fun k => by rw [spec_l32Texts.j2]) ?_
      refine ifp rfl (Ev_eq (Ev.now _) ?_)
      rw [show textOk_ 8 y = (textFrom y y.size 0 && decide (y.size ≤ 8)) from rfl, decide_eq_false (p := y.size ≤ 8) (by omega)]
      simp
    · refine ifn h ?_
      refine Ev.bind (f := fun k t => spec_l32Texts.j2 k xs (i : Int) (!t)) (spec_text_l0 y sz y.size 0 (by omega)) ?_
      refine Ev.step (fun k => by rw [spec_l32Texts.j2]) ?_
      rw [show textOk_ 8 y = (textFrom y y.size 0 && decide (y.size ≤ 8)) from rfl, decide_eq_true (p := y.size ≤ 8) (by omega), Bool.and_true]
      cases textFrom y y.size 0 with
      | false => exact ifp rfl (Ev_eq (Ev.now _) (by simp))
      | true => exact ifn (by simp) (Ev_eq next (by simp))

theorem spec_texts (xs : List ByteArray) (hl : xs.length ≤ 1000000000000000) (hs : ∀ x ∈ xs, x.size ≤ 1000000000000000) : Ev (fun k => spec_l32Texts.f k xs) (onceFrom (textOk_ 8) xs xs.length 0 && decide (1 ≤ xs.length ∧ xs.length ≤ 4)) := by
  unfold spec_l32Texts.f
  by_cases h : (xs.length : Int) < 1
  · refine ifp h ?_
    refine Ev.step (fun k => by rw [spec_l32Texts.j0]) ?_
    refine ifp rfl (Ev_eq (Ev.now _) ?_)
    rw [decide_eq_false (p := 1 ≤ xs.length ∧ xs.length ≤ 4) (by omega), Bool.and_false]
  · refine ifn h ?_
    refine Ev.step (fun k => by rw [spec_l32Texts.j0]) ?_
    by_cases h2 : (xs.length : Int) > 4
    · refine ifp (decide_eq_true h2) (Ev_eq (Ev.now _) ?_)
      rw [decide_eq_false (p := 1 ≤ xs.length ∧ xs.length ≤ 4) (by omega), Bool.and_false]
    · refine ifn (by simpa using h2) ?_
      rw [decide_eq_true (p := 1 ≤ xs.length ∧ xs.length ≤ 4) (by omega), Bool.and_true]
      exact spec_texts_l0 xs hl hs xs.length 0 (by omega)

/-! ### Is a schema ok? -/
def locOk (s : SI) : Bool :=
  if s.f0 = 1 ∨ s.f0 = 2 ∨ s.f0 = 3 then decide (s.f1 = 0 ∧ s.f2 = 0 ∧ s.f3.length = 0 ∧ s.f4.length = 0 ∧ s.f5.length = 0)
  else if s.f0 = 4 then decide ((0 ≤ s.f1 ∧ s.f1 ≤ s.f2 ∧ s.f2 ≤ 6) ∧ s.f3.length = 0 ∧ s.f4.length = 0 ∧ s.f5.length = 0)
  else if s.f0 = 5 then decide ((0 ≤ s.f1 ∧ s.f1 ≤ s.f2 ∧ s.f2 ≤ 6) ∧ s.f3.length = 0 ∧ s.f4.length = 0 ∧ s.f5.length = 1)
  else if s.f0 = 6 then decide (s.f1 = 0 ∧ s.f2 = 0 ∧ s.f3.length = s.f5.length ∧ s.f4.length = s.f5.length) && onceFrom nameOk_ s.f3 s.f3.length 0
  else if s.f0 = 7 then decide (s.f1 = 0 ∧ s.f2 = 0 ∧ s.f3.length = 0 ∧ s.f4.length = 0 ∧ 2 ≤ s.f5.length)
  else if s.f0 = 8 then decide (s.f1 = 0 ∧ s.f2 = 0 ∧ s.f4.length = 0 ∧ s.f5.length = 0) && (onceFrom (textOk_ 8) s.f3 s.f3.length 0 && decide (1 ≤ s.f3.length ∧ s.f3.length ≤ 4))
  else false

theorem locOk_span {s : SI} (h : locOk s = true) : 0 ≤ s.f1 ∧ s.f1 ≤ s.f2 ∧ s.f2 ≤ 6 := by
  unfold locOk at h
  repeat' split at h
  all_goals (first | (simp at h; done) | (simp only [Bool.and_eq_true, decide_eq_true_eq] at h; omega))

def cntL (c : SI → Int) : List SI → Int
  | [] => 0
  | x :: l => c x + cntL c l

def cnt : Nat → SI → Int
  | 0, _ => 11
  | d + 1, s => if s.f5.length > 4 then 11 else 1 + cntL (cnt d) s.f5

def frm : Nat → SI → Bool
  | 0, _ => true
  | d + 1, s => s.f5.all (frm d) && locOk s

theorem cntL_ge (c : SI → Int) (h : ∀ x, 1 ≤ c x) : ∀ l, (l.length : Int) ≤ cntL c l
  | [] => by simp [cntL]
  | x :: l => by
    have := cntL_ge c h l
    have := h x
    simp only [cntL, List.length_cons]
    omega

theorem cntL_le (c : SI → Int) (M : Int) (h : ∀ x, c x ≤ M) : ∀ l, cntL c l ≤ M * (l.length : Int)
  | [] => by simp [cntL]
  | x :: l => by
    have h1 := cntL_le c M h l
    have h2 := h x
    simp only [cntL, List.length_cons]
    have : M * ((l.length + 1 : Nat) : Int) = M * (l.length : Int) + M := by rw [Int.natCast_add, Int.mul_add]; simp
    omega

theorem cnt_ge : ∀ d s, 1 ≤ cnt d s
  | 0, _ => by simp [cnt]
  | d + 1, s => by
    have := cntL_ge (cnt d) (cnt_ge d) s.f5
    simp only [cnt]
    split <;> omega

def top : Nat → Int
  | 0 => 11
  | d + 1 => 11 + 4 * top d

theorem top_ge : ∀ d, 11 ≤ top d
  | 0 => by simp [top]
  | d + 1 => by have := top_ge d; simp only [top]; omega

theorem cnt_le : ∀ d s, cnt d s ≤ top d
  | 0, _ => by simp [cnt, top]
  | d + 1, s => by
    have h1 := cntL_le (cnt d) (top d) (cnt_le d) s.f5
    have h2 := top_ge d
    simp only [cnt, top]
    split
    · omega
    · rename_i h
      have h3 : top d * (s.f5.length : Int) ≤ top d * 4 := Int.mul_le_mul_of_nonneg_left (by omega) (by omega)
      omega

theorem top_mono {d e : Nat} (h : d ≤ e) : top d ≤ top e := by
  induction h with
  | refl => exact Int.le_refl _
  | step _ ih => simp only [top]; have := top_ge (by assumption); omega

theorem spec_size_l0 (d : Nat) (hd : d ≤ 3) (s : SI) (hl : s.f5.length ≤ 4) (ih : ∀ y : SI, Ev (fun k => spec_l32Size.f k y.f0 y.f1 y.f2 y.f3 y.f4 y.f5 (d : Int)) (cnt d y)) : ∀ (n i : Nat) (acc : Int), i + n = s.f5.length → 0 ≤ acc → acc ≤ 1 + top d * (i : Int) →
    Ev (fun k => spec_l32Size.l0 k ((d + 1 : Nat) : Int) acc (i : Int) s.f0 s.f1 s.f2 s.f3 s.f4 s.f5) (acc + cntL (cnt d) (s.f5.drop i)) := by
  have ht : top d ≤ 5000 := Int.le_trans (top_mono hd) (by decide)
  have hw : wrap64 (((d + 1 : Nat) : Int) - 1) = (d : Int) := by rw [w64 (by omega) (by omega)]; omega
  intro n
  induction n with
  | zero =>
    intro i acc hi h0 h1
    refine Ev.step (fun k => by rw [spec_l32Size.l0]) ?_
    rw [List.drop_eq_nil_of_le (by omega)]
    exact ifn (by omega) (Ev_eq (Ev.now _) (by simp [cntL]))
  | succ n ihn =>
    intro i acc hi h0 h1
    have hlt : i < s.f5.length := by omega
    have hge := cnt_ge d s.f5[i]
    have hle := cnt_le d s.f5[i]
    have hi4 : top d * (i : Int) ≤ 5000 * 4 := by
      have h2 : top d * (i : Int) ≤ top d * 4 := Int.mul_le_mul_of_nonneg_left (by omega) (by have := top_ge d; omega)
      omega
    have hwa : wrap64 (acc + cnt d s.f5[i]) = acc + cnt d s.f5[i] := w64 (by omega) (by omega)
    refine Ev.step (fun k => by rw [spec_l32Size.l0]) ?_
    refine ifp (by omega) (ifp (by omega) ?_)
    rw [si_nat _ _ hlt, hw, step64 (n := s.f5.length) hlt (by omega)]
    refine Ev.bind (ih s.f5[i]) ?_
    rw [hwa]
    refine Ev_eq (ihn (i + 1) _ (by omega) (by omega) ?_) ?_
    · have : top d * ((i + 1 : Nat) : Int) = top d * (i : Int) + top d := by rw [Int.natCast_add, Int.mul_add]; simp
      omega
    · rw [List.drop_eq_getElem_cons hlt, cntL]
      omega

theorem spec_size : ∀ (d : Nat), d ≤ 4 → ∀ (s : SI), Ev (fun k => spec_l32Size.f k s.f0 s.f1 s.f2 s.f3 s.f4 s.f5 (d : Int)) (cnt d s)
  | 0, _, s => by
    refine Ev.step (fun k => by rw [spec_l32Size.f]) ?_
    refine ifp (by omega) ?_
    refine Ev.step (fun k => by rw [spec_l32Size.j0]) ?_
    exact ifp rfl (Ev.now _)
  | d + 1, hd, s => by
    refine Ev.step (fun k => by rw [spec_l32Size.f]) ?_
    refine ifn (by omega) ?_
    refine Ev.step (fun k => by rw [spec_l32Size.j0]) ?_
    rw [cnt]
    by_cases h : s.f5.length > 4
    · rw [if_pos h]
      exact ifp (decide_eq_true (by omega)) (Ev.now _)
    · rw [if_neg h]
      refine ifn (by simp; omega) ?_
      exact spec_size_l0 d (by omega) s (by omega) (spec_size d (by omega)) s.f5.length 0 1 (by omega) (by omega) (by omega)

theorem spec_tail_core (a b c : Int) (d : List ByteArray) (e : List Bool) (f : List SI) (N T : Bool) (m : Nat) (hN2 : spec_l31Names.f m d = some N) (hT : spec_l32Texts.f m d = some T)
    (g0 : (-9223372036854775808 ≤ b ∧ b ≤ 9223372036854775807) ∧ -9223372036854775808 ≤ c ∧ c ≤ 9223372036854775807) (g1 : d.length ≤ 1048576) (g3 : e.length ≤ 1048576) (g4 : f.length ≤ 1048576) :
    spec_l32Form.j1 (m + 3) (decide (0 ≤ b ∧ b ≤ c ∧ c ≤ 6)) a b c d e f = some (
      if a = 1 ∨ a = 2 ∨ a = 3 then decide (b = 0 ∧ c = 0 ∧ d.length = 0 ∧ e.length = 0 ∧ f.length = 0)
      else if a = 4 then decide ((0 ≤ b ∧ b ≤ c ∧ c ≤ 6) ∧ d.length = 0 ∧ e.length = 0 ∧ f.length = 0)
      else if a = 5 then decide ((0 ≤ b ∧ b ≤ c ∧ c ≤ 6) ∧ d.length = 0 ∧ e.length = 0 ∧ f.length = 1)
      else if a = 6 then decide (b = 0 ∧ c = 0 ∧ d.length = f.length ∧ e.length = f.length) && N
      else if a = 7 then decide (b = 0 ∧ c = 0 ∧ d.length = 0 ∧ e.length = 0 ∧ 2 ≤ f.length)
      else if a = 8 then decide (b = 0 ∧ c = 0 ∧ e.length = 0 ∧ f.length = 0) && T
      else false) := by
  have w1 : wrap64 ((d.length : Int) + (e.length : Int)) = (d.length : Int) + (e.length : Int) := w64 (by omega) (by omega)
  have w2 : wrap64 ((d.length : Int) + (e.length : Int) + (f.length : Int)) = (d.length : Int) + (e.length : Int) + (f.length : Int) := w64 (by omega) (by omega)
  have w3 : wrap64 ((e.length : Int) + (f.length : Int)) = (e.length : Int) + (f.length : Int) := w64 (by omega) (by omega)
  have wb : 0 ≤ b → 0 ≤ c → (wrap64 (b + c) = 0 ↔ (b = 0 ∧ c = 0)) := fun h1 h2 => by unfold wrap64; omega
  clear g0
  obtain ⟨m3, hm3⟩ : ∃ n, n = d.length := ⟨_, rfl⟩
  obtain ⟨m4, hm4⟩ : ∃ n, n = e.length := ⟨_, rfl⟩
  obtain ⟨m5, hm5⟩ : ∃ n, n = f.length := ⟨_, rfl⟩
  have q1 : ((m3 : Int) + (m4 : Int) + (m5 : Int) == 0) = decide (m3 = 0 ∧ m4 = 0 ∧ m5 = 0) := by rw [Bool.eq_iff_iff, beq_iff_eq, decide_eq_true_eq]; omega
  have q2 : ((m3 : Int) + (m4 : Int) = 0) ↔ (m3 = 0 ∧ m4 = 0) := by omega
  have q3 : ((m4 : Int) + (m5 : Int) = 0) ↔ (m4 = 0 ∧ m5 = 0) := by omega
  have q4 : ((m5 : Int) == 1) = decide (m5 = 1) := by rw [Bool.eq_iff_iff, beq_iff_eq, decide_eq_true_eq]; omega
  have q5 : ((m3 : Int) = (m5 : Int)) ↔ (m3 = m5) := by omega
  have q6 : ((m4 : Int) = (m5 : Int)) ↔ (m4 = m5) := by omega
  have q7 : decide ((m5 : Int) ≥ 2) = decide (2 ≤ m5) := by rw [decide_eq_decide]; omega
  simp only [spec_l32Form.j1, spec_l32Form.j2, spec_l32Form.j3, hN2, hT, w1, w2, w3, Option.bind_some]
  simp only [← hm3, ← hm4, ← hm5, q1, q2, q3, q4, q5, q6, q7]
  clear hT hN2 w1 w2 w3 q1 q2 q3 q4 q5 q6 q7 hm3 hm4 hm5 g1 g3 g4
  by_cases hb : b < 0
  · have z1 : ¬ (0 ≤ b ∧ b ≤ c ∧ c ≤ 6) := by omega
    have z2 : ¬ b = 0 := by omega
    simp only [hb, z1, z2, if_true, false_and, decide_false, Bool.false_and, ite_self, Bool.and_false]
  by_cases hc : c < 0
  · have z1 : ¬ (0 ≤ b ∧ b ≤ c ∧ c ≤ 6) := by omega
    have z2 : ¬ c = 0 := by omega
    simp only [hb, hc, z1, z2, if_true, if_false, false_and, and_false, decide_false, decide_true, Bool.false_and, ite_self, Bool.and_false]
  have hw := wb (by omega) (by omega)
  simp only [hb, hc, if_false, decide_false, Bool.false_eq_true, hw]
  clear hw wb hb hc
  obtain ⟨S, hS⟩ : ∃ S, S = decide (0 ≤ b ∧ b ≤ c ∧ c ≤ 6) := ⟨_, rfl⟩
  by_cases k4 : a = 4
  · subst k4
    simp only [← hS, if_true, show ¬ ((4 : Int) = 1) from by decide, show ¬ ((4 : Int) = 2) from by decide, show ¬ ((4 : Int) = 3) from by decide, show ((4 : Int) == 3) = false from rfl, or_self, if_false, Bool.false_eq_true]
    cases S with
    | true => have := of_decide_eq_true hS.symm; simp only [this, if_true, true_and]
    | false => have := of_decide_eq_false hS.symm; simp only [this, if_false, false_and, decide_false, Bool.false_eq_true]
  by_cases k5 : a = 5
  · subst k5
    simp only [← hS, if_true, show ¬ ((5 : Int) = 4) from by decide, show ¬ ((5 : Int) = 1) from by decide, show ¬ ((5 : Int) = 2) from by decide, show ¬ ((5 : Int) = 3) from by decide, show ((5 : Int) == 3) = false from rfl, or_self, if_false, Bool.false_eq_true]
    cases S with
    | true =>
      have := of_decide_eq_true hS.symm
      by_cases hz : m3 = 0 ∧ m4 = 0
      · simp only [this, hz, if_true, true_and, and_self]
      · have hn : ¬ (m3 = 0 ∧ m4 = 0 ∧ m5 = 1) := fun h => hz ⟨h.1, h.2.1⟩
        simp only [this, hz, hn, if_true, if_false, true_and, decide_false]
    | false => have := of_decide_eq_false hS.symm; simp only [this, if_false, false_and, decide_false, Bool.false_eq_true]
  simp only [k4, k5, if_false]
  by_cases hz : b = 0 ∧ c = 0
  · obtain ⟨rfl, rfl⟩ := hz
    simp only [and_self, if_true, true_and]
    by_cases k1 : a = 1
    · subst k1
      simp only [if_true, true_or, beq_self_eq_true]
    by_cases k2 : a = 2
    · subst k2
      simp only [if_true, if_false, k1, true_or, or_true, beq_self_eq_true]
    by_cases k3 : a = 3
    · subst k3
      simp only [if_true, if_false, k1, k2, or_true, beq_self_eq_true]
    have k3' : (a == 3) = false := by simpa using k3
    simp only [k1, k2, k3, k3', if_false, or_self, Bool.false_eq_true]
    by_cases k6 : a = 6
    · subst k6
      simp only [if_true]
      by_cases h1 : m3 = m5
      · by_cases h2 : m4 = m5
        · simp only [h1, h2, if_true, and_self, decide_true, Bool.true_and]
        · simp only [h1, h2, if_true, if_false, and_false, decide_false, Bool.false_and]
      · simp only [h1, if_false, false_and, decide_false, Bool.false_and]
    simp only [k6, if_false]
    by_cases k7 : a = 7
    · subst k7
      simp only [if_true]
      by_cases hz : m3 = 0 ∧ m4 = 0
      · simp only [hz, and_self, if_true, true_and]
      · have hn : ¬ (m3 = 0 ∧ m4 = 0 ∧ 2 ≤ m5) := fun h => hz ⟨h.1, h.2.1⟩
        simp only [hz, hn, if_false, decide_false]
    simp only [k7, if_false]
    by_cases k8 : a = 8
    · subst k8
      simp only [if_true]
      by_cases hz : m4 = 0 ∧ m5 = 0
      · simp only [hz, and_self, if_true, decide_true, Bool.true_and]
      · simp only [hz, if_false, decide_false, Bool.false_and]
    simp only [k8, if_false]
  · have hn : ∀ p : Prop, ¬ (b = 0 ∧ c = 0 ∧ p) := fun p h => hz ⟨h.1, h.2.1⟩
    simp only [hz, hn, if_false, if_true, decide_false, Bool.false_and, ite_self]

theorem spec_tail (s : SI) (hg : Good s) : Ev (fun k => spec_l32Form.j1 k (decide (0 ≤ s.f1 ∧ s.f1 ≤ s.f2 ∧ s.f2 ≤ 6)) s.f0 s.f1 s.f2 s.f3 s.f4 s.f5) (locOk s) := by
  obtain ⟨g0, g1, g2, g3, g4, _⟩ := hg.parts
  obtain ⟨K1, hN⟩ := spec_names_l0 s.f3 (by omega) (fun x hx => by have := g2 x hx; omega) s.f3.length 0 (by omega)
  obtain ⟨K2, hT⟩ := spec_texts s.f3 (by omega) (fun x hx => by have := g2 x hx; omega)
  refine ⟨K1 + K2 + 3, fun k hk => ?_⟩
  obtain ⟨m, rfl⟩ : ∃ m, k = m + 3 := ⟨k - 3, by omega⟩
  exact spec_tail_core s.f0 s.f1 s.f2 s.f3 s.f4 s.f5 _ _ m (hN m (by omega)) (hT m (by omega)) g0 g1 g3 g4

theorem spec_form_l0 (d : Nat) (s : SI) (hg : Good s) (ih : ∀ y ∈ s.f5, Ev (fun k => spec_l32Form.f k y.f0 y.f1 y.f2 y.f3 y.f4 y.f5) (frm d y)) : ∀ (n i : Nat), i + n = s.f5.length →
    Ev (fun k => spec_l32Form.l0 k (i : Int) s.f0 s.f1 s.f2 s.f3 s.f4 s.f5) ((s.f5.drop i).all (frm d) && locOk s) := by
  obtain ⟨_, _, _, _, g4, _⟩ := hg.parts
  intro n
  induction n with
  | zero =>
    intro i hi
    refine Ev.step (fun k => by rw [spec_l32Form.l0]) ?_
    refine ifn (by omega) ?_
    rw [List.drop_eq_nil_of_le (by omega), List.all_nil, Bool.true_and]
    have ht := spec_tail s hg
    by_cases h1 : s.f1 ≥ 0
    · refine b0 (a := decide (s.f1 ≤ 6)) (by unfold spec_l6In.f; rw [if_pos h1]) ?_
      by_cases h2 : s.f1 ≤ 6
      · refine ifp (decide_eq_true h2) ?_
        by_cases h3 : s.f2 ≥ s.f1
        · refine b0 (a := decide (s.f2 ≤ 6)) (by unfold spec_l6In.f; rw [if_pos h3]) ?_
          rw [show decide (s.f2 ≤ 6) = decide (0 ≤ s.f1 ∧ s.f1 ≤ s.f2 ∧ s.f2 ≤ 6) by rw [decide_eq_decide]; omega]
          exact ht
        · refine b0 (a := false) (by unfold spec_l6In.f; rw [if_neg h3]) ?_
          rw [show false = decide (0 ≤ s.f1 ∧ s.f1 ≤ s.f2 ∧ s.f2 ≤ 6) from (decide_eq_false (by omega)).symm]
          exact ht
      · refine ifn (by simpa using h2) ?_
        rw [show false = decide (0 ≤ s.f1 ∧ s.f1 ≤ s.f2 ∧ s.f2 ≤ 6) from (decide_eq_false (by omega)).symm]
        exact ht
    · refine b0 (a := false) (by unfold spec_l6In.f; rw [if_neg h1]) ?_
      refine ifn (by simp) ?_
      rw [show false = decide (0 ≤ s.f1 ∧ s.f1 ≤ s.f2 ∧ s.f2 ≤ 6) from (decide_eq_false (by omega)).symm]
      exact ht
  | succ n ihn =>
    intro i hi
    have hlt : i < s.f5.length := by omega
    refine Ev.step (fun k => by rw [spec_l32Form.l0]) ?_
    refine ifp (by omega) (ifp (by omega) ?_)
    rw [si_nat _ _ hlt, step64 (n := s.f5.length) hlt (by omega), List.drop_eq_getElem_cons hlt, List.all_cons]
    refine Ev.bind (ih s.f5[i] (List.getElem_mem hlt)) ?_
    cases frm d s.f5[i] with
    | false => exact ifn (by simp) (Ev_eq (Ev.now _) (by simp))
    | true => exact ifp rfl (Ev_eq (ihn (i + 1) (by omega)) (by simp))

theorem cntL_mem {c : SI → Int} (h : ∀ x, 1 ≤ c x) : ∀ {l : List SI} {y : SI}, y ∈ l → c y ≤ cntL c l
  | x :: l, y, hy => by
    have h1 := cntL_ge c h l
    rcases List.mem_cons.1 hy with rfl | hy
    · simp only [cntL]; omega
    · have := cntL_mem h hy
      have := h x
      simp only [cntL]; omega

theorem cnt_small {d : Nat} {s : SI} (h : cnt (d + 1) s ≤ 10) : s.f5.length ≤ 4 ∧ 1 + cntL (cnt d) s.f5 ≤ 10 := by
  simp only [cnt] at h
  split at h
  · omega
  · exact ⟨by omega, h⟩

theorem spec_form : ∀ (d : Nat) (s : SI), Good s → cnt d s ≤ 10 → Ev (fun k => spec_l32Form.f k s.f0 s.f1 s.f2 s.f3 s.f4 s.f5) (frm d s)
  | 0, s, _, h => by simp [cnt] at h
  | d + 1, s, hg, h => by
    have h2 := (cnt_small h).2
    refine Ev.step (fun k => by rw [spec_l32Form.f]) ?_
    rw [frm]
    have := spec_form_l0 d s hg (fun y hy => spec_form d y (hg.parts.2.2.2.2.2 y hy) (by have := cntL_mem (cnt_ge d) hy; omega)) s.f5.length 0 (by omega)
    rwa [List.drop_zero] at this

theorem spec_ok (s : SI) (hg : Good s) : Ev (fun k => spec_SchemaOk.f k s.f0 s.f1 s.f2 s.f3 s.f4 s.f5) (decide (cnt 4 s ≤ 10) && frm 4 s) := by
  unfold spec_SchemaOk.f
  refine Ev.bind (spec_size 4 (by omega) s) ?_
  by_cases h : cnt 4 s ≤ 10
  · refine ifp h ?_
    refine Ev.bind (spec_form 4 s hg h) (Ev_eq (Ev.now _) ?_)
    rw [decide_eq_true h, Bool.true_and]
  · refine ifn h (Ev_eq (Ev.now _) ?_)
    rw [decide_eq_false h, Bool.false_and]

theorem impl_core (a b c : Int) (d : List ByteArray) (e : List Bool) (f : List SI) (N T n : Bool) (m : Nat) (x1 left : Int) (hN : impl_namesOk.f (m + 1) d = some N) (hT : impl_wordsOk.f (m + 1) d = some T) (hn : n = decide (0 < d.length ∨ 0 < e.length))
    (h1 : 0 ≤ b) (h2 : b ≤ c) (h3 : c ≤ 6) :
    impl_Schema_formed.j1 (m + 3) x1 (c != 0) n left a b c d e f = impl_Schema_formed.l0 m x1 (f.length : Int) (
      if a = 1 ∨ a = 2 ∨ a = 3 then decide (b = 0 ∧ c = 0 ∧ d.length = 0 ∧ e.length = 0 ∧ f.length = 0)
      else if a = 4 then decide ((0 ≤ b ∧ b ≤ c ∧ c ≤ 6) ∧ d.length = 0 ∧ e.length = 0 ∧ f.length = 0)
      else if a = 5 then decide ((0 ≤ b ∧ b ≤ c ∧ c ≤ 6) ∧ d.length = 0 ∧ e.length = 0 ∧ f.length = 1)
      else if a = 6 then decide (b = 0 ∧ c = 0 ∧ d.length = f.length ∧ e.length = f.length) && N
      else if a = 7 then decide (b = 0 ∧ c = 0 ∧ d.length = 0 ∧ e.length = 0 ∧ 2 ≤ f.length)
      else if a = 8 then decide (b = 0 ∧ c = 0 ∧ e.length = 0 ∧ f.length = 0) && T
      else false) 0 left a b c d e f := by
  have hs : (0 ≤ b ∧ b ≤ c ∧ c ≤ 6) := ⟨h1, h2, h3⟩
  have q0 : ((f.length : Int) == 0) = decide (f.length = 0) := by rw [Bool.eq_iff_iff, beq_iff_eq, decide_eq_true_eq]; omega
  have q1 : ((f.length : Int) == 1) = decide (f.length = 1) := by rw [Bool.eq_iff_iff, beq_iff_eq, decide_eq_true_eq]; omega
  have q2 : decide ((f.length : Int) ≥ 2) = decide (2 ≤ f.length) := by rw [decide_eq_decide]; omega
  have q3 : ((d.length : Int) = (f.length : Int)) ↔ (d.length = f.length) := by omega
  have q4 : ((e.length : Int) == (f.length : Int)) = decide (e.length = f.length) := by rw [Bool.eq_iff_iff, beq_iff_eq, decide_eq_true_eq]; omega
  have q5 : ((f.length : Int) = 0) ↔ (f.length = 0) := by omega
  have q6 : ((e.length : Int) = 0) ↔ (e.length = 0) := by omega
  simp only [impl_Schema_formed.j1, impl_Schema_formed.j2, impl_Schema_formed.j3, hN, hT, Option.bind_some, q0, q1, q2, q3, q4, q5, q6, hs, true_and]
  clear hN hT q0 q1 q2 q3 q4 q5 q6 hs
  have hc : (c != 0) = false → b = 0 ∧ c = 0 := by
    intro h
    have : c = 0 := by simpa using h
    omega
  have hc' : (c != 0) = true → ¬ c = 0 := fun h => by simpa using h
  have hn1 : n = true → ¬ (d.length = 0 ∧ e.length = 0) := fun h => by rw [h] at hn; have := of_decide_eq_true hn.symm; omega
  have hn2 : n = false → d.length = 0 ∧ e.length = 0 := fun h => by rw [h] at hn; have := of_decide_eq_false hn.symm; omega
  clear hn
  have eA : ∀ p : Prop, n = true → ¬ (d.length = 0 ∧ e.length = 0 ∧ p) := fun p h q => hn1 h ⟨q.1, q.2.1⟩
  have eB : ∀ p : Prop, (c != 0) = true → ¬ (b = 0 ∧ c = 0 ∧ p) := fun p h q => hc' h q.2.1
  obtain ⟨Z, hZ⟩ : ∃ Z, Z = (c != 0) := ⟨_, rfl⟩
  rw [← hZ] at hc hc' eB ⊢
  by_cases k4 : a = 4
  · subst k4
    simp only [show ¬ ((4 : Int) = 1) from by decide, show ¬ ((4 : Int) = 2) from by decide, show ¬ ((4 : Int) = 3) from by decide, show ((4 : Int) == 3) = false from rfl, or_self, if_false, if_true, Bool.false_eq_true]
    cases n with
    | true => simp only [eA _ rfl, if_true, decide_false]
    | false => obtain ⟨z1, z2⟩ := hn2 rfl; simp only [z1, z2, true_and, if_false, Bool.false_eq_true]
  by_cases k5 : a = 5
  · subst k5
    simp only [show ¬ ((5 : Int) = 1) from by decide, show ¬ ((5 : Int) = 2) from by decide, show ¬ ((5 : Int) = 3) from by decide, show ¬ ((5 : Int) = 4) from by decide, show ((5 : Int) == 3) = false from rfl, or_self, if_false, if_true, Bool.false_eq_true]
    cases n with
    | true => simp only [eA _ rfl, if_true, decide_false]
    | false => obtain ⟨z1, z2⟩ := hn2 rfl; simp only [z1, z2, true_and, if_false, Bool.false_eq_true]
  simp only [k4, k5, if_false]
  have three : (a = 1 ∨ a = 2 ∨ a = 3) → (if Z = true then impl_Schema_formed.l0 m x1 (f.length : Int) false 0 left a b c d e f else if n = true then impl_Schema_formed.l0 m x1 (f.length : Int) false 0 left a b c d e f else impl_Schema_formed.l0 m x1 (f.length : Int) (decide (f.length = 0)) 0 left a b c d e f) = impl_Schema_formed.l0 m x1 (f.length : Int) (decide (b = 0 ∧ c = 0 ∧ d.length = 0 ∧ e.length = 0 ∧ f.length = 0)) 0 left a b c d e f := by
    intro _
    cases Z with
    | true => simp only [eB _ rfl, if_true, decide_false]
    | false =>
      obtain ⟨y1, y2⟩ := hc rfl
      cases n with
      | true => simp only [eA _ rfl, if_true, if_false, decide_false, and_false, Bool.false_eq_true]
      | false => obtain ⟨z1, z2⟩ := hn2 rfl; simp only [y1, y2, z1, z2, true_and, if_false, Bool.false_eq_true]
  by_cases k1 : a = 1
  · have := three (Or.inl k1)
    subst k1
    simpa only [if_true, true_or, beq_self_eq_true] using this
  by_cases k2 : a = 2
  · have := three (Or.inr (Or.inl k2))
    subst k2
    simpa only [if_true, if_false, k1, true_or, or_true, beq_self_eq_true] using this
  by_cases k3 : a = 3
  · have := three (Or.inr (Or.inr k3))
    subst k3
    simpa only [if_true, if_false, k1, k2, or_true, beq_self_eq_true] using this
  have k3' : (a == 3) = false := by simpa using k3
  simp only [k1, k2, k3, k3', if_false, or_self, Bool.false_eq_true]
  by_cases k6 : a = 6
  · subst k6
    simp only [if_true]
    cases Z with
    | true => simp only [eB _ rfl, if_true, decide_false, Bool.false_and]
    | false =>
      obtain ⟨y1, y2⟩ := hc rfl
      cases N with
      | false => simp only [if_false, Bool.false_eq_true, Bool.and_false]
      | true =>
        by_cases g1 : d.length = f.length
        · simp only [y1, y2, g1, true_and, if_true, if_false, Bool.false_eq_true, Bool.and_true]
        · simp only [g1, if_true, if_false, false_and, and_false, decide_false, Bool.false_eq_true, Bool.false_and]
  simp only [k6, if_false]
  by_cases k7 : a = 7
  · subst k7
    simp only [if_true]
    cases Z with
    | true => simp only [eB _ rfl, if_true, decide_false]
    | false =>
      obtain ⟨y1, y2⟩ := hc rfl
      cases n with
      | true => simp only [eA _ rfl, if_true, if_false, decide_false, and_false, Bool.false_eq_true]
      | false => obtain ⟨z1, z2⟩ := hn2 rfl; simp only [y1, y2, z1, z2, true_and, if_false, Bool.false_eq_true]
  simp only [k7, if_false]
  by_cases k8 : a = 8
  · subst k8
    simp only [if_true]
    cases Z with
    | true => simp only [eB _ rfl, if_true, decide_false, Bool.false_and]
    | false =>
      obtain ⟨y1, y2⟩ := hc rfl
      by_cases g1 : f.length = 0
      · by_cases g2 : e.length = 0
        · simp only [y1, y2, g1, g2, and_self, if_true, if_false, decide_true, Bool.true_and, Bool.false_eq_true]
        · simp only [g1, g2, if_true, if_false, false_and, and_false, decide_false, Bool.false_and, Bool.false_eq_true]
      · simp only [g1, if_true, if_false, and_false, decide_false, Bool.false_and, Bool.false_eq_true]
  simp only [k8, if_false]

/-- One schema, with so much left. -/
def FormedOk (d : Nat) (s : SI) : Prop := ∀ left : Int, 0 ≤ left → left ≤ 10 → ∃ r : Bool × Int, Ev (fun k => impl_Schema_formed.f k s.f0 s.f1 s.f2 s.f3 s.f4 s.f5 (5 - (d : Int)) left) r ∧ (r.1 = true ↔ cnt d s ≤ left ∧ frm d s = true) ∧ (r.1 = true → r.2 = left - cnt d s)

theorem impl_loop (d : Nat) (hd : d ≤ 3) (s : SI) (hl : s.f5.length ≤ 4) (ih : ∀ y ∈ s.f5, FormedOk d y) : ∀ (n i : Nat) (ok : Bool) (left : Int), i + n = s.f5.length → (ok = true → 0 ≤ left ∧ left ≤ 10) →
    ∃ r : Bool × Int, Ev (fun k => impl_Schema_formed.l0 k (5 - ((d + 1 : Nat) : Int)) (s.f5.length : Int) ok (i : Int) left s.f0 s.f1 s.f2 s.f3 s.f4 s.f5) r ∧ (r.1 = true ↔ ok = true ∧ cntL (cnt d) (s.f5.drop i) ≤ left ∧ (s.f5.drop i).all (frm d) = true) ∧ (r.1 = true → r.2 = left - cntL (cnt d) (s.f5.drop i)) := by
  have hw : wrap64 (5 - ((d + 1 : Nat) : Int) + 1) = 5 - (d : Int) := by rw [w64 (by omega) (by omega)]; omega
  intro n
  induction n with
  | zero =>
    intro i ok left hi hok
    refine ⟨(ok, left), ?_, ?_, ?_⟩
    · refine Ev.step (fun k => by rw [impl_Schema_formed.l0]) ?_
      exact ifn (by omega) (Ev.now _)
    · rw [List.drop_eq_nil_of_le (by omega)]
      simp only [cntL, List.all_nil, and_true]
      exact ⟨fun h => ⟨h, (hok h).1⟩, fun h => h.1⟩
    · rw [List.drop_eq_nil_of_le (by omega)]
      intro _
      simp [cntL]
  | succ n ihn =>
    intro i ok left hi hok
    have hlt : i < s.f5.length := by omega
    cases ok with
    | false =>
      refine ⟨(false, left), ?_, ?_, ?_⟩
      · refine Ev.step (fun k => by rw [impl_Schema_formed.l0]) ?_
        exact ifp (by omega) (ifn (by simp) (Ev.now _))
      · simp
      · intro h; simp at h
    | true =>
      obtain ⟨h0, h1⟩ := hok rfl
      obtain ⟨r1, hr1, e1, e2⟩ := ih s.f5[i] (List.getElem_mem hlt) left h0 h1
      obtain ⟨ok1, left1⟩ := r1
      have hge := cnt_ge d s.f5[i]
      have hrest := cntL_ge (cnt d) (cnt_ge d) (s.f5.drop (i + 1))
      obtain ⟨r, hr, e3, e4⟩ := ihn (i + 1) ok1 left1 (by omega) (fun h => by
        have := (e1.1 h).1
        have := e2 h
        simp only at this
        omega)
      refine ⟨r, ?_, ?_, ?_⟩
      · refine Ev.step (fun k => by rw [impl_Schema_formed.l0]) ?_
        refine ifp (by omega) (ifp rfl (ifp (by omega) (ifp (by omega) ?_)))
        rw [si_nat _ _ hlt, hw, step64 (n := s.f5.length) hlt (by omega)]
        exact Ev.bind hr1 hr
      · rw [e3, List.drop_eq_getElem_cons hlt, cntL, List.all_cons, Bool.and_eq_true]
        constructor
        · rintro ⟨q1, q2, q3⟩
          have z1 := e1.1 q1
          have z2 := e2 q1
          simp only at z2
          exact ⟨rfl, by omega, z1.2, q3⟩
        · rintro ⟨_, q2, q3, q4⟩
          have q1 : ok1 = true := e1.2 ⟨by omega, q3⟩
          have z2 := e2 q1
          simp only at z2
          exact ⟨q1, by omega, q4⟩
      · intro h
        have q := e3.1 h
        have z2 := e2 q.1
        have z4 := e4 h
        simp only at z2
        rw [List.drop_eq_getElem_cons hlt, cntL]
        omega

theorem impl_formed : ∀ (d : Nat), d ≤ 4 → ∀ (s : SI), Good s → FormedOk d s
  | 0, _, s, hg => by
    intro left h0 h1
    have hwl : wrap64 (left - 1) = left - 1 := w64 (by omega) (by omega)
    refine ⟨(false, left - 1), ?_, ?_, ?_⟩
    · refine Ev.step (fun k => by rw [impl_Schema_formed.f]) ?_
      rw [hwl]
      have no : Ev (fun k => impl_Schema_formed.j0 k (5 - ((0 : Nat) : Int)) true (left - 1) s.f0 s.f1 s.f2 s.f3 s.f4 s.f5) (false, left - 1) := Ev.step (fun k => by rw [impl_Schema_formed.j0]) (ifp rfl (Ev.now _))
      by_cases h : left - 1 < 0
      · exact ifp h no
      · exact ifn h (ifp (by omega) no)
    · simp only [cnt, Bool.false_eq_true, false_iff]
      omega
    · intro h; simp at h
  | d + 1, hd, s, hg => by
    intro left h0 h1
    obtain ⟨g0, g1, g2, g3, g4, g5⟩ := hg.parts
    have hwl : wrap64 (left - 1) = left - 1 := w64 (by omega) (by omega)
    have no : Ev (fun k => impl_Schema_formed.j0 k (5 - ((d + 1 : Nat) : Int)) true (left - 1) s.f0 s.f1 s.f2 s.f3 s.f4 s.f5) (false, left - 1) := Ev.step (fun k => by rw [impl_Schema_formed.j0]) (ifp rfl (Ev.now _))
    have bad : (¬ (cnt (d + 1) s ≤ left ∧ frm (d + 1) s = true)) → Ev (fun k => impl_Schema_formed.f k s.f0 s.f1 s.f2 s.f3 s.f4 s.f5 (5 - ((d + 1 : Nat) : Int)) left) (false, left - 1) →
        ∃ r : Bool × Int, Ev (fun k => impl_Schema_formed.f k s.f0 s.f1 s.f2 s.f3 s.f4 s.f5 (5 - ((d + 1 : Nat) : Int)) left) r ∧ (r.1 = true ↔ cnt (d + 1) s ≤ left ∧ frm (d + 1) s = true) ∧ (r.1 = true → r.2 = left - cnt (d + 1) s) := fun hb he =>
      ⟨(false, left - 1), he, ⟨fun h => by simp at h, fun h => absurd h hb⟩, fun h => by simp at h⟩
    have hge := cnt_ge (d + 1) s
    by_cases hl : left - 1 < 0
    · refine bad (fun h => by have := h.1; omega) ?_
      refine Ev.step (fun k => by rw [impl_Schema_formed.f]) ?_
      rw [hwl]
      exact ifp hl no
    have nospan : ¬ (0 ≤ s.f1 ∧ s.f1 ≤ s.f2 ∧ s.f2 ≤ 6) → ¬ (cnt (d + 1) s ≤ left ∧ frm (d + 1) s = true) := fun hs h => by
      have h2 := h.2
      simp only [frm, Bool.and_eq_true] at h2
      exact hs (locOk_span h2.2)
    by_cases c1 : s.f2 ≥ 0
    case neg =>
      refine bad (nospan (by omega)) ?_
      refine Ev.step (fun k => by rw [impl_Schema_formed.f]) ?_
      rw [hwl]
      refine ifn hl (ifn (by omega) ?_)
      refine b0 (a := false) (by unfold impl_within.f; rw [if_neg c1]) ?_
      exact ifn (by simp) no
    by_cases c2 : s.f2 ≤ 6
    case neg =>
      refine bad (nospan (by omega)) ?_
      refine Ev.step (fun k => by rw [impl_Schema_formed.f]) ?_
      rw [hwl]
      refine ifn hl (ifn (by omega) ?_)
      refine b0 (a := decide (s.f2 ≤ 6)) (by unfold impl_within.f; rw [if_pos c1]) ?_
      exact ifn (by simpa using c2) no
    by_cases c3 : s.f1 ≥ 0
    case neg =>
      refine bad (nospan (by omega)) ?_
      refine Ev.step (fun k => by rw [impl_Schema_formed.f]) ?_
      rw [hwl]
      refine ifn hl (ifn (by omega) ?_)
      refine b0 (a := decide (s.f2 ≤ 6)) (by unfold impl_within.f; rw [if_pos c1]) ?_
      refine ifp (decide_eq_true c2) ?_
      refine b0 (a := false) (by unfold impl_within.f; rw [if_neg c3]) ?_
      exact ifn (by simp) no
    by_cases c4 : s.f1 ≤ s.f2
    case neg =>
      refine bad (nospan (by omega)) ?_
      refine Ev.step (fun k => by rw [impl_Schema_formed.f]) ?_
      rw [hwl]
      refine ifn hl (ifn (by omega) ?_)
      refine b0 (a := decide (s.f2 ≤ 6)) (by unfold impl_within.f; rw [if_pos c1]) ?_
      refine ifp (decide_eq_true c2) ?_
      refine b0 (a := decide (s.f1 ≤ s.f2)) (by unfold impl_within.f; rw [if_pos c3]) ?_
      exact ifn (by simpa using c4) no
    have go : ∀ r, Ev (fun k => impl_Schema_formed.j0 k (5 - ((d + 1 : Nat) : Int)) (decide ((s.f5.length : Int) > 4)) (left - 1) s.f0 s.f1 s.f2 s.f3 s.f4 s.f5) r → Ev (fun k => impl_Schema_formed.f k s.f0 s.f1 s.f2 s.f3 s.f4 s.f5 (5 - ((d + 1 : Nat) : Int)) left) r := fun r h => by
      refine Ev.step (fun k => by rw [impl_Schema_formed.f]) ?_
      rw [hwl]
      refine ifn hl (ifn (by omega) ?_)
      refine b0 (a := decide (s.f2 ≤ 6)) (by unfold impl_within.f; rw [if_pos c1]) ?_
      refine ifp (decide_eq_true c2) ?_
      refine b0 (a := decide (s.f1 ≤ s.f2)) (by unfold impl_within.f; rw [if_pos c3]) ?_
      exact ifp (decide_eq_true c4) h
    by_cases h4 : s.f5.length > 4
    · refine bad (fun h => ?_) (go _ ?_)
      · have := h.1
        simp only [cnt, h4, if_true] at this
        omega
      · rw [decide_eq_true (p := (s.f5.length : Int) > 4) (by omega)]
        exact no
    obtain ⟨r, hr, e1, e2⟩ := impl_loop d (by omega) s (by omega) (fun y hy => impl_formed d (by omega) y (g5 y hy)) s.f5.length 0 (locOk s) (left - 1) (by omega) (fun _ => by omega)
    rw [List.drop_zero] at e1 e2
    have hcnt : cnt (d + 1) s = 1 + cntL (cnt d) s.f5 := by simp only [cnt, h4, if_false]
    refine ⟨r, go r ?_, ?_, ?_⟩
    · rw [decide_eq_false (p := (s.f5.length : Int) > 4) (by omega)]
      refine Ev.step (fun k => by rw [impl_Schema_formed.j0]) ?_
      refine ifn (by simp) ?_
      have key : ∀ n : Bool, n = decide (0 < s.f3.length ∨ 0 < s.f4.length) → Ev (fun k => impl_Schema_formed.j1 k (5 - ((d + 1 : Nat) : Int)) (s.f2 != 0) n (left - 1) s.f0 s.f1 s.f2 s.f3 s.f4 s.f5) r := by
        intro n hn
        obtain ⟨K1, hN⟩ := impl_names_l0 s.f3 (by omega) (fun x hx => by have := g2 x hx; omega) s.f3.length 0 (by omega)
        obtain ⟨K2, hT⟩ := impl_words_l0 s.f3 (by omega) (fun x hx => by have := g2 x hx; omega) s.f3.length 0 (by omega)
        obtain ⟨K3, hr⟩ := hr
        refine ⟨K1 + K2 + K3 + 3, fun k hk => ?_⟩
        obtain ⟨m, rfl⟩ : ∃ m, k = m + 3 := ⟨k - 3, by omega⟩
        exact (impl_core s.f0 s.f1 s.f2 s.f3 s.f4 s.f5 _ _ n m (5 - ((d + 1 : Nat) : Int)) (left - 1) (hN (m + 1) (by omega)) (hT (m + 1) (by omega)) hn c3 c4 c2).trans (hr m (by omega))
      by_cases c5 : (s.f3.length : Int) > 0
      · exact ifp c5 (key true (decide_eq_true (by omega)).symm)
      · refine ifn c5 (key _ ?_)
        rw [decide_eq_decide]
        omega
    · rw [e1, hcnt]
      simp only [frm, Bool.and_eq_true]
      constructor
      · rintro ⟨q1, q2, q3⟩
        exact ⟨by omega, q3, q1⟩
      · rintro ⟨q1, q2, q3⟩
        exact ⟨q3, by omega, q2⟩
    · intro h
      rw [e2 h, hcnt]
      omega

theorem impl_ok (s : SI) (hg : Good s) : Ev (fun k => impl_SchemaOk.f k s.f0 s.f1 s.f2 s.f3 s.f4 s.f5) (decide (cnt 4 s ≤ 10) && frm 4 s) := by
  obtain ⟨r, hr, e1, _⟩ := impl_formed 4 (by omega) s hg 10 (by omega) (by omega)
  unfold impl_SchemaOk.f
  refine Ev.bind hr (Ev_eq (Ev.now _) ?_)
  rw [Bool.eq_iff_iff, Bool.and_eq_true, decide_eq_true_eq]
  exact e1

theorem FnExactSchemaOk (a b c : Int) (d : List ByteArray) (e : List Bool) (f : List SL) (h0 : (Lit.int .i64 a).wf = true ∧ (Lit.int .i64 b).wf = true ∧ (Lit.int .i64 c).wf = true ∧ (d.length ≤ maxLen ∧ ∀ x ∈ d, x.size ≤ maxLen) ∧ (e.length ≤ maxLen ∧ ∀ x ∈ e, True) ∧ (f.length ≤ maxLen ∧ ∀ y ∈ f, WfL y)) : ∃ k, laws_FnExactSchemaOk.f k a b c d e f = some true := by
  have hw := Wf26_mk h0
  refine Ev.rounds (g := fun k => laws_FnExactSchemaOk.f k a b c d e f) ?_
  obtain ⟨r, hr, hr2⟩ := sz_schema ⟨a, b, c, d, e, f⟩ hw 1048576 (by omega) (by omega)
  unfold laws_FnExactSchemaOk.f
  refine Ev.bind hr ?_
  rcases hr2 with h | ⟨h1, h2, hg⟩
  · exact ifp (by omega) (Ev.now _)
  refine ifn (by omega) ?_
  obtain ⟨t, ht, hgt⟩ := to_schema ⟨a, b, c, d, e, f⟩ hg
  refine Ev.bind ht ?_
  refine Ev.bind (spec_ok t hgt) ?_
  refine Ev.bind ht ?_
  refine Ev.bind (impl_ok t hgt) ?_
  refine ifn (by simp) ?_
  refine Ev.bind ht ?_
  refine Ev.bind (eq_schema t hgt) ?_
  exact ifp rfl (Ev.now _)

end Go.Proofs.Ytfejipjfkffdiaa.Pure
