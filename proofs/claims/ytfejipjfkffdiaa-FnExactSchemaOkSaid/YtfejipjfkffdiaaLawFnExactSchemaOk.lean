/- The row of FnExactSchemaOk: out of the plain part and the walk of its call; no condition. -/
import Derived.Test.YtfejipjfkffdiaaRows
import Derived.Test.YtfejipjfkffdiaaPx20
import Derived.Test.YtfejipjfkffdiaaPureFnExactSchemaOk
import Derived.Test.YtfejipjfkffdiaaOp
import Derived.WalkKit
import Derived.ProofKit
import Derived.OpenShut
import Derived.ShutString
import Derived.ChangeOld
import Derived.Below
import Derived.Carry
import Derived.SizedLaws
namespace Go.Proofs.Ytfejipjfkffdiaa.fnExactSchemaOk
open Go.ChangeShapes Go.WideShapes Go.ChangeAt Go.RowKit
open Go.Proofs.Ytfejipjfkffdiaa.P Go.Proofs.YtfejipjfkffdiaaW.PrintWords Go.Proofs.Ytfejipjfkffdiaa.Op
set_option linter.unusedVariables false
theorem own : ownKnob Try.prog.godebug = none := by kernel_rfl
theorem laidOut : laidOutB Try.prog = true := by kernel_rfl
theorem opens_T26 : Opens Try.prog 26 k26 Pure.Wf26 := opens_rec Try.underlying26 (fun n ih => opensN_map (opensN_struct Try.underlying26 (by kernel_rfl) (fsN_cons rfl (by kernel_rfl) (Opens.n (opens_int Try.underlying3)) (fsN_cons rfl (by kernel_rfl) (Opens.n (opens_int Try.underlying3)) (fsN_cons rfl (by kernel_rfl) (Opens.n (opens_int Try.underlying3)) (fsN_cons rfl (by kernel_rfl) (Opens.n (opens_slice 9 Try.underlying22 (by kernel_rfl) (opens_str Try.underlying9))) (fsN_cons rfl (by kernel_rfl) (Opens.n (opens_slice 4 Try.underlying23 (by kernel_rfl) (opens_bool Try.underlying4))) (fsN_one rfl (by kernel_rfl) (OpensN.le (opensN_slice 26 Try.underlying24 (by kernel_rfl) ih))))))))) (fun w y cs hk hw => by
  obtain ⟨y0, y1, y2, y3, y4, y5⟩ := y
  obtain ⟨_, _, rfl, rfl, ⟨_, _, rfl, rfl, ⟨_, _, rfl, rfl, ⟨_, _, rfl, ⟨A3, c3, rfl, l3, g3⟩, ⟨_, _, rfl, ⟨A4, c4, rfl, l4, g4⟩, ⟨A5, c5, rfl, l5, g5⟩⟩⟩⟩⟩⟩ := hk
  exact ⟨⟨y0, y1, y2, y3, y4, y5⟩, k26_mk w ⟨y0, y1, y2, y3, y4, y5⟩ l3 g3 l4 g4 l5 g5, Pure.Wf26_mk hw⟩))
set_option maxRecDepth 100000 in
theorem lifted (os : Os) (started : os.Started) (H : Type) (enc : TypeId × Value → H) :
    ReturnsInHanded {} Try.checked os 3 .any (Rows.fnExactSchemaOkSpec.pre6 enc Try.prog Try.f3 Rows.fnExactSchemaOkRow.domain false) (Rows.fnExactSchemaOkSpec.post enc Try.prog Try.f3 false true false false) := by
  refine returnsInHanded_of_change_sized (C := Try.checked) own started (by kernel_rfl) Try.func3
    (ChangeSpec.witness6 (enc := enc) (C := Try.checked) false ⟨#[], #[.agg #[.int .i64 0, .int .i64 0, .int .i64 0, .slice none 0 0, .slice none 0 0, .slice none 0 0]], []⟩ 8 (by kernel_rfl) (by kernel_rfl) (by kernel_rfl) (by kernel_rfl)) ?_
  intro W base args ds gs before hval0 hW hcnd hsz0 _
  have hval : ∀ (j : Nat) t v, Try.f3.params[j]? = some t → args[j]? = some v → Value.okWide Try.prog W .any base t v := hval0
  have hW' := hW
  obtain ⟨p, q, hA0, hV, rfl, hfz, hnd⟩ := hW
  have hA : DataW.TrodAll enc Try.prog W 0 (fun _ => true) true Try.f3.params.toList args.toList ds p := hA0
  rw [Try.params3] at hA hval
  obtain ⟨v0, vs0, d0, ds0, p0, q0, hargs, rfl, rfl, h0, r0⟩ := trodAll_cons hA
  obtain ⟨rfl, rfl, rfl⟩ := trodAll_nil r0
  obtain rfl : args = #[v0] := by cases args; simp_all
  obtain ⟨rfl, rfl⟩ := trodVars_none hV
  have k0 := h0
  have lt0 : ∀ x ∈ p0, x.block < W.heap.size := by obtain ⟨m, hm⟩ := k0; exact DataW.trod_lt m _ _ _ hm
  obtain ⟨fuel0, hf0⟩ := h0
  obtain ⟨y0, hk0, hw0⟩ := (opens_struct Try.underlying26 (by kernel_rfl) (fs_cons rfl (by kernel_rfl) (opens_int Try.underlying3) (fs_cons rfl (by kernel_rfl) (opens_int Try.underlying3) (fs_cons rfl (by kernel_rfl) (opens_int Try.underlying3) (fs_cons rfl (by kernel_rfl) (opens_slice 9 Try.underlying22 (by kernel_rfl) (opens_str Try.underlying9)) (fs_cons rfl (by kernel_rfl) (opens_slice 4 Try.underlying23 (by kernel_rfl) (opens_bool Try.underlying4)) (fs_one rfl (by kernel_rfl) (opens_slice 26 Try.underlying24 (by kernel_rfl) opens_T26)))))))) W fuel0 _ _ hf0
  obtain ⟨cs0, rfl, _⟩ := okWide_struct Try.underlying26 (hval 0 26 v0 rfl rfl)
  obtain ⟨l0_0, m0_0, e0_0, g0_0, t0_0⟩ := hk0
  have z0_0 : l0_0 = [.int .i64 y0.1] := g0_0
  obtain ⟨l0_1, m0_1, e0_1, g0_1, t0_1⟩ := t0_0
  have z0_1 : l0_1 = [.int .i64 y0.2.1] := g0_1
  obtain ⟨l0_2, m0_2, e0_2, g0_2, t0_2⟩ := t0_1
  have z0_2 : l0_2 = [.int .i64 y0.2.2.1] := g0_2
  obtain ⟨l0_3, m0_3, e0_3, g0_3, t0_3⟩ := t0_2
  obtain ⟨A0_3, c0_3, z0_3, hc0_3, hr0_3⟩ := g0_3
  obtain ⟨l0_4, m0_4, e0_4, g0_4, t0_4⟩ := t0_3
  obtain ⟨A0_4, c0_4, z0_4, hc0_4, hr0_4⟩ := g0_4
  have g0_5 := t0_4
  obtain ⟨A0_5, c0_5, z0_5, hc0_5, hr0_5⟩ := g0_5
  obtain rfl : cs0 = #[.int .i64 y0.1, .int .i64 y0.2.1, .int .i64 y0.2.2.1, .slice A0_3 y0.2.2.2.1.length c0_3, .slice A0_4 y0.2.2.2.2.1.length c0_4, .slice A0_5 y0.2.2.2.2.2.length c0_5] := by
    apply Array.toList_inj.1
    have e := e0_0
    rw [e0_1, e0_2, e0_3, e0_4, z0_0, z0_1, z0_2, z0_3, z0_4, z0_5] at e
    exact e
  clear hA0 hval0 hsz0
  obtain ⟨k, hp⟩ := Pure.FnExactSchemaOk y0.1 y0.2.1 y0.2.2.1 y0.2.2.2.1 y0.2.2.2.2.1 y0.2.2.2.2.2 hw0
  refine (laws_FnExactSchemaOk.calls k y0.1 y0.2.1 y0.2.2.1 _ _ y0.2.2.2.1 _ _ y0.2.2.2.2.1 _ _ y0.2.2.2.2.2 true W hr0_3 hc0_3 hr0_4 hc0_4 hr0_5 hc0_5 hp).mono fun e W' ⟨he, bel⟩ => ?_
  subst he
  exact ⟨_, rfl, _, _, _, [], _, [], hW', trodAll_mk1 (shut_bool Try.underlying4 _), (trodAll_cons_mk (Below.trod laidOut (by kernel_rfl) (of_decide_eq_true (by kernel_rfl)) k0 bel lt0) trodAll_mk0), rfl, bel.frame _, fun h => by cases h⟩
theorem over : Rows.fnExactSchemaOkRow.holds Try.pinned (OpenSpec.ofChange Rows.fnExactSchemaOkSpec) :=
  OpenClaim.holds_of_wide 3 Try.f3 rfl rfl rfl rfl rfl rfl rfl ⟨rfl, rfl, rfl, rfl, rfl⟩ rfl rfl rfl rfl rfl (by kernel_rfl) Try.func3 (by kernel_rfl)
    (of_decide_eq_true (by kernel_rfl)) (by unfold Func.isWrapper; first | (rw [if_pos (by decide +kernel)]; kernel_rfl) | (rw [if_neg (by decide +kernel)]; exact ⟨rfl, rfl⟩))
    (fun os started H enc _ => lifted os started H enc)
theorem proved : Rows.FnExactSchemaOkSaid := over
#print axioms proved
end Go.Proofs.Ytfejipjfkffdiaa.fnExactSchemaOk
namespace Go.Proofs.Ytfejipjfkffdiaa
/-- The row, under a short name, for the claim. -/
theorem fnExactSchemaOk_holds : Rows.FnExactSchemaOkSaid := fnExactSchemaOk.proved
end Go.Proofs.Ytfejipjfkffdiaa
