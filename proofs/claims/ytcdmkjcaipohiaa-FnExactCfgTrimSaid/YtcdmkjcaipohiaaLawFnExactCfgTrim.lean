/- The row of FnExactCfgTrim: out of the plain part and the walk of its call; no condition. -/
import Derived.Test.YtcdmkjcaipohiaaRows
import Derived.Test.YtcdmkjcaipohiaaPx21
import Derived.Test.YtcdmkjcaipohiaaPureFnExactCfgTrim
import Derived.Test.YtcdmkjcaipohiaaOp
import Derived.WalkKit
import Derived.ProofKit
import Derived.OpenShut
import Derived.ShutString
import Derived.ChangeOld
import Derived.Below
import Derived.Carry
import Derived.SizedLaws
namespace Go.Proofs.Ytcdmkjcaipohiaa.fnExactCfgTrim
open Go.ChangeShapes Go.WideShapes Go.ChangeAt Go.RowKit
open Go.Proofs.Ytcdmkjcaipohiaa.P Go.Proofs.YtcdmkjcaipohiaaW.PrintWords Go.Proofs.Ytcdmkjcaipohiaa.Op
set_option linter.unusedVariables false
theorem own : ownKnob Try.prog.godebug = none := by kernel_rfl
theorem laidOut : laidOutB Try.prog = true := by kernel_rfl
set_option maxRecDepth 100000 in
theorem lifted (os : Os) (started : os.Started) (H : Type) (enc : TypeId × Value → H) :
    ReturnsInHanded {} Try.checked os 3 .any (Rows.fnExactCfgTrimSpec.pre6 enc Try.prog Try.f3 Rows.fnExactCfgTrimRow.domain false) (Rows.fnExactCfgTrimSpec.post enc Try.prog Try.f3 false true false false) := by
  refine returnsInHanded_of_change_sized (C := Try.checked) own started (by kernel_rfl) Try.func3
    (ChangeSpec.witness6 (enc := enc) (C := Try.checked) false ⟨#[], #[.agg #[.int .i64 0, .slice none 0 0]], []⟩ 8 (by kernel_rfl) (by kernel_rfl) (by kernel_rfl) (by kernel_rfl)) ?_
  intro W base args ds gs before hval0 hW hcnd hsz0 _
  have hval : ∀ (j : Nat) t v, Try.f3.params[j]? = some t → args[j]? = some v → Value.okWide Try.prog W .any base t v := hval0
  have hW' := hW
  obtain ⟨p, q, hA0, hV, rfl, hfz, hnd⟩ := hW
  have hA : DataW.TrodAll enc Try.prog W 0 (fun _ => true) true Try.f3.params.toList args.toList ds p := hA0
  rw [Try.params3] at hA hval
  obtain ⟨v0, vs0, d0, ds0, p0, q0, hargs, rfl, rfl, h0, r0⟩ := trodAll_cons hA
  obtain ⟨rfl, rfl, rfl⟩ := trodAll_nil r0
  obtain rfl : args = #[v0] := by cases args; simp_all
  obtain ⟨rfl, rfl⟩ := trodVars_none hV
  have k0 := h0
  have lt0 : ∀ x ∈ p0, x.block < W.heap.size := by obtain ⟨m, hm⟩ := k0; exact DataW.trod_lt m _ _ _ hm
  obtain ⟨fuel0, hf0⟩ := h0
  obtain ⟨y0, hk0, hw0⟩ := (opens_struct Try.underlying24 (by kernel_rfl) (fs_cons rfl (by kernel_rfl) (opens_int Try.underlying3) (fs_one rfl (by kernel_rfl) (opens_slice 52 Try.underlying22 (by kernel_rfl) (opens_iso (fun x : S52 => (x.f0, x.f1)) (fun y => ⟨y.1, y.2⟩) (fun _ => rfl) (opens_struct Try.underlying52 (by kernel_rfl) (fs_cons rfl (by kernel_rfl) (opens_int Try.underlying3) (fs_one rfl (by kernel_rfl) (opens_slice 64 Try.underlying50 (by kernel_rfl) (opens_iso (fun x : S64 => (x.f0, x.f1, x.f2)) (fun y => ⟨y.1, y.2.1, y.2.2⟩) (fun _ => rfl) (opens_struct Try.underlying64 (by kernel_rfl) (fs_cons rfl (by kernel_rfl) (opens_int Try.underlying3) (fs_cons rfl (by kernel_rfl) (opens_int Try.underlying3) (fs_one rfl (by kernel_rfl) (opens_int Try.underlying3))))))))))))))) W fuel0 _ _ hf0
  obtain ⟨cs0, rfl, _⟩ := okWide_struct Try.underlying24 (hval 0 24 v0 rfl rfl)
  obtain ⟨l0_0, m0_0, e0_0, g0_0, t0_0⟩ := hk0
  have z0_0 : l0_0 = [.int .i64 y0.1] := g0_0
  have g0_1 := t0_0
  obtain ⟨A0_1, c0_1, z0_1, hc0_1, hr0_1⟩ := g0_1
  obtain rfl : cs0 = #[.int .i64 y0.1, .slice A0_1 y0.2.length c0_1] := by
    apply Array.toList_inj.1
    have e := e0_0
    rw [z0_0, z0_1] at e
    exact e
  clear hA0 hval0 hsz0
  obtain ⟨k, hp⟩ := Pure.FnExactCfgTrim y0.1 y0.2 hw0
  refine (laws_FnExactCfgTrim.calls k y0.1 _ _ y0.2 true W hr0_1 hc0_1 hp).mono fun e W' ⟨he, bel⟩ => ?_
  subst he
  exact ⟨_, rfl, _, _, _, [], _, [], hW', trodAll_mk1 (shut_bool Try.underlying4 _), (trodAll_cons_mk (Below.trod laidOut (by kernel_rfl) (of_decide_eq_true (by kernel_rfl)) k0 bel lt0) trodAll_mk0), rfl, bel.frame _, fun h => by cases h⟩
theorem over : Rows.fnExactCfgTrimRow.holds Try.pinned (OpenSpec.ofChange Rows.fnExactCfgTrimSpec) :=
  OpenClaim.holds_of_wide 3 Try.f3 rfl rfl rfl rfl rfl rfl rfl ⟨rfl, rfl, rfl, rfl, rfl⟩ rfl rfl rfl rfl rfl (by kernel_rfl) Try.func3 (by kernel_rfl)
    (of_decide_eq_true (by kernel_rfl)) (by unfold Func.isWrapper; first | (rw [if_pos (by decide +kernel)]; kernel_rfl) | (rw [if_neg (by decide +kernel)]; exact ⟨rfl, rfl⟩))
    (fun os started H enc _ => lifted os started H enc)
theorem proved : Rows.FnExactCfgTrimSaid := over
#print axioms proved
end Go.Proofs.Ytcdmkjcaipohiaa.fnExactCfgTrim
namespace Go.Proofs.Ytcdmkjcaipohiaa
/-- The row, under a short name, for the claim. -/
theorem fnExactCfgTrim_holds : Rows.FnExactCfgTrimSaid := fnExactCfgTrim.proved
end Go.Proofs.Ytcdmkjcaipohiaa
