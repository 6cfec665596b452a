/- The row of FnExactVocLong: out of the plain part and the walk of its call; no condition. -/
import Derived.Test.YtaacknjgfipejaaRows
import Derived.Test.YtaacknjgfipejaaPx31
import Derived.Test.YtaacknjgfipejaaPureFnExactVocLong
import Derived.Test.YtaacknjgfipejaaOp
import Derived.WalkKit
import Derived.ProofKit
import Derived.OpenShut
import Derived.ShutString
import Derived.ChangeOld
import Derived.Below
import Derived.Carry
import Derived.SizedLaws
namespace Go.Proofs.Ytaacknjgfipejaa.fnExactVocLong
open Go.ChangeShapes Go.WideShapes Go.ChangeAt Go.RowKit
open Go.Proofs.Ytaacknjgfipejaa.P Go.Proofs.YtaacknjgfipejaaW.PrintWords Go.Proofs.Ytaacknjgfipejaa.Op
set_option linter.unusedVariables false
theorem own : ownKnob Try.prog.godebug = none := by kernel_rfl
theorem laidOut : laidOutB Try.prog = true := by kernel_rfl
set_option maxRecDepth 100000 in
theorem lifted (os : Os) (started : os.Started) (H : Type) (enc : TypeId × Value → H) :
    ReturnsInHanded {} Try.checked os 13 .any (Rows.fnExactVocLongSpec.pre6 enc Try.prog Try.f13 Rows.fnExactVocLongRow.domain false) (Rows.fnExactVocLongSpec.post enc Try.prog Try.f13 false true false false) := by
  refine returnsInHanded_of_change_sized (C := Try.checked) own started (by kernel_rfl) Try.func13
    (ChangeSpec.witness6 (enc := enc) (C := Try.checked) false ⟨#[], #[.agg #[.slice none 0 0, .int .i64 0], .string ByteArray.empty], []⟩ 8 (by kernel_rfl) (by kernel_rfl) (by kernel_rfl) (by kernel_rfl)) ?_
  intro W base args ds gs before hval0 hW hcnd hsz0 _
  have hval : ∀ (j : Nat) t v, Try.f13.params[j]? = some t → args[j]? = some v → Value.okWide Try.prog W .any base t v := hval0
  have hW' := hW
  obtain ⟨p, q, hA0, hV, rfl, hfz, hnd⟩ := hW
  have hA : DataW.TrodAll enc Try.prog W 0 (fun _ => true) true Try.f13.params.toList args.toList ds p := hA0
  rw [Try.params13] at hA hval
  obtain ⟨v0, vs0, d0, ds0, p0, q0, hargs, rfl, rfl, h0, r0⟩ := trodAll_cons hA
  obtain ⟨v1, vs1, d1, ds1, p1, q1, rfl, rfl, rfl, h1, r1⟩ := trodAll_cons r0
  obtain ⟨rfl, rfl, rfl⟩ := trodAll_nil r1
  obtain rfl : args = #[v0, v1] := by cases args; simp_all
  obtain ⟨rfl, rfl⟩ := trodVars_none hV
  have k0 := h0
  have lt0 : ∀ x ∈ p0, x.block < W.heap.size := by obtain ⟨m, hm⟩ := k0; exact DataW.trod_lt m _ _ _ hm
  obtain ⟨fuel0, hf0⟩ := h0
  obtain ⟨y0, hk0, hw0⟩ := (opens_struct Try.underlying25 (by kernel_rfl) (fs_cons rfl (by kernel_rfl) (opens_slice 9 Try.underlying23 (by kernel_rfl) (opens_str Try.underlying9)) (fs_one rfl (by kernel_rfl) (opens_int Try.underlying3)))) W fuel0 _ _ hf0
  obtain ⟨cs0, rfl, _⟩ := okWide_struct Try.underlying25 (hval 0 25 v0 rfl rfl)
  obtain ⟨l0_0, m0_0, e0_0, g0_0, t0_0⟩ := hk0
  obtain ⟨A0_0, c0_0, z0_0, hc0_0, hr0_0⟩ := g0_0
  have g0_1 := t0_0
  have z0_1 : m0_0 = [.int .i64 y0.2] := g0_1
  obtain rfl : cs0 = #[.slice A0_0 y0.1.length c0_0, .int .i64 y0.2] := by
    apply Array.toList_inj.1
    have e := e0_0
    rw [z0_0, z0_1] at e
    exact e
  have k1 := h1
  have lt1 : ∀ x ∈ p1, x.block < W.heap.size := by obtain ⟨m, hm⟩ := k1; exact DataW.trod_lt m _ _ _ hm
  obtain ⟨fuel1, hf1⟩ := h1
  obtain ⟨y1, hk1, hw1⟩ := (opens_str Try.underlying9) W fuel1 _ _ hf1
  obtain ⟨s1, rfl⟩ := okWide_string Try.underlying9 (hval 1 9 v1 rfl rfl)
  obtain rfl : s1 = y1 := by have e : [Value.string s1] = [Value.string y1] := hk1; injection e with e; injection e
  clear hA0 hval0 hsz0
  obtain ⟨k, hp⟩ := Pure.FnExactVocLong y0.1 y0.2 s1 hw0 hw1
  refine (laws_FnExactVocLong.calls k _ _ y0.1 y0.2 s1 true W hr0_0 hc0_0 hp).mono fun e W' ⟨he, bel⟩ => ?_
  subst he
  exact ⟨_, rfl, _, _, _, [], _, [], hW', trodAll_mk1 (shut_bool Try.underlying4 _), (trodAll_cons_mk (Below.trod laidOut (by kernel_rfl) (of_decide_eq_true (by kernel_rfl)) k0 bel lt0) (trodAll_cons_mk (Below.trod laidOut (by kernel_rfl) (of_decide_eq_true (by kernel_rfl)) k1 bel lt1) trodAll_mk0)), rfl, bel.frame _, fun h => by cases h⟩
theorem over : Rows.fnExactVocLongRow.holds Try.pinned (OpenSpec.ofChange Rows.fnExactVocLongSpec) :=
  OpenClaim.holds_of_wide 13 Try.f13 rfl rfl rfl rfl rfl rfl rfl ⟨rfl, rfl, rfl, rfl, rfl⟩ rfl rfl rfl rfl rfl (by kernel_rfl) Try.func13 (by kernel_rfl)
    (of_decide_eq_true (by kernel_rfl)) (by unfold Func.isWrapper; first | (rw [if_pos (by decide +kernel)]; kernel_rfl) | (rw [if_neg (by decide +kernel)]; exact ⟨rfl, rfl⟩))
    (fun os started H enc _ => lifted os started H enc)
theorem proved : Rows.FnExactVocLongSaid := over
#print axioms proved
end Go.Proofs.Ytaacknjgfipejaa.fnExactVocLong
namespace Go.Proofs.Ytaacknjgfipejaa
/-- The row, under a short name, for the claim. -/
theorem fnExactVocLong_holds : Rows.FnExactVocLongSaid := fnExactVocLong.proved
end Go.Proofs.Ytaacknjgfipejaa
