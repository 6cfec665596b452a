-- Laid by a program for this claim (the printer, turned): Lean checks it.
import Derived.Test.YtfejipjfkffdiaaProg
import Derived.Below
import Derived.Deep.Draws
import Derived.Deep.AppendLies
import Derived.Maps.AppendAt
import Derived.OwnWalk
import Derived.Laws.BytesArg
import Derived.Laws.MakeOwn
import Derived.Laws.OwnMore
import Derived.Deep.OwnRows
import Derived.Tactics
import Derived.Lib.ConvBytes
import Derived.Laws.Slices
import Derived.WalkKit
import Derived.KernelRfl
import Derived.RowKit3
import Derived.Deep.LoopGhost
import Derived.Deep.QuietTactic
import Derived.BigQuiet
import Derived.WideLaws
import Derived.Deep.DeepCutAuto
import Derived.Deep.CutBlock
import Derived.Deep.RegionHeld3
import Derived.Laws.Rows
import Derived.Lib.AppendStr
import Derived.ArgAppend
import Derived.Laws.IdiomCopy
import Derived.OrdersHeld
import Derived.Laws.BitsLemmas
import Derived.RowKit
import Derived.Test.YtfejipjfkffdiaaWWords
import Derived.Test.YtfejipjfkffdiaaWLast
import Derived.Test.YtfejipjfkffdiaaWTab
import Derived.Test.YtfejipjfkffdiaaWFour
import Derived.Test.YtfejipjfkffdiaaWQPut
import Derived.Test.YtfejipjfkffdiaaWApart
import Derived.Test.YtfejipjfkffdiaaWArr
import Derived.Test.YtfejipjfkffdiaaWZeros
import Derived.Test.YtfejipjfkffdiaaWFoot
import Derived.Test.YtfejipjfkffdiaaWKept
import Derived.Test.YtfejipjfkffdiaaWShare
import Derived.Test.YtfejipjfkffdiaaWN
import Derived.Test.YtfejipjfkffdiaaWFootNe
import Derived.Test.YtfejipjfkffdiaaWAt
import Derived.Test.YtfejipjfkffdiaaWEqStruct
import Derived.Test.YtfejipjfkffdiaaWRepsOne
import Derived.Test.YtfejipjfkffdiaaWInv
import Derived.Test.YtfejipjfkffdiaaWInvWords
import Derived.Test.YtfejipjfkffdiaaWGuard
import Derived.Test.YtfejipjfkffdiaaWNEv
import Derived.Test.YtfejipjfkffdiaaWMore
namespace Go.Proofs.Ytfejipjfkffdiaa.P
open Go.RowKit Go.Proofs.YtfejipjfkffdiaaW.PrintWords Go.Proofs.YtfejipjfkffdiaaW.PrintLast Go.Proofs.YtfejipjfkffdiaaW.PrintMore
attribute [local go_sem] max2_int min2_int max_two min_two max_three min_three max_four min_four   -- for this text's walks alone
set_option linter.unusedVariables false
set_option linter.unusedSimpArgs false



def errW : Option Int → Value
  | none => .nilIface
  | some c => .iface 0 (.int .i64 c)
theorem errW_none : errW none = .nilIface := rfl
theorem errW_some (c : Int) : errW (some c) = .iface 0 (.int .i64 c) := rfl

theorem pw_ne_nil (l : List UInt8) : (!l.isEmpty) = (l != []) := by cases l <;> rfl
theorem pw_eq_nil (l : List UInt8) : l.isEmpty = (l == []) := by cases l <;> rfl
theorem info4 : (Try.prog.info? 4).map (fun i => (i.zero, i.size, i.bytes)) = some (some (.bool false), 1, 1) := by kernel_rfl
theorem info9 : (Try.prog.info? 9).map (fun i => (i.zero, i.size, i.bytes)) = some (some (.string ⟨#[]⟩), 1, 16) := by kernel_rfl
theorem info31 : (Try.prog.info? 31).map (fun i => (i.zero, i.size, i.bytes)) = some (some (.agg #[(.int .i64 0), (.int .i64 0), (.int .i64 0), (.slice none 0 0), (.slice none 0 0), (.slice none 0 0)]), 6, 96) := by kernel_rfl
-- the values' own types
def rd_L3 (xs : List (List ByteArray)) (i : Int) : (List ByteArray) := xs.getD i.toNat ([] : List ByteArray)
theorem at_L3 {w : World} {A : Option Addr} {n : Nat} {xs : List (List ByteArray)} (h : Kd.C (Kd.slice 9 Kd.string) w A n xs) (i : Int) (h0 : 0 ≤ i) (h1 : i < n) : ∃ ad A0 c0, A = some ad ∧ w.cell? (ad.add i.toNat) = some (.slice A0 (rd_L3 xs i).length c0) ∧ (rd_L3 xs i).length ≤ c0 ∧ Kd.string.C w A0 (rd_L3 xs i).length (rd_L3 xs i) := by
  obtain ⟨ad, c, e, _, hK, hc0⟩ := Kd.C_get h ([] : List ByteArray) i h0 h1
  have hc : ∀ j u, c[j]? = some u → w.cell? (ad.add (i.toNat * 1 + j)) = some u := hc0
  obtain ⟨A0, c0, rfl, l0, g0⟩ := hK
  exact ⟨ad, A0, c0, e, by have hq := hc 0 _ rfl; rwa [Nat.mul_one, Nat.add_zero] at hq, l0, g0⟩
theorem foot_L3_0 {w w1 : World} {A : Option Addr} {n g : Nat} {xs : List (List ByteArray)} (h : ∀ W_, KeepBut w W_ g none → Kd.C (Kd.slice 9 Kd.string) W_ A n xs) (hk1 : KeepBut w w1 g none) (i : Int) (h0 : 0 ≤ i) (h1 : i < n) {ad : Addr} (e : A = some ad) {A' : Option Addr} {c : Nat} (hx : w1.cell? (ad.add i.toNat) = some (.slice A' (rd_L3 xs i).length c)) : ∀ W_, KeepBut w W_ g none → Kd.string.C W_ A' (rd_L3 xs i).length (rd_L3 xs i) := by
  intro W_ hk
  have hne : ad.block ≠ g := Kd.foot_ne (W := w) (by rw [← e]; exact h) (by omega) (by decide)
  obtain ⟨ad0, A0, c0, e0, hx0, l0, g0⟩ := at_L3 (h w (KeepBut.refl w g none)) i h0 h1
  obtain rfl : ad = ad0 := Option.some.inj (e.symm.trans e0)
  have hb : ∀ W2 : World, KeepBut w W2 g none → W2.cell? (ad.add i.toNat) = some (.slice A0 (rd_L3 xs i).length c0) := fun W2 hk2 => keep_cell hk2 hx0 (by first | (rw [add_block]; exact hne) | (show (Addr.add _ _).block ≠ _; rw [add_block]; exact hne))
  have q1 := Option.some.inj ((hb w1 hk1).symm.trans hx)
  injection q1 with qa _ _
  obtain ⟨ad2, B0, d0, e2, hy0, m0, f0⟩ := at_L3 (h W_ hk) i h0 h1
  obtain rfl : ad = ad2 := Option.some.inj (e.symm.trans e2)
  have q2 := Option.some.inj ((hb W_ hk).symm.trans hy0)
  injection q2 with qb _ _
  rw [← qa, qb]; exact f0

def rd_L4 (xs : List (List Bool)) (i : Int) : (List Bool) := xs.getD i.toNat ([] : List Bool)
theorem at_L4 {w : World} {A : Option Addr} {n : Nat} {xs : List (List Bool)} (h : Kd.C (Kd.slice 4 Kd.bool) w A n xs) (i : Int) (h0 : 0 ≤ i) (h1 : i < n) : ∃ ad A0 c0, A = some ad ∧ w.cell? (ad.add i.toNat) = some (.slice A0 (rd_L4 xs i).length c0) ∧ (rd_L4 xs i).length ≤ c0 ∧ Kd.bool.C w A0 (rd_L4 xs i).length (rd_L4 xs i) := by
  obtain ⟨ad, c, e, _, hK, hc0⟩ := Kd.C_get h ([] : List Bool) i h0 h1
  have hc : ∀ j u, c[j]? = some u → w.cell? (ad.add (i.toNat * 1 + j)) = some u := hc0
  obtain ⟨A0, c0, rfl, l0, g0⟩ := hK
  exact ⟨ad, A0, c0, e, by have hq := hc 0 _ rfl; rwa [Nat.mul_one, Nat.add_zero] at hq, l0, g0⟩
theorem foot_L4_0 {w w1 : World} {A : Option Addr} {n g : Nat} {xs : List (List Bool)} (h : ∀ W_, KeepBut w W_ g none → Kd.C (Kd.slice 4 Kd.bool) W_ A n xs) (hk1 : KeepBut w w1 g none) (i : Int) (h0 : 0 ≤ i) (h1 : i < n) {ad : Addr} (e : A = some ad) {A' : Option Addr} {c : Nat} (hx : w1.cell? (ad.add i.toNat) = some (.slice A' (rd_L4 xs i).length c)) : ∀ W_, KeepBut w W_ g none → Kd.bool.C W_ A' (rd_L4 xs i).length (rd_L4 xs i) := by
  intro W_ hk
  have hne : ad.block ≠ g := Kd.foot_ne (W := w) (by rw [← e]; exact h) (by omega) (by decide)
  obtain ⟨ad0, A0, c0, e0, hx0, l0, g0⟩ := at_L4 (h w (KeepBut.refl w g none)) i h0 h1
  obtain rfl : ad = ad0 := Option.some.inj (e.symm.trans e0)
  have hb : ∀ W2 : World, KeepBut w W2 g none → W2.cell? (ad.add i.toNat) = some (.slice A0 (rd_L4 xs i).length c0) := fun W2 hk2 => keep_cell hk2 hx0 (by first | (rw [add_block]; exact hne) | (show (Addr.add _ _).block ≠ _; rw [add_block]; exact hne))
  have q1 := Option.some.inj ((hb w1 hk1).symm.trans hx)
  injection q1 with qa _ _
  obtain ⟨ad2, B0, d0, e2, hy0, m0, f0⟩ := at_L4 (h W_ hk) i h0 h1
  obtain rfl : ad = ad2 := Option.some.inj (e.symm.trans e2)
  have q2 := Option.some.inj ((hb W_ hk).symm.trans hy0)
  injection q2 with qb _ _
  rw [← qa, qb]; exact f0

/-! #### struct type 26, nested in itself -/
structure S26 where
  f0 : Int
  f1 : Int
  f2 : Int
  f3 : (List ByteArray)
  f4 : (List Bool)
  f5 : (List S26)
def z26 : S26 := ⟨(0 : Int), (0 : Int), (0 : Int), ([] : List ByteArray), ([] : List Bool), ([] : List S26)⟩
def F26 (d : Kd S26) : Kd S26 := Kd.iso (Kd.pair (Kd.int .i64) (Kd.pair (Kd.int .i64) (Kd.pair (Kd.int .i64) (Kd.pair (Kd.slice 9 Kd.string) (Kd.pair (Kd.slice 4 Kd.bool) (Kd.slice 26 d)))))) (fun x : S26 => (x.f0, x.f1, x.f2, x.f3, x.f4, x.f5))
theorem mono26 : Kd.Mono F26 := Kd.mono_iso _ (Kd.mono_pair (Kd.mono_const _) (Kd.mono_pair (Kd.mono_const _) (Kd.mono_pair (Kd.mono_const _) (Kd.mono_pair (Kd.mono_const _) (Kd.mono_pair (Kd.mono_const _) (Kd.mono_slice 26 Kd.mono_id))))))
theorem sub26 : Kd.Sub F26 [4, 9, 26] := Kd.sub_iso _ (Kd.sub_pair (Kd.sub_const _ (by decide)) (Kd.sub_pair (Kd.sub_const _ (by decide)) (Kd.sub_pair (Kd.sub_const _ (by decide)) (Kd.sub_pair (Kd.sub_const _ (by decide)) (Kd.sub_pair (Kd.sub_const _ (by decide)) (Kd.sub_slice 26 (by decide) Kd.sub_id))))))
theorem sz26 : ∀ n, (Kd.upto F26 6 [4, 9, 26] n).sz = 6 := Kd.upto_sz (fun _ => rfl)
def k26 : Kd S26 := Kd.fix F26 6 [4, 9, 26] sz26 (Kd.upto_E sub26)
theorem k26_heap : Kd.Heap k26 := Kd.heap_fix (fun _ h_ => Kd.heap_iso _ (Kd.heap_pair (Kd.heap_int .i64) (Kd.heap_pair (Kd.heap_int .i64) (Kd.heap_pair (Kd.heap_int .i64) (Kd.heap_pair (Kd.heap_slice 9 Kd.heap_string) (Kd.heap_pair (Kd.heap_slice 4 Kd.heap_bool) (Kd.heap_slice 26 h_)))))))
theorem k26_open {w : World} {x : S26} {cs : List Value} (h : k26.K w x cs) : ∃ A3 c3 A4 c4 A5 c5, cs = [.int .i64 x.f0, .int .i64 x.f1, .int .i64 x.f2, .slice A3 x.f3.length c3, .slice A4 x.f4.length c4, .slice A5 x.f5.length c5] ∧ x.f3.length ≤ c3 ∧ Kd.string.C w A3 x.f3.length x.f3 ∧ x.f4.length ≤ c4 ∧ Kd.bool.C w A4 x.f4.length x.f4 ∧ x.f5.length ≤ c5 ∧ k26.C w A5 x.f5.length x.f5 := by
  obtain ⟨n, h⟩ := h
  cases n with
  | zero => exact h.elim
  | succ n =>
    obtain ⟨_, _, rfl, rfl, ⟨_, _, rfl, rfl, ⟨_, _, rfl, rfl, ⟨_, _, rfl, ⟨A3, c3, rfl, l3, g3⟩, ⟨_, _, rfl, ⟨A4, c4, rfl, l4, g4⟩, ⟨A5, c5, rfl, l5, g5⟩⟩⟩⟩⟩⟩ := h
    exact ⟨A3, c3, A4, c4, A5, c5, rfl, l3, g3, l4, g4, l5, Kd.fix_C g5⟩
theorem k26_openM {w : World} {base : Nat} {ok : Nat → Prop} {x : S26} {cs : List Value} (h : k26.M w base ok x cs) : ∃ v3 v4 v5, cs = [.int .i64 x.f0, .int .i64 x.f1, .int .i64 x.f2, v3, v4, v5] ∧ Kd.string.R 9 w base ok v3 x.f3 ∧ Kd.bool.R 4 w base ok v4 x.f4 ∧ k26.R 26 w base ok v5 x.f5 := by
  obtain ⟨n, h⟩ := h
  cases n with
  | zero => exact h.elim
  | succ n =>
    obtain ⟨_, _, rfl, rfl, ⟨_, _, rfl, rfl, ⟨_, _, rfl, rfl, ⟨_, _, rfl, ⟨v3, rfl, g3⟩, ⟨_, _, rfl, ⟨v4, rfl, g4⟩, ⟨v5, rfl, g5⟩⟩⟩⟩⟩⟩ := h
    exact ⟨v3, v4, v5, rfl, g3, g4, Kd.fix_R g5⟩
theorem k26_mk (w : World) (x : S26) {A3 : Option Addr} {c3 : Nat} (l3 : x.f3.length ≤ c3) (g3 : Kd.string.C w A3 x.f3.length x.f3) {A4 : Option Addr} {c4 : Nat} (l4 : x.f4.length ≤ c4) (g4 : Kd.bool.C w A4 x.f4.length x.f4) {A5 : Option Addr} {c5 : Nat} (l5 : x.f5.length ≤ c5) (g5 : k26.C w A5 x.f5.length x.f5) : k26.K w x [.int .i64 x.f0, .int .i64 x.f1, .int .i64 x.f2, .slice A3 x.f3.length c3, .slice A4 x.f4.length c4, .slice A5 x.f5.length c5] := by
  obtain ⟨n5, q5⟩ := Kd.fix_C_back mono26 g5
  have r5 := Kd.upto_C_le mono26 sz26 (show n5 ≤ n5 by omega) q5
  exact ⟨n5 + 1, ⟨[.int .i64 x.f0], [.int .i64 x.f1, .int .i64 x.f2, .slice A3 x.f3.length c3, .slice A4 x.f4.length c4, .slice A5 x.f5.length c5], rfl, rfl, ⟨[.int .i64 x.f1], [.int .i64 x.f2, .slice A3 x.f3.length c3, .slice A4 x.f4.length c4, .slice A5 x.f5.length c5], rfl, rfl, ⟨[.int .i64 x.f2], [.slice A3 x.f3.length c3, .slice A4 x.f4.length c4, .slice A5 x.f5.length c5], rfl, rfl, ⟨[.slice A3 x.f3.length c3], [.slice A4 x.f4.length c4, .slice A5 x.f5.length c5], rfl, ⟨A3, c3, rfl, l3, g3⟩, ⟨[.slice A4 x.f4.length c4], [.slice A5 x.f5.length c5], rfl, ⟨A4, c4, rfl, l4, g4⟩, ⟨A5, c5, rfl, l5, r5⟩⟩⟩⟩⟩⟩⟩
theorem k26_mkM (w : World) (base : Nat) (ok : Nat → Prop) (x : S26) {v3 : Value} (g3 : Kd.string.R 9 w base ok v3 x.f3) {v4 : Value} (g4 : Kd.bool.R 4 w base ok v4 x.f4) {v5 : Value} (g5 : k26.R 26 w base ok v5 x.f5) : k26.M w base ok x [.int .i64 x.f0, .int .i64 x.f1, .int .i64 x.f2, v3, v4, v5] := by
  obtain ⟨n5, q5⟩ := Kd.fix_R_back mono26 g5
  have r5 := Kd.upto_R_le mono26 sz26 (show n5 ≤ n5 by omega) q5
  exact ⟨n5 + 1, ⟨[.int .i64 x.f0], [.int .i64 x.f1, .int .i64 x.f2, v3, v4, v5], rfl, rfl, ⟨[.int .i64 x.f1], [.int .i64 x.f2, v3, v4, v5], rfl, rfl, ⟨[.int .i64 x.f2], [v3, v4, v5], rfl, rfl, ⟨[v3], [v4, v5], rfl, ⟨v3, rfl, g3⟩, ⟨[v4], [v5], rfl, ⟨v4, rfl, g4⟩, ⟨v5, rfl, r5⟩⟩⟩⟩⟩⟩⟩
def rd_T26 (xs : List S26) (i : Int) : S26 := xs.getD i.toNat z26
theorem at_T26 {w : World} {A : Option Addr} {n : Nat} {xs : List S26} (h : Kd.C k26 w A n xs) (i : Int) (h0 : 0 ≤ i) (h1 : i < n) : ∃ ad A3 c3 A4 c4 A5 c5, A = some ad ∧ w.cell? (ad.add (i.toNat * 6)) = some (.int .i64 (rd_T26 xs i).f0) ∧ w.cell? ⟨(ad.add (i.toNat * 6)).block, (ad.add (i.toNat * 6)).off + 1, none⟩ = some (.int .i64 (rd_T26 xs i).f1) ∧ w.cell? ⟨(ad.add (i.toNat * 6)).block, (ad.add (i.toNat * 6)).off + 2, none⟩ = some (.int .i64 (rd_T26 xs i).f2) ∧ w.cell? ⟨(ad.add (i.toNat * 6)).block, (ad.add (i.toNat * 6)).off + 3, none⟩ = some (.slice A3 (rd_T26 xs i).f3.length c3) ∧ w.cell? ⟨(ad.add (i.toNat * 6)).block, (ad.add (i.toNat * 6)).off + 4, none⟩ = some (.slice A4 (rd_T26 xs i).f4.length c4) ∧ w.cell? ⟨(ad.add (i.toNat * 6)).block, (ad.add (i.toNat * 6)).off + 5, none⟩ = some (.slice A5 (rd_T26 xs i).f5.length c5) ∧ (rd_T26 xs i).f3.length ≤ c3 ∧ Kd.string.C w A3 (rd_T26 xs i).f3.length (rd_T26 xs i).f3 ∧ (rd_T26 xs i).f4.length ≤ c4 ∧ Kd.bool.C w A4 (rd_T26 xs i).f4.length (rd_T26 xs i).f4 ∧ (rd_T26 xs i).f5.length ≤ c5 ∧ k26.C w A5 (rd_T26 xs i).f5.length (rd_T26 xs i).f5 := by
  obtain ⟨ad, c, e, _, hK, hc0⟩ := Kd.C_get h z26 i h0 h1
  have hc : ∀ j u, c[j]? = some u → w.cell? (ad.add (i.toNat * 6 + j)) = some u := hc0
  obtain ⟨A3, c3, A4, c4, A5, c5, rfl, l3, g3, l4, g4, l5, g5⟩ := k26_open hK
  exact ⟨ad, A3, c3, A4, c4, A5, c5, e, hc 0 _ rfl, by rw [← add_field _ _ 1 (by omega)]; exact hc 1 _ rfl, by rw [← add_field _ _ 2 (by omega)]; exact hc 2 _ rfl, by rw [← add_field _ _ 3 (by omega)]; exact hc 3 _ rfl, by rw [← add_field _ _ 4 (by omega)]; exact hc 4 _ rfl, by rw [← add_field _ _ 5 (by omega)]; exact hc 5 _ rfl, l3, g3, l4, g4, l5, g5⟩
theorem foot_T26_3 {w w1 : World} {A : Option Addr} {n g : Nat} {xs : List S26} (h : ∀ W_, KeepBut w W_ g none → Kd.C k26 W_ A n xs) (hk1 : KeepBut w w1 g none) (i : Int) (h0 : 0 ≤ i) (h1 : i < n) {ad : Addr} (e : A = some ad) {A' : Option Addr} {c : Nat} (hx : w1.cell? ⟨(ad.add (i.toNat * 6)).block, (ad.add (i.toNat * 6)).off + 3, none⟩ = some (.slice A' (rd_T26 xs i).f3.length c)) : ∀ W_, KeepBut w W_ g none → Kd.string.C W_ A' (rd_T26 xs i).f3.length (rd_T26 xs i).f3 := by
  intro W_ hk
  have hne : ad.block ≠ g := Kd.foot_ne (W := w) (by rw [← e]; exact h) (by omega) (by decide)
  obtain ⟨ad0, A3, c3, A4, c4, A5, c5, e0, hx0, hx1, hx2, hx3, hx4, hx5, l3, g3, l4, g4, l5, g5⟩ := at_T26 (h w (KeepBut.refl w g none)) i h0 h1
  obtain rfl : ad = ad0 := Option.some.inj (e.symm.trans e0)
  have hb : ∀ W2 : World, KeepBut w W2 g none → W2.cell? ⟨(ad.add (i.toNat * 6)).block, (ad.add (i.toNat * 6)).off + 3, none⟩ = some (.slice A3 (rd_T26 xs i).f3.length c3) := fun W2 hk2 => keep_cell hk2 hx3 (by first | (rw [add_block]; exact hne) | (show (Addr.add _ _).block ≠ _; rw [add_block]; exact hne))
  have q1 := Option.some.inj ((hb w1 hk1).symm.trans hx)
  injection q1 with qa _ _
  obtain ⟨ad2, B3, d3, B4, d4, B5, d5, e2, hy0, hy1, hy2, hy3, hy4, hy5, m3, f3, m4, f4, m5, f5⟩ := at_T26 (h W_ hk) i h0 h1
  obtain rfl : ad = ad2 := Option.some.inj (e.symm.trans e2)
  have q2 := Option.some.inj ((hb W_ hk).symm.trans hy3)
  injection q2 with qb _ _
  rw [← qa, qb]; exact f3
theorem foot_T26_4 {w w1 : World} {A : Option Addr} {n g : Nat} {xs : List S26} (h : ∀ W_, KeepBut w W_ g none → Kd.C k26 W_ A n xs) (hk1 : KeepBut w w1 g none) (i : Int) (h0 : 0 ≤ i) (h1 : i < n) {ad : Addr} (e : A = some ad) {A' : Option Addr} {c : Nat} (hx : w1.cell? ⟨(ad.add (i.toNat * 6)).block, (ad.add (i.toNat * 6)).off + 4, none⟩ = some (.slice A' (rd_T26 xs i).f4.length c)) : ∀ W_, KeepBut w W_ g none → Kd.bool.C W_ A' (rd_T26 xs i).f4.length (rd_T26 xs i).f4 := by
  intro W_ hk
  have hne : ad.block ≠ g := Kd.foot_ne (W := w) (by rw [← e]; exact h) (by omega) (by decide)
  obtain ⟨ad0, A3, c3, A4, c4, A5, c5, e0, hx0, hx1, hx2, hx3, hx4, hx5, l3, g3, l4, g4, l5, g5⟩ := at_T26 (h w (KeepBut.refl w g none)) i h0 h1
  obtain rfl : ad = ad0 := Option.some.inj (e.symm.trans e0)
  have hb : ∀ W2 : World, KeepBut w W2 g none → W2.cell? ⟨(ad.add (i.toNat * 6)).block, (ad.add (i.toNat * 6)).off + 4, none⟩ = some (.slice A4 (rd_T26 xs i).f4.length c4) := fun W2 hk2 => keep_cell hk2 hx4 (by first | (rw [add_block]; exact hne) | (show (Addr.add _ _).block ≠ _; rw [add_block]; exact hne))
  have q1 := Option.some.inj ((hb w1 hk1).symm.trans hx)
  injection q1 with qa _ _
  obtain ⟨ad2, B3, d3, B4, d4, B5, d5, e2, hy0, hy1, hy2, hy3, hy4, hy5, m3, f3, m4, f4, m5, f5⟩ := at_T26 (h W_ hk) i h0 h1
  obtain rfl : ad = ad2 := Option.some.inj (e.symm.trans e2)
  have q2 := Option.some.inj ((hb W_ hk).symm.trans hy4)
  injection q2 with qb _ _
  rw [← qa, qb]; exact f4
theorem foot_T26_5 {w w1 : World} {A : Option Addr} {n g : Nat} {xs : List S26} (h : ∀ W_, KeepBut w W_ g none → Kd.C k26 W_ A n xs) (hk1 : KeepBut w w1 g none) (i : Int) (h0 : 0 ≤ i) (h1 : i < n) {ad : Addr} (e : A = some ad) {A' : Option Addr} {c : Nat} (hx : w1.cell? ⟨(ad.add (i.toNat * 6)).block, (ad.add (i.toNat * 6)).off + 5, none⟩ = some (.slice A' (rd_T26 xs i).f5.length c)) : ∀ W_, KeepBut w W_ g none → k26.C W_ A' (rd_T26 xs i).f5.length (rd_T26 xs i).f5 := by
  intro W_ hk
  have hne : ad.block ≠ g := Kd.foot_ne (W := w) (by rw [← e]; exact h) (by omega) (by decide)
  obtain ⟨ad0, A3, c3, A4, c4, A5, c5, e0, hx0, hx1, hx2, hx3, hx4, hx5, l3, g3, l4, g4, l5, g5⟩ := at_T26 (h w (KeepBut.refl w g none)) i h0 h1
  obtain rfl : ad = ad0 := Option.some.inj (e.symm.trans e0)
  have hb : ∀ W2 : World, KeepBut w W2 g none → W2.cell? ⟨(ad.add (i.toNat * 6)).block, (ad.add (i.toNat * 6)).off + 5, none⟩ = some (.slice A5 (rd_T26 xs i).f5.length c5) := fun W2 hk2 => keep_cell hk2 hx5 (by first | (rw [add_block]; exact hne) | (show (Addr.add _ _).block ≠ _; rw [add_block]; exact hne))
  have q1 := Option.some.inj ((hb w1 hk1).symm.trans hx)
  injection q1 with qa _ _
  obtain ⟨ad2, B3, d3, B4, d4, B5, d5, e2, hy0, hy1, hy2, hy3, hy4, hy5, m3, f3, m4, f4, m5, f5⟩ := at_T26 (h W_ hk) i h0 h1
  obtain rfl : ad = ad2 := Option.some.inj (e.symm.trans e2)
  have q2 := Option.some.inj ((hb W_ hk).symm.trans hy5)
  injection q2 with qb _ _
  rw [← qa, qb]; exact f5

/-! #### struct type 31, nested in itself -/
structure S31 where
  f0 : Int
  f1 : Int
  f2 : Int
  f3 : (List ByteArray)
  f4 : (List Bool)
  f5 : (List S31)
def z31 : S31 := ⟨(0 : Int), (0 : Int), (0 : Int), ([] : List ByteArray), ([] : List Bool), ([] : List S31)⟩
def F31 (d : Kd S31) : Kd S31 := Kd.iso (Kd.pair (Kd.int .i64) (Kd.pair (Kd.int .i64) (Kd.pair (Kd.int .i64) (Kd.pair (Kd.slice 9 Kd.string) (Kd.pair (Kd.slice 4 Kd.bool) (Kd.slice 31 d)))))) (fun x : S31 => (x.f0, x.f1, x.f2, x.f3, x.f4, x.f5))
theorem mono31 : Kd.Mono F31 := Kd.mono_iso _ (Kd.mono_pair (Kd.mono_const _) (Kd.mono_pair (Kd.mono_const _) (Kd.mono_pair (Kd.mono_const _) (Kd.mono_pair (Kd.mono_const _) (Kd.mono_pair (Kd.mono_const _) (Kd.mono_slice 31 Kd.mono_id))))))
theorem sub31 : Kd.Sub F31 [4, 9, 31] := Kd.sub_iso _ (Kd.sub_pair (Kd.sub_const _ (by decide)) (Kd.sub_pair (Kd.sub_const _ (by decide)) (Kd.sub_pair (Kd.sub_const _ (by decide)) (Kd.sub_pair (Kd.sub_const _ (by decide)) (Kd.sub_pair (Kd.sub_const _ (by decide)) (Kd.sub_slice 31 (by decide) Kd.sub_id))))))
theorem sz31 : ∀ n, (Kd.upto F31 6 [4, 9, 31] n).sz = 6 := Kd.upto_sz (fun _ => rfl)
def k31 : Kd S31 := Kd.fix F31 6 [4, 9, 31] sz31 (Kd.upto_E sub31)
theorem k31_heap : Kd.Heap k31 := Kd.heap_fix (fun _ h_ => Kd.heap_iso _ (Kd.heap_pair (Kd.heap_int .i64) (Kd.heap_pair (Kd.heap_int .i64) (Kd.heap_pair (Kd.heap_int .i64) (Kd.heap_pair (Kd.heap_slice 9 Kd.heap_string) (Kd.heap_pair (Kd.heap_slice 4 Kd.heap_bool) (Kd.heap_slice 31 h_)))))))
theorem k31_open {w : World} {x : S31} {cs : List Value} (h : k31.K w x cs) : ∃ A3 c3 A4 c4 A5 c5, cs = [.int .i64 x.f0, .int .i64 x.f1, .int .i64 x.f2, .slice A3 x.f3.length c3, .slice A4 x.f4.length c4, .slice A5 x.f5.length c5] ∧ x.f3.length ≤ c3 ∧ Kd.string.C w A3 x.f3.length x.f3 ∧ x.f4.length ≤ c4 ∧ Kd.bool.C w A4 x.f4.length x.f4 ∧ x.f5.length ≤ c5 ∧ k31.C w A5 x.f5.length x.f5 := by
  obtain ⟨n, h⟩ := h
  cases n with
  | zero => exact h.elim
  | succ n =>
    obtain ⟨_, _, rfl, rfl, ⟨_, _, rfl, rfl, ⟨_, _, rfl, rfl, ⟨_, _, rfl, ⟨A3, c3, rfl, l3, g3⟩, ⟨_, _, rfl, ⟨A4, c4, rfl, l4, g4⟩, ⟨A5, c5, rfl, l5, g5⟩⟩⟩⟩⟩⟩ := h
    exact ⟨A3, c3, A4, c4, A5, c5, rfl, l3, g3, l4, g4, l5, Kd.fix_C g5⟩
theorem k31_openM {w : World} {base : Nat} {ok : Nat → Prop} {x : S31} {cs : List Value} (h : k31.M w base ok x cs) : ∃ v3 v4 v5, cs = [.int .i64 x.f0, .int .i64 x.f1, .int .i64 x.f2, v3, v4, v5] ∧ Kd.string.R 9 w base ok v3 x.f3 ∧ Kd.bool.R 4 w base ok v4 x.f4 ∧ k31.R 31 w base ok v5 x.f5 := by
  obtain ⟨n, h⟩ := h
  cases n with
  | zero => exact h.elim
  | succ n =>
    obtain ⟨_, _, rfl, rfl, ⟨_, _, rfl, rfl, ⟨_, _, rfl, rfl, ⟨_, _, rfl, ⟨v3, rfl, g3⟩, ⟨_, _, rfl, ⟨v4, rfl, g4⟩, ⟨v5, rfl, g5⟩⟩⟩⟩⟩⟩ := h
    exact ⟨v3, v4, v5, rfl, g3, g4, Kd.fix_R g5⟩
theorem k31_mk (w : World) (x : S31) {A3 : Option Addr} {c3 : Nat} (l3 : x.f3.length ≤ c3) (g3 : Kd.string.C w A3 x.f3.length x.f3) {A4 : Option Addr} {c4 : Nat} (l4 : x.f4.length ≤ c4) (g4 : Kd.bool.C w A4 x.f4.length x.f4) {A5 : Option Addr} {c5 : Nat} (l5 : x.f5.length ≤ c5) (g5 : k31.C w A5 x.f5.length x.f5) : k31.K w x [.int .i64 x.f0, .int .i64 x.f1, .int .i64 x.f2, .slice A3 x.f3.length c3, .slice A4 x.f4.length c4, .slice A5 x.f5.length c5] := by
  obtain ⟨n5, q5⟩ := Kd.fix_C_back mono31 g5
  have r5 := Kd.upto_C_le mono31 sz31 (show n5 ≤ n5 by omega) q5
  exact ⟨n5 + 1, ⟨[.int .i64 x.f0], [.int .i64 x.f1, .int .i64 x.f2, .slice A3 x.f3.length c3, .slice A4 x.f4.length c4, .slice A5 x.f5.length c5], rfl, rfl, ⟨[.int .i64 x.f1], [.int .i64 x.f2, .slice A3 x.f3.length c3, .slice A4 x.f4.length c4, .slice A5 x.f5.length c5], rfl, rfl, ⟨[.int .i64 x.f2], [.slice A3 x.f3.length c3, .slice A4 x.f4.length c4, .slice A5 x.f5.length c5], rfl, rfl, ⟨[.slice A3 x.f3.length c3], [.slice A4 x.f4.length c4, .slice A5 x.f5.length c5], rfl, ⟨A3, c3, rfl, l3, g3⟩, ⟨[.slice A4 x.f4.length c4], [.slice A5 x.f5.length c5], rfl, ⟨A4, c4, rfl, l4, g4⟩, ⟨A5, c5, rfl, l5, r5⟩⟩⟩⟩⟩⟩⟩
theorem k31_mkM (w : World) (base : Nat) (ok : Nat → Prop) (x : S31) {v3 : Value} (g3 : Kd.string.R 9 w base ok v3 x.f3) {v4 : Value} (g4 : Kd.bool.R 4 w base ok v4 x.f4) {v5 : Value} (g5 : k31.R 31 w base ok v5 x.f5) : k31.M w base ok x [.int .i64 x.f0, .int .i64 x.f1, .int .i64 x.f2, v3, v4, v5] := by
  obtain ⟨n5, q5⟩ := Kd.fix_R_back mono31 g5
  have r5 := Kd.upto_R_le mono31 sz31 (show n5 ≤ n5 by omega) q5
  exact ⟨n5 + 1, ⟨[.int .i64 x.f0], [.int .i64 x.f1, .int .i64 x.f2, v3, v4, v5], rfl, rfl, ⟨[.int .i64 x.f1], [.int .i64 x.f2, v3, v4, v5], rfl, rfl, ⟨[.int .i64 x.f2], [v3, v4, v5], rfl, rfl, ⟨[v3], [v4, v5], rfl, ⟨v3, rfl, g3⟩, ⟨[v4], [v5], rfl, ⟨v4, rfl, g4⟩, ⟨v5, rfl, r5⟩⟩⟩⟩⟩⟩⟩
def rd_T31 (xs : List S31) (i : Int) : S31 := xs.getD i.toNat z31
theorem at_T31 {w : World} {A : Option Addr} {n : Nat} {xs : List S31} (h : Kd.C k31 w A n xs) (i : Int) (h0 : 0 ≤ i) (h1 : i < n) : ∃ ad A3 c3 A4 c4 A5 c5, A = some ad ∧ w.cell? (ad.add (i.toNat * 6)) = some (.int .i64 (rd_T31 xs i).f0) ∧ w.cell? ⟨(ad.add (i.toNat * 6)).block, (ad.add (i.toNat * 6)).off + 1, none⟩ = some (.int .i64 (rd_T31 xs i).f1) ∧ w.cell? ⟨(ad.add (i.toNat * 6)).block, (ad.add (i.toNat * 6)).off + 2, none⟩ = some (.int .i64 (rd_T31 xs i).f2) ∧ w.cell? ⟨(ad.add (i.toNat * 6)).block, (ad.add (i.toNat * 6)).off + 3, none⟩ = some (.slice A3 (rd_T31 xs i).f3.length c3) ∧ w.cell? ⟨(ad.add (i.toNat * 6)).block, (ad.add (i.toNat * 6)).off + 4, none⟩ = some (.slice A4 (rd_T31 xs i).f4.length c4) ∧ w.cell? ⟨(ad.add (i.toNat * 6)).block, (ad.add (i.toNat * 6)).off + 5, none⟩ = some (.slice A5 (rd_T31 xs i).f5.length c5) ∧ (rd_T31 xs i).f3.length ≤ c3 ∧ Kd.string.C w A3 (rd_T31 xs i).f3.length (rd_T31 xs i).f3 ∧ (rd_T31 xs i).f4.length ≤ c4 ∧ Kd.bool.C w A4 (rd_T31 xs i).f4.length (rd_T31 xs i).f4 ∧ (rd_T31 xs i).f5.length ≤ c5 ∧ k31.C w A5 (rd_T31 xs i).f5.length (rd_T31 xs i).f5 := by
  obtain ⟨ad, c, e, _, hK, hc0⟩ := Kd.C_get h z31 i h0 h1
  have hc : ∀ j u, c[j]? = some u → w.cell? (ad.add (i.toNat * 6 + j)) = some u := hc0
  obtain ⟨A3, c3, A4, c4, A5, c5, rfl, l3, g3, l4, g4, l5, g5⟩ := k31_open hK
  exact ⟨ad, A3, c3, A4, c4, A5, c5, e, hc 0 _ rfl, by rw [← add_field _ _ 1 (by omega)]; exact hc 1 _ rfl, by rw [← add_field _ _ 2 (by omega)]; exact hc 2 _ rfl, by rw [← add_field _ _ 3 (by omega)]; exact hc 3 _ rfl, by rw [← add_field _ _ 4 (by omega)]; exact hc 4 _ rfl, by rw [← add_field _ _ 5 (by omega)]; exact hc 5 _ rfl, l3, g3, l4, g4, l5, g5⟩
theorem foot_T31_3 {w w1 : World} {A : Option Addr} {n g : Nat} {xs : List S31} (h : ∀ W_, KeepBut w W_ g none → Kd.C k31 W_ A n xs) (hk1 : KeepBut w w1 g none) (i : Int) (h0 : 0 ≤ i) (h1 : i < n) {ad : Addr} (e : A = some ad) {A' : Option Addr} {c : Nat} (hx : w1.cell? ⟨(ad.add (i.toNat * 6)).block, (ad.add (i.toNat * 6)).off + 3, none⟩ = some (.slice A' (rd_T31 xs i).f3.length c)) : ∀ W_, KeepBut w W_ g none → Kd.string.C W_ A' (rd_T31 xs i).f3.length (rd_T31 xs i).f3 := by
  intro W_ hk
  have hne : ad.block ≠ g := Kd.foot_ne (W := w) (by rw [← e]; exact h) (by omega) (by decide)
  obtain ⟨ad0, A3, c3, A4, c4, A5, c5, e0, hx0, hx1, hx2, hx3, hx4, hx5, l3, g3, l4, g4, l5, g5⟩ := at_T31 (h w (KeepBut.refl w g none)) i h0 h1
  obtain rfl : ad = ad0 := Option.some.inj (e.symm.trans e0)
  have hb : ∀ W2 : World, KeepBut w W2 g none → W2.cell? ⟨(ad.add (i.toNat * 6)).block, (ad.add (i.toNat * 6)).off + 3, none⟩ = some (.slice A3 (rd_T31 xs i).f3.length c3) := fun W2 hk2 => keep_cell hk2 hx3 (by first | (rw [add_block]; exact hne) | (show (Addr.add _ _).block ≠ _; rw [add_block]; exact hne))
  have q1 := Option.some.inj ((hb w1 hk1).symm.trans hx)
  injection q1 with qa _ _
  obtain ⟨ad2, B3, d3, B4, d4, B5, d5, e2, hy0, hy1, hy2, hy3, hy4, hy5, m3, f3, m4, f4, m5, f5⟩ := at_T31 (h W_ hk) i h0 h1
  obtain rfl : ad = ad2 := Option.some.inj (e.symm.trans e2)
  have q2 := Option.some.inj ((hb W_ hk).symm.trans hy3)
  injection q2 with qb _ _
  rw [← qa, qb]; exact f3
theorem foot_T31_4 {w w1 : World} {A : Option Addr} {n g : Nat} {xs : List S31} (h : ∀ W_, KeepBut w W_ g none → Kd.C k31 W_ A n xs) (hk1 : KeepBut w w1 g none) (i : Int) (h0 : 0 ≤ i) (h1 : i < n) {ad : Addr} (e : A = some ad) {A' : Option Addr} {c : Nat} (hx : w1.cell? ⟨(ad.add (i.toNat * 6)).block, (ad.add (i.toNat * 6)).off + 4, none⟩ = some (.slice A' (rd_T31 xs i).f4.length c)) : ∀ W_, KeepBut w W_ g none → Kd.bool.C W_ A' (rd_T31 xs i).f4.length (rd_T31 xs i).f4 := by
  intro W_ hk
  have hne : ad.block ≠ g := Kd.foot_ne (W := w) (by rw [← e]; exact h) (by omega) (by decide)
  obtain ⟨ad0, A3, c3, A4, c4, A5, c5, e0, hx0, hx1, hx2, hx3, hx4, hx5, l3, g3, l4, g4, l5, g5⟩ := at_T31 (h w (KeepBut.refl w g none)) i h0 h1
  obtain rfl : ad = ad0 := Option.some.inj (e.symm.trans e0)
  have hb : ∀ W2 : World, KeepBut w W2 g none → W2.cell? ⟨(ad.add (i.toNat * 6)).block, (ad.add (i.toNat * 6)).off + 4, none⟩ = some (.slice A4 (rd_T31 xs i).f4.length c4) := fun W2 hk2 => keep_cell hk2 hx4 (by first | (rw [add_block]; exact hne) | (show (Addr.add _ _).block ≠ _; rw [add_block]; exact hne))
  have q1 := Option.some.inj ((hb w1 hk1).symm.trans hx)
  injection q1 with qa _ _
  obtain ⟨ad2, B3, d3, B4, d4, B5, d5, e2, hy0, hy1, hy2, hy3, hy4, hy5, m3, f3, m4, f4, m5, f5⟩ := at_T31 (h W_ hk) i h0 h1
  obtain rfl : ad = ad2 := Option.some.inj (e.symm.trans e2)
  have q2 := Option.some.inj ((hb W_ hk).symm.trans hy4)
  injection q2 with qb _ _
  rw [← qa, qb]; exact f4
theorem foot_T31_5 {w w1 : World} {A : Option Addr} {n g : Nat} {xs : List S31} (h : ∀ W_, KeepBut w W_ g none → Kd.C k31 W_ A n xs) (hk1 : KeepBut w w1 g none) (i : Int) (h0 : 0 ≤ i) (h1 : i < n) {ad : Addr} (e : A = some ad) {A' : Option Addr} {c : Nat} (hx : w1.cell? ⟨(ad.add (i.toNat * 6)).block, (ad.add (i.toNat * 6)).off + 5, none⟩ = some (.slice A' (rd_T31 xs i).f5.length c)) : ∀ W_, KeepBut w W_ g none → k31.C W_ A' (rd_T31 xs i).f5.length (rd_T31 xs i).f5 := by
  intro W_ hk
  have hne : ad.block ≠ g := Kd.foot_ne (W := w) (by rw [← e]; exact h) (by omega) (by decide)
  obtain ⟨ad0, A3, c3, A4, c4, A5, c5, e0, hx0, hx1, hx2, hx3, hx4, hx5, l3, g3, l4, g4, l5, g5⟩ := at_T31 (h w (KeepBut.refl w g none)) i h0 h1
  obtain rfl : ad = ad0 := Option.some.inj (e.symm.trans e0)
  have hb : ∀ W2 : World, KeepBut w W2 g none → W2.cell? ⟨(ad.add (i.toNat * 6)).block, (ad.add (i.toNat * 6)).off + 5, none⟩ = some (.slice A5 (rd_T31 xs i).f5.length c5) := fun W2 hk2 => keep_cell hk2 hx5 (by first | (rw [add_block]; exact hne) | (show (Addr.add _ _).block ≠ _; rw [add_block]; exact hne))
  have q1 := Option.some.inj ((hb w1 hk1).symm.trans hx)
  injection q1 with qa _ _
  obtain ⟨ad2, B3, d3, B4, d4, B5, d5, e2, hy0, hy1, hy2, hy3, hy4, hy5, m3, f3, m4, f4, m5, f5⟩ := at_T31 (h W_ hk) i h0 h1
  obtain rfl : ad = ad2 := Option.some.inj (e.symm.trans e2)
  have q2 := Option.some.inj ((hb W_ hk).symm.trans hy5)
  injection q2 with qb _ _
  rw [← qa, qb]; exact f5

end Go.Proofs.Ytfejipjfkffdiaa.P
