-- Laid by a program for this claim (the printer, turned): Lean checks it.
import Derived.Test.YtcdmkjcaipohiaaProg
import Derived.Laws.CopyOwn
import Derived.Deep.RegionLaw
import Derived.Below
import Derived.Deep.Draws
import Derived.Deep.AppendLies
import Derived.Maps.AppendAt
import Derived.OwnWalk
import Derived.Laws.BytesArg
import Derived.Laws.MakeOwn
import Derived.Laws.OwnMore
import Derived.Deep.OwnRows
import Derived.Tactics
import Derived.Lib.ConvBytes
import Derived.Laws.Slices
import Derived.WalkKit
import Derived.KernelRfl
import Derived.RowKit3
import Derived.Deep.LoopGhost
import Derived.Deep.QuietTactic
import Derived.BigQuiet
import Derived.WideLaws
import Derived.Deep.DeepCutAuto
import Derived.Deep.CutBlock
import Derived.Deep.RegionHeld3
import Derived.Laws.Rows
import Derived.Lib.AppendStr
import Derived.ArgAppend
import Derived.Laws.IdiomCopy
import Derived.OrdersHeld
import Derived.Laws.BitsLemmas
import Derived.RowKit
import Derived.Test.YtcdmkjcaipohiaaWWords
import Derived.Test.YtcdmkjcaipohiaaWLast
import Derived.Test.YtcdmkjcaipohiaaWTab
import Derived.Test.YtcdmkjcaipohiaaWFour
import Derived.Test.YtcdmkjcaipohiaaWQPut
import Derived.Test.YtcdmkjcaipohiaaWApart
import Derived.Test.YtcdmkjcaipohiaaWArr
import Derived.Test.YtcdmkjcaipohiaaWZeros
import Derived.Test.YtcdmkjcaipohiaaWFoot
import Derived.Test.YtcdmkjcaipohiaaWKept
import Derived.Test.YtcdmkjcaipohiaaWShare
import Derived.Test.YtcdmkjcaipohiaaWN
import Derived.Test.YtcdmkjcaipohiaaWFootNe
import Derived.Test.YtcdmkjcaipohiaaWAt
import Derived.Test.YtcdmkjcaipohiaaWEqStruct
import Derived.Test.YtcdmkjcaipohiaaWRepsOne
import Derived.Test.YtcdmkjcaipohiaaWInv
import Derived.Test.YtcdmkjcaipohiaaWInvWords
import Derived.Test.YtcdmkjcaipohiaaWGuard
import Derived.Test.YtcdmkjcaipohiaaWNEv
import Derived.Test.YtcdmkjcaipohiaaWMore
namespace Go.Proofs.Ytcdmkjcaipohiaa.P
open Go.RowKit Go.Proofs.YtcdmkjcaipohiaaW.PrintWords Go.Proofs.YtcdmkjcaipohiaaW.PrintLast Go.Proofs.YtcdmkjcaipohiaaW.PrintMore
attribute [local go_sem] max2_int min2_int max_two min_two max_three min_three max_four min_four   -- for this text's walks alone
set_option linter.unusedVariables false
set_option linter.unusedSimpArgs false



def errW : Option Int → Value
  | none => .nilIface
  | some c => .iface 0 (.int .i64 c)
theorem errW_none : errW none = .nilIface := rfl
theorem errW_some (c : Int) : errW (some c) = .iface 0 (.int .i64 c) := rfl

theorem pw_ne_nil (l : List UInt8) : (!l.isEmpty) = (l != []) := by cases l <;> rfl
theorem pw_eq_nil (l : List UInt8) : l.isEmpty = (l == []) := by cases l <;> rfl
theorem info3 : (Try.prog.info? 3).map (fun i => (i.zero, i.size, i.bytes)) = some (some (.int .i64 0), 1, 8) := by kernel_rfl
theorem info4 : (Try.prog.info? 4).map (fun i => (i.zero, i.size, i.bytes)) = some (some (.bool false), 1, 1) := by kernel_rfl
theorem info41 : (Try.prog.info? 41).map (fun i => (i.zero, i.size, i.bytes)) = some (some (.agg #[(.int .i64 0), (.slice none 0 0)]), 2, 32) := by kernel_rfl
theorem info44 : (Try.prog.info? 44).map (fun i => (i.zero, i.size, i.bytes)) = some (some (.agg #[(.int .i64 0), (.int .i64 0), (.int .i64 0)]), 3, 24) := by kernel_rfl
-- the values' own types
/-! #### struct type 64 -/
structure S64 where
  f0 : Int
  f1 : Int
  f2 : Int
def z64 : S64 := ⟨(0 : Int), (0 : Int), (0 : Int)⟩
def k64 : Kd S64 := Kd.iso (Kd.pair (Kd.int .i64) (Kd.pair (Kd.int .i64) (Kd.int .i64))) (fun x : S64 => (x.f0, x.f1, x.f2))
theorem k64_open {w : World} {x : S64} {cs : List Value} (h : k64.K w x cs) : cs = [.int .i64 x.f0, .int .i64 x.f1, .int .i64 x.f2] := by
  obtain ⟨_, _, rfl, rfl, ⟨_, _, rfl, rfl, rfl⟩⟩ := h
  exact rfl
theorem k64_openM {w : World} {base : Nat} {ok : Nat → Prop} {x : S64} {cs : List Value} (h : k64.M w base ok x cs) : cs = [.int .i64 x.f0, .int .i64 x.f1, .int .i64 x.f2] := by
  obtain ⟨_, _, rfl, rfl, ⟨_, _, rfl, rfl, rfl⟩⟩ := h
  exact rfl
theorem k64_mk (w : World) (x : S64)  : k64.K w x [.int .i64 x.f0, .int .i64 x.f1, .int .i64 x.f2] := ⟨[.int .i64 x.f0], [.int .i64 x.f1, .int .i64 x.f2], rfl, rfl, ⟨[.int .i64 x.f1], [.int .i64 x.f2], rfl, rfl, rfl⟩⟩
theorem k64_mkM (w : World) (base : Nat) (ok : Nat → Prop) (x : S64)  : k64.M w base ok x [.int .i64 x.f0, .int .i64 x.f1, .int .i64 x.f2] := ⟨[.int .i64 x.f0], [.int .i64 x.f1, .int .i64 x.f2], rfl, rfl, ⟨[.int .i64 x.f1], [.int .i64 x.f2], rfl, rfl, rfl⟩⟩
def rd_T64 (xs : List S64) (i : Int) : S64 := xs.getD i.toNat z64
theorem at_T64 {w : World} {A : Option Addr} {n : Nat} {xs : List S64} (h : Kd.C k64 w A n xs) (i : Int) (h0 : 0 ≤ i) (h1 : i < n) : ∃ ad , A = some ad ∧ w.cell? (ad.add (i.toNat * 3)) = some (.int .i64 (rd_T64 xs i).f0) ∧ w.cell? ⟨(ad.add (i.toNat * 3)).block, (ad.add (i.toNat * 3)).off + 1, none⟩ = some (.int .i64 (rd_T64 xs i).f1) ∧ w.cell? ⟨(ad.add (i.toNat * 3)).block, (ad.add (i.toNat * 3)).off + 2, none⟩ = some (.int .i64 (rd_T64 xs i).f2) := by
  obtain ⟨ad, c, e, _, hK, hc0⟩ := Kd.C_get h z64 i h0 h1
  have hc : ∀ j u, c[j]? = some u → w.cell? (ad.add (i.toNat * 3 + j)) = some u := hc0
  obtain rfl := k64_open hK
  exact ⟨ad, e, hc 0 _ rfl, by rw [← add_field _ _ 1 (by omega)]; exact hc 1 _ rfl, by rw [← add_field _ _ 2 (by omega)]; exact hc 2 _ rfl⟩

def rd_L2 (xs : List (List S64)) (i : Int) : (List S64) := xs.getD i.toNat ([] : List S64)
theorem at_L2 {w : World} {A : Option Addr} {n : Nat} {xs : List (List S64)} (h : Kd.C (Kd.slice 64 k64) w A n xs) (i : Int) (h0 : 0 ≤ i) (h1 : i < n) : ∃ ad A0 c0, A = some ad ∧ w.cell? (ad.add i.toNat) = some (.slice A0 (rd_L2 xs i).length c0) ∧ (rd_L2 xs i).length ≤ c0 ∧ k64.C w A0 (rd_L2 xs i).length (rd_L2 xs i) := by
  obtain ⟨ad, c, e, _, hK, hc0⟩ := Kd.C_get h ([] : List S64) i h0 h1
  have hc : ∀ j u, c[j]? = some u → w.cell? (ad.add (i.toNat * 1 + j)) = some u := hc0
  obtain ⟨A0, c0, rfl, l0, g0⟩ := hK
  exact ⟨ad, A0, c0, e, by have hq := hc 0 _ rfl; rwa [Nat.mul_one, Nat.add_zero] at hq, l0, g0⟩
theorem foot_L2_0 {w w1 : World} {A : Option Addr} {n g : Nat} {xs : List (List S64)} (h : ∀ W_, KeepBut w W_ g none → Kd.C (Kd.slice 64 k64) W_ A n xs) (hk1 : KeepBut w w1 g none) (i : Int) (h0 : 0 ≤ i) (h1 : i < n) {ad : Addr} (e : A = some ad) {A' : Option Addr} {c : Nat} (hx : w1.cell? (ad.add i.toNat) = some (.slice A' (rd_L2 xs i).length c)) : ∀ W_, KeepBut w W_ g none → k64.C W_ A' (rd_L2 xs i).length (rd_L2 xs i) := by
  intro W_ hk
  have hne : ad.block ≠ g := Kd.foot_ne (W := w) (by rw [← e]; exact h) (by omega) (by decide)
  obtain ⟨ad0, A0, c0, e0, hx0, l0, g0⟩ := at_L2 (h w (KeepBut.refl w g none)) i h0 h1
  obtain rfl : ad = ad0 := Option.some.inj (e.symm.trans e0)
  have hb : ∀ W2 : World, KeepBut w W2 g none → W2.cell? (ad.add i.toNat) = some (.slice A0 (rd_L2 xs i).length c0) := fun W2 hk2 => keep_cell hk2 hx0 (by first | (rw [add_block]; exact hne) | (show (Addr.add _ _).block ≠ _; rw [add_block]; exact hne))
  have q1 := Option.some.inj ((hb w1 hk1).symm.trans hx)
  injection q1 with qa _ _
  obtain ⟨ad2, B0, d0, e2, hy0, m0, f0⟩ := at_L2 (h W_ hk) i h0 h1
  obtain rfl : ad = ad2 := Option.some.inj (e.symm.trans e2)
  have q2 := Option.some.inj ((hb W_ hk).symm.trans hy0)
  injection q2 with qb _ _
  rw [← qa, qb]; exact f0

/-! #### struct type 52 -/
structure S52 where
  f0 : Int
  f1 : (List S64)
def z52 : S52 := ⟨(0 : Int), ([] : List S64)⟩
def k52 : Kd S52 := Kd.iso (Kd.pair (Kd.int .i64) (Kd.slice 64 k64)) (fun x : S52 => (x.f0, x.f1))
theorem k52_open {w : World} {x : S52} {cs : List Value} (h : k52.K w x cs) : ∃ A1 c1, cs = [.int .i64 x.f0, .slice A1 x.f1.length c1] ∧ x.f1.length ≤ c1 ∧ k64.C w A1 x.f1.length x.f1 := by
  obtain ⟨_, _, rfl, rfl, ⟨A1, c1, rfl, l1, g1⟩⟩ := h
  exact ⟨A1, c1, rfl, l1, g1⟩
theorem k52_openM {w : World} {base : Nat} {ok : Nat → Prop} {x : S52} {cs : List Value} (h : k52.M w base ok x cs) : ∃ v1, cs = [.int .i64 x.f0, v1] ∧ k64.R 64 w base ok v1 x.f1 := by
  obtain ⟨_, _, rfl, rfl, ⟨v1, rfl, g1⟩⟩ := h
  exact ⟨v1, rfl, g1⟩
theorem k52_mk (w : World) (x : S52) {A1 : Option Addr} {c1 : Nat} (l1 : x.f1.length ≤ c1) (g1 : k64.C w A1 x.f1.length x.f1) : k52.K w x [.int .i64 x.f0, .slice A1 x.f1.length c1] := ⟨[.int .i64 x.f0], [.slice A1 x.f1.length c1], rfl, rfl, ⟨A1, c1, rfl, l1, g1⟩⟩
theorem k52_mkM (w : World) (base : Nat) (ok : Nat → Prop) (x : S52) {v1 : Value} (g1 : k64.R 64 w base ok v1 x.f1) : k52.M w base ok x [.int .i64 x.f0, v1] := ⟨[.int .i64 x.f0], [v1], rfl, rfl, ⟨v1, rfl, g1⟩⟩
def rd_T52 (xs : List S52) (i : Int) : S52 := xs.getD i.toNat z52
theorem at_T52 {w : World} {A : Option Addr} {n : Nat} {xs : List S52} (h : Kd.C k52 w A n xs) (i : Int) (h0 : 0 ≤ i) (h1 : i < n) : ∃ ad A1 c1, A = some ad ∧ w.cell? (ad.add (i.toNat * 2)) = some (.int .i64 (rd_T52 xs i).f0) ∧ w.cell? ⟨(ad.add (i.toNat * 2)).block, (ad.add (i.toNat * 2)).off + 1, none⟩ = some (.slice A1 (rd_T52 xs i).f1.length c1) ∧ (rd_T52 xs i).f1.length ≤ c1 ∧ k64.C w A1 (rd_T52 xs i).f1.length (rd_T52 xs i).f1 := by
  obtain ⟨ad, c, e, _, hK, hc0⟩ := Kd.C_get h z52 i h0 h1
  have hc : ∀ j u, c[j]? = some u → w.cell? (ad.add (i.toNat * 2 + j)) = some u := hc0
  obtain ⟨A1, c1, rfl, l1, g1⟩ := k52_open hK
  exact ⟨ad, A1, c1, e, hc 0 _ rfl, by rw [← add_field _ _ 1 (by omega)]; exact hc 1 _ rfl, l1, g1⟩
theorem foot_T52_1 {w w1 : World} {A : Option Addr} {n g : Nat} {xs : List S52} (h : ∀ W_, KeepBut w W_ g none → Kd.C k52 W_ A n xs) (hk1 : KeepBut w w1 g none) (i : Int) (h0 : 0 ≤ i) (h1 : i < n) {ad : Addr} (e : A = some ad) {A' : Option Addr} {c : Nat} (hx : w1.cell? ⟨(ad.add (i.toNat * 2)).block, (ad.add (i.toNat * 2)).off + 1, none⟩ = some (.slice A' (rd_T52 xs i).f1.length c)) : ∀ W_, KeepBut w W_ g none → k64.C W_ A' (rd_T52 xs i).f1.length (rd_T52 xs i).f1 := by
  intro W_ hk
  have hne : ad.block ≠ g := Kd.foot_ne (W := w) (by rw [← e]; exact h) (by omega) (by decide)
  obtain ⟨ad0, A1, c1, e0, hx0, hx1, l1, g1⟩ := at_T52 (h w (KeepBut.refl w g none)) i h0 h1
  obtain rfl : ad = ad0 := Option.some.inj (e.symm.trans e0)
  have hb : ∀ W2 : World, KeepBut w W2 g none → W2.cell? ⟨(ad.add (i.toNat * 2)).block, (ad.add (i.toNat * 2)).off + 1, none⟩ = some (.slice A1 (rd_T52 xs i).f1.length c1) := fun W2 hk2 => keep_cell hk2 hx1 (by first | (rw [add_block]; exact hne) | (show (Addr.add _ _).block ≠ _; rw [add_block]; exact hne))
  have q1 := Option.some.inj ((hb w1 hk1).symm.trans hx)
  injection q1 with qa _ _
  obtain ⟨ad2, B1, d1, e2, hy0, hy1, m1, f1⟩ := at_T52 (h W_ hk) i h0 h1
  obtain rfl : ad = ad2 := Option.some.inj (e.symm.trans e2)
  have q2 := Option.some.inj ((hb W_ hk).symm.trans hy1)
  injection q2 with qb _ _
  rw [← qa, qb]; exact f1

/-! #### struct type 44 -/
structure S44 where
  f0 : Int
  f1 : Int
  f2 : Int
def z44 : S44 := ⟨(0 : Int), (0 : Int), (0 : Int)⟩
def k44 : Kd S44 := Kd.iso (Kd.pair (Kd.int .i64) (Kd.pair (Kd.int .i64) (Kd.int .i64))) (fun x : S44 => (x.f0, x.f1, x.f2))
theorem k44_open {w : World} {x : S44} {cs : List Value} (h : k44.K w x cs) : cs = [.int .i64 x.f0, .int .i64 x.f1, .int .i64 x.f2] := by
  obtain ⟨_, _, rfl, rfl, ⟨_, _, rfl, rfl, rfl⟩⟩ := h
  exact rfl
theorem k44_openM {w : World} {base : Nat} {ok : Nat → Prop} {x : S44} {cs : List Value} (h : k44.M w base ok x cs) : cs = [.int .i64 x.f0, .int .i64 x.f1, .int .i64 x.f2] := by
  obtain ⟨_, _, rfl, rfl, ⟨_, _, rfl, rfl, rfl⟩⟩ := h
  exact rfl
theorem k44_mk (w : World) (x : S44)  : k44.K w x [.int .i64 x.f0, .int .i64 x.f1, .int .i64 x.f2] := ⟨[.int .i64 x.f0], [.int .i64 x.f1, .int .i64 x.f2], rfl, rfl, ⟨[.int .i64 x.f1], [.int .i64 x.f2], rfl, rfl, rfl⟩⟩
theorem k44_mkM (w : World) (base : Nat) (ok : Nat → Prop) (x : S44)  : k44.M w base ok x [.int .i64 x.f0, .int .i64 x.f1, .int .i64 x.f2] := ⟨[.int .i64 x.f0], [.int .i64 x.f1, .int .i64 x.f2], rfl, rfl, ⟨[.int .i64 x.f1], [.int .i64 x.f2], rfl, rfl, rfl⟩⟩
def rd_T44 (xs : List S44) (i : Int) : S44 := xs.getD i.toNat z44
theorem at_T44 {w : World} {A : Option Addr} {n : Nat} {xs : List S44} (h : Kd.C k44 w A n xs) (i : Int) (h0 : 0 ≤ i) (h1 : i < n) : ∃ ad , A = some ad ∧ w.cell? (ad.add (i.toNat * 3)) = some (.int .i64 (rd_T44 xs i).f0) ∧ w.cell? ⟨(ad.add (i.toNat * 3)).block, (ad.add (i.toNat * 3)).off + 1, none⟩ = some (.int .i64 (rd_T44 xs i).f1) ∧ w.cell? ⟨(ad.add (i.toNat * 3)).block, (ad.add (i.toNat * 3)).off + 2, none⟩ = some (.int .i64 (rd_T44 xs i).f2) := by
  obtain ⟨ad, c, e, _, hK, hc0⟩ := Kd.C_get h z44 i h0 h1
  have hc : ∀ j u, c[j]? = some u → w.cell? (ad.add (i.toNat * 3 + j)) = some u := hc0
  obtain rfl := k44_open hK
  exact ⟨ad, e, hc 0 _ rfl, by rw [← add_field _ _ 1 (by omega)]; exact hc 1 _ rfl, by rw [← add_field _ _ 2 (by omega)]; exact hc 2 _ rfl⟩

def rd_L5 (xs : List (List S44)) (i : Int) : (List S44) := xs.getD i.toNat ([] : List S44)
theorem at_L5 {w : World} {A : Option Addr} {n : Nat} {xs : List (List S44)} (h : Kd.C (Kd.slice 44 k44) w A n xs) (i : Int) (h0 : 0 ≤ i) (h1 : i < n) : ∃ ad A0 c0, A = some ad ∧ w.cell? (ad.add i.toNat) = some (.slice A0 (rd_L5 xs i).length c0) ∧ (rd_L5 xs i).length ≤ c0 ∧ k44.C w A0 (rd_L5 xs i).length (rd_L5 xs i) := by
  obtain ⟨ad, c, e, _, hK, hc0⟩ := Kd.C_get h ([] : List S44) i h0 h1
  have hc : ∀ j u, c[j]? = some u → w.cell? (ad.add (i.toNat * 1 + j)) = some u := hc0
  obtain ⟨A0, c0, rfl, l0, g0⟩ := hK
  exact ⟨ad, A0, c0, e, by have hq := hc 0 _ rfl; rwa [Nat.mul_one, Nat.add_zero] at hq, l0, g0⟩
theorem foot_L5_0 {w w1 : World} {A : Option Addr} {n g : Nat} {xs : List (List S44)} (h : ∀ W_, KeepBut w W_ g none → Kd.C (Kd.slice 44 k44) W_ A n xs) (hk1 : KeepBut w w1 g none) (i : Int) (h0 : 0 ≤ i) (h1 : i < n) {ad : Addr} (e : A = some ad) {A' : Option Addr} {c : Nat} (hx : w1.cell? (ad.add i.toNat) = some (.slice A' (rd_L5 xs i).length c)) : ∀ W_, KeepBut w W_ g none → k44.C W_ A' (rd_L5 xs i).length (rd_L5 xs i) := by
  intro W_ hk
  have hne : ad.block ≠ g := Kd.foot_ne (W := w) (by rw [← e]; exact h) (by omega) (by decide)
  obtain ⟨ad0, A0, c0, e0, hx0, l0, g0⟩ := at_L5 (h w (KeepBut.refl w g none)) i h0 h1
  obtain rfl : ad = ad0 := Option.some.inj (e.symm.trans e0)
  have hb : ∀ W2 : World, KeepBut w W2 g none → W2.cell? (ad.add i.toNat) = some (.slice A0 (rd_L5 xs i).length c0) := fun W2 hk2 => keep_cell hk2 hx0 (by first | (rw [add_block]; exact hne) | (show (Addr.add _ _).block ≠ _; rw [add_block]; exact hne))
  have q1 := Option.some.inj ((hb w1 hk1).symm.trans hx)
  injection q1 with qa _ _
  obtain ⟨ad2, B0, d0, e2, hy0, m0, f0⟩ := at_L5 (h W_ hk) i h0 h1
  obtain rfl : ad = ad2 := Option.some.inj (e.symm.trans e2)
  have q2 := Option.some.inj ((hb W_ hk).symm.trans hy0)
  injection q2 with qb _ _
  rw [← qa, qb]; exact f0

/-! #### struct type 41 -/
structure S41 where
  f0 : Int
  f1 : (List S44)
def z41 : S41 := ⟨(0 : Int), ([] : List S44)⟩
def k41 : Kd S41 := Kd.iso (Kd.pair (Kd.int .i64) (Kd.slice 44 k44)) (fun x : S41 => (x.f0, x.f1))
theorem k41_open {w : World} {x : S41} {cs : List Value} (h : k41.K w x cs) : ∃ A1 c1, cs = [.int .i64 x.f0, .slice A1 x.f1.length c1] ∧ x.f1.length ≤ c1 ∧ k44.C w A1 x.f1.length x.f1 := by
  obtain ⟨_, _, rfl, rfl, ⟨A1, c1, rfl, l1, g1⟩⟩ := h
  exact ⟨A1, c1, rfl, l1, g1⟩
theorem k41_openM {w : World} {base : Nat} {ok : Nat → Prop} {x : S41} {cs : List Value} (h : k41.M w base ok x cs) : ∃ v1, cs = [.int .i64 x.f0, v1] ∧ k44.R 44 w base ok v1 x.f1 := by
  obtain ⟨_, _, rfl, rfl, ⟨v1, rfl, g1⟩⟩ := h
  exact ⟨v1, rfl, g1⟩
theorem k41_mk (w : World) (x : S41) {A1 : Option Addr} {c1 : Nat} (l1 : x.f1.length ≤ c1) (g1 : k44.C w A1 x.f1.length x.f1) : k41.K w x [.int .i64 x.f0, .slice A1 x.f1.length c1] := ⟨[.int .i64 x.f0], [.slice A1 x.f1.length c1], rfl, rfl, ⟨A1, c1, rfl, l1, g1⟩⟩
theorem k41_mkM (w : World) (base : Nat) (ok : Nat → Prop) (x : S41) {v1 : Value} (g1 : k44.R 44 w base ok v1 x.f1) : k41.M w base ok x [.int .i64 x.f0, v1] := ⟨[.int .i64 x.f0], [v1], rfl, rfl, ⟨v1, rfl, g1⟩⟩
def rd_T41 (xs : List S41) (i : Int) : S41 := xs.getD i.toNat z41
theorem at_T41 {w : World} {A : Option Addr} {n : Nat} {xs : List S41} (h : Kd.C k41 w A n xs) (i : Int) (h0 : 0 ≤ i) (h1 : i < n) : ∃ ad A1 c1, A = some ad ∧ w.cell? (ad.add (i.toNat * 2)) = some (.int .i64 (rd_T41 xs i).f0) ∧ w.cell? ⟨(ad.add (i.toNat * 2)).block, (ad.add (i.toNat * 2)).off + 1, none⟩ = some (.slice A1 (rd_T41 xs i).f1.length c1) ∧ (rd_T41 xs i).f1.length ≤ c1 ∧ k44.C w A1 (rd_T41 xs i).f1.length (rd_T41 xs i).f1 := by
  obtain ⟨ad, c, e, _, hK, hc0⟩ := Kd.C_get h z41 i h0 h1
  have hc : ∀ j u, c[j]? = some u → w.cell? (ad.add (i.toNat * 2 + j)) = some u := hc0
  obtain ⟨A1, c1, rfl, l1, g1⟩ := k41_open hK
  exact ⟨ad, A1, c1, e, hc 0 _ rfl, by rw [← add_field _ _ 1 (by omega)]; exact hc 1 _ rfl, l1, g1⟩
theorem foot_T41_1 {w w1 : World} {A : Option Addr} {n g : Nat} {xs : List S41} (h : ∀ W_, KeepBut w W_ g none → Kd.C k41 W_ A n xs) (hk1 : KeepBut w w1 g none) (i : Int) (h0 : 0 ≤ i) (h1 : i < n) {ad : Addr} (e : A = some ad) {A' : Option Addr} {c : Nat} (hx : w1.cell? ⟨(ad.add (i.toNat * 2)).block, (ad.add (i.toNat * 2)).off + 1, none⟩ = some (.slice A' (rd_T41 xs i).f1.length c)) : ∀ W_, KeepBut w W_ g none → k44.C W_ A' (rd_T41 xs i).f1.length (rd_T41 xs i).f1 := by
  intro W_ hk
  have hne : ad.block ≠ g := Kd.foot_ne (W := w) (by rw [← e]; exact h) (by omega) (by decide)
  obtain ⟨ad0, A1, c1, e0, hx0, hx1, l1, g1⟩ := at_T41 (h w (KeepBut.refl w g none)) i h0 h1
  obtain rfl : ad = ad0 := Option.some.inj (e.symm.trans e0)
  have hb : ∀ W2 : World, KeepBut w W2 g none → W2.cell? ⟨(ad.add (i.toNat * 2)).block, (ad.add (i.toNat * 2)).off + 1, none⟩ = some (.slice A1 (rd_T41 xs i).f1.length c1) := fun W2 hk2 => keep_cell hk2 hx1 (by first | (rw [add_block]; exact hne) | (show (Addr.add _ _).block ≠ _; rw [add_block]; exact hne))
  have q1 := Option.some.inj ((hb w1 hk1).symm.trans hx)
  injection q1 with qa _ _
  obtain ⟨ad2, B1, d1, e2, hy0, hy1, m1, f1⟩ := at_T41 (h W_ hk) i h0 h1
  obtain rfl : ad = ad2 := Option.some.inj (e.symm.trans e2)
  have q2 := Option.some.inj ((hb W_ hk).symm.trans hy1)
  injection q2 with qb _ _
  rw [← qa, qb]; exact f1

end Go.Proofs.Ytcdmkjcaipohiaa.P
