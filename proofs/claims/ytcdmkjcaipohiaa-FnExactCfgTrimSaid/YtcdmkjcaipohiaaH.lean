/- Small plain lemmas that the proofs of this seat share: no statement of the seat, no condition. -/
import Derived.Test.YtcdmkjcaipohiaaWWords
import Derived.Laws.BitsLemmas
import Derived.OpenShut
namespace Go.Proofs.Ytcdmkjcaipohiaa.H
open Go.RowKit Go.Proofs.YtcdmkjcaipohiaaW.PrintWords

theorem w64 {i : Int} (h1 : -9223372036854775808 ≤ i) (h2 : i ≤ 9223372036854775807) : wrap64 i = i := by
  unfold wrap64
  omega

theorem ifp {α : Type} {c : Prop} [Decidable c] {g f : Nat → Option α} {r : α} (h : c) (k : Ev g r) : Ev (fun n => if c then g n else f n) r :=
  Ev.congr (fun _ => if_pos h) k

theorem ifn {α : Type} {c : Prop} [Decidable c] {g f : Nat → Option α} {r : α} (h : ¬ c) (k : Ev f r) : Ev (fun n => if c then g n else f n) r :=
  Ev.congr (fun _ => if_neg h) k

/-- Behind a value that is known. -/
theorem bs {α β : Type} {f : Nat → α → Option β} {a : α} {r : β} (k : Ev (fun n => f n a) r) : Ev (fun n => (some a).bind (f n)) r :=
  Ev.congr (fun _ => Option.bind_some _ _) k

/-- A call without rounds. -/
theorem b0 {α β : Type} {g : Option α} {f : Nat → α → Option β} {a : α} {r : β} (h : g = some a) (k : Ev (fun n => f n a) r) : Ev (fun n => g.bind (f n)) r := by
  subst h
  exact bs k

theorem Ev_eq {α : Type} {g : Nat → Option α} {r r' : α} (h : Ev g r) (e : r = r') : Ev g r' := e ▸ h

theorem dec_cons {α : Type} [DecidableEq α] {x y : α} {l m : List α} (h : x = y) : decide (l = m) = decide (x :: l = y :: m) := by
  subst h
  simp

theorem dec_ne {α : Type} [DecidableEq α] {x y : α} {l m : List α} (h : ¬ x = y) : false = decide (x :: l = y :: m) := by
  simp [h]

theorem lt_of_getElem {α : Type} {xs : List α} {i : Nat} {x : α} (h : xs[i]? = some x) : i < xs.length := (List.getElem?_eq_some_iff.1 h).1

theorem rdOf_nat {α : Type} (d : α) (xs : List α) (i : Nat) (h : i < xs.length) : rdOf d xs (i : Int) = xs[i] := by
  unfold rdOf
  simp [h]

theorem rdOf_mem {α : Type} (d : α) (xs : List α) (i : Int) (h0 : 0 ≤ i) (h : i < (xs.length : Int)) : rdOf d xs i ∈ xs := by
  obtain ⟨n, rfl⟩ := Int.eq_ofNat_of_zero_le h0
  have hn : n < xs.length := by omega
  have e : rdOf d xs (n : Int) = xs[n] := rdOf_nat d xs n hn
  rw [e]
  exact List.getElem_mem hn

theorem rd_nat (xs : List Int) (i : Nat) (h : i < xs.length) : rd xs (i : Int) = xs[i] := by
  unfold rd
  simp [h]

theorem rd_mem (xs : List Int) (i : Int) (h0 : 0 ≤ i) (h : i < (xs.length : Int)) : rd xs i ∈ xs := by
  obtain ⟨n, rfl⟩ := Int.eq_ofNat_of_zero_le h0
  have hn : n < xs.length := by omega
  have e : rd xs (n : Int) = xs[n] := rd_nat xs n hn
  rw [e]
  exact List.getElem_mem hn

/-- What a reader reads: at most 2000 bytes. -/
structure Bytes (b : List Int) : Prop where
  len : b.length ≤ 2000
  rng : ∀ x ∈ b, 0 ≤ x ∧ x ≤ 255

theorem Bytes.at_ {b : List Int} (h : Bytes b) (i : Int) : 0 ≤ rd b i ∧ rd b i ≤ 255 := by
  by_cases hi : i.toNat < b.length
  · have e : rd b i = b[i.toNat] := by unfold rd; simp [hi]
    rw [e]
    exact h.rng _ (List.getElem_mem hi)
  · have e : rd b i = 0 := by unfold rd; simp [List.getD_eq_getElem?_getD, List.getElem?_eq_none (Nat.le_of_not_lt hi)]
    omega

theorem xor_nonneg {a b : Int} (ha : 0 ≤ a) (ha' : a < 1125899906842624) (hb : 0 ≤ b) (hb' : b < 1125899906842624) : 0 ≤ Go.bits .xor .i64 a b := by
  obtain ⟨a, rfl⟩ := Int.eq_ofNat_of_zero_le ha
  obtain ⟨b, rfl⟩ := Int.eq_ofNat_of_zero_le hb
  have h1 : a < 2 ^ 50 := by have : (2 : Nat) ^ 50 = 1125899906842624 := by decide
                             omega
  have h2 : b < 2 ^ 50 := by have : (2 : Nat) ^ 50 = 1125899906842624 := by decide
                             omega
  have ha2 : a % 2 ^ 64 = a := Nat.mod_eq_of_lt (by omega)
  have hb2 : b % 2 ^ 64 = b := Nat.mod_eq_of_lt (by omega)
  have hx : a ^^^ b < 2 ^ 50 := Nat.xor_lt_two_pow h1 h2
  have e : Go.bits .xor .i64 (a : Int) (b : Int) = ((a ^^^ b : Nat) : Int) := by
    simp only [Go.bits, BitVec.ofInt_natCast, BitVec.toNat_xor, BitVec.toNat_ofNat]
    show IntKind.i64.wrap ((a % 2 ^ 64 ^^^ b % 2 ^ 64 : Nat) : Int) = _
    rw [ha2, hb2, Go.IntKind.wrap_i64]
    have : (2 : Nat) ^ 50 = 1125899906842624 := by decide
    omega
  rw [e]
  omega

theorem data_len (s : ByteArray) : s.data.toList.length = s.size := Array.length_toList

theorem size_nil : (⟨#[]⟩ : ByteArray).size = 0 := rfl

theorem size_one (c : UInt8) : (⟨#[c]⟩ : ByteArray).size = 1 := rfl

theorem strOfNums_size (xs : List Int) : (strOfNums xs).size = xs.length := by
  simp [strOfNums, ByteArray.size]

theorem toList_nil {s : ByteArray} : s.toList = [] ↔ s.size = 0 := by
  rw [ByteArray.toList_eq]
  rw [← List.length_eq_zero_iff, Array.length_toList]
  rfl

theorem toList_inj {s t : ByteArray} : s.toList = t.toList ↔ s = t := by
  constructor
  · intro h
    rw [ByteArray.toList_eq, ByteArray.toList_eq] at h
    cases s
    cases t
    congr
    exact Array.toList_inj.1 h
  · intro h
    rw [h]

end Go.Proofs.Ytcdmkjcaipohiaa.H
