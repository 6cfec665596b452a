/- What is read of structs and slices is of the printed kinds: no statement of the seat, no condition. -/
import Derived.Test.YtcdmkjcaipohiaaWWords
import Derived.ChangeArms
import Derived.ChangeSlices
import Derived.DataElems
import Derived.DataReads
import Derived.WideShapes
namespace Go.Proofs.Ytcdmkjcaipohiaa.Op
open Go.RowKit Go.Proofs.YtcdmkjcaipohiaaW.PrintWords
open Go.ChangeShapes Go.WideShapes

/-- What is read at the type t is of the kind d. -/
def Opens (P : Program) (t : TypeId) {α : Type} (d : Kd α) (Wf : α → Prop) : Prop :=
  ∀ {H : Type} {enc : TypeId × Value → H} {base : Nat} {spare : Nat → Bool} {held : Bool} (w : World) (fuel : Nat) (cs : List Value) (x : DataW H × List MemPlace), DataW.trod enc P w base spare held fuel t cs = some x → ∃ y, d.K w y cs ∧ Wf y

theorem opens_int {P : Program} {t : TypeId} {k : IntKind} (ht : P.underlying t = some (.int k)) : Opens P t (Kd.int k) (fun n => (Lit.int k n).wf = true) := by
  intro H enc base spare held w fuel cs x h
  obtain ⟨n, rfl, _, hw⟩ := DataW.trod_int ht h
  exact ⟨n, rfl, hw⟩

theorem opens_bool {P : Program} {t : TypeId} (ht : P.underlying t = some .bool) : Opens P t Kd.bool (fun _ => True) := by
  intro H enc base spare held w fuel cs x h
  obtain ⟨b, rfl, _⟩ := DataW.trod_bool ht h
  exact ⟨b, rfl, trivial⟩

theorem opens_str {P : Program} {t : TypeId} (ht : P.underlying t = some .string) : Opens P t Kd.string (fun s => s.size ≤ maxLen) := by
  intro H enc base spare held w fuel cs x h
  obtain ⟨s, rfl, _, hw⟩ := DataW.trod_string ht h
  exact ⟨s, rfl, hw⟩

theorem choose_list {α : Type} (Q : Nat → α → Prop) : ∀ n : Nat, (∀ i, i < n → ∃ y, Q i y) → ∃ ys : List α, ys.length = n ∧ ∀ i y, ys[i]? = some y → Q i y
  | 0, _ => ⟨[], rfl, fun i y h => by simp at h⟩
  | n + 1, h => by
    obtain ⟨ys, hl, hy⟩ := choose_list Q n (fun i hi => h i (by omega))
    obtain ⟨z, hz⟩ := h n (by omega)
    refine ⟨ys ++ [z], by simp [hl], fun i y hi => ?_⟩
    by_cases hlt : i < n
    · rw [List.getElem?_append_left (by omega)] at hi
      exact hy i y hi
    · have hlen := (List.getElem?_eq_some_iff.1 hi).1
      simp only [List.length_append, List.length_cons, List.length_nil] at hlen
      have e : i = n := by omega
      subst e
      rw [List.getElem?_append_right (by omega), hl, Nat.sub_self] at hi
      have : z = y := by simpa using hi
      rw [← this]
      exact hz

/-- The elements of a slice that is read. -/
theorem row_opens {P : Program} {t e e' : TypeId} {α : Type} {d : Kd α} {Wf : α → Prop} (ht : P.underlying t = some (.slice e)) (hc : P.cellsOf e = d.sz) {H : Type} {enc : TypeId × Value → H} {base : Nat} {spare : Nat → Bool} {held : Bool} {w : World} {fuel : Nat} {cs : List Value} {x : DataW H × List MemPlace}
    (he : ∀ (n : Nat), fuel = n + 1 → ∀ (c : List Value) (z : DataW H × List MemPlace), DataW.trod enc P w base spare held n e c = some z → ∃ y, d.K w y c ∧ Wf y)
    (h : DataW.trod enc P w base spare held fuel t cs = some x) : ∃ ys, (Kd.slice e' d).K w ys cs ∧ ys.length ≤ maxLen ∧ ∀ y ∈ ys, Wf y := by
  rcases DataW.trod_slice ht h with ⟨rfl, _⟩ | ⟨a, len, cap, elems, rest, n, hfuel, rfl, _, hb, hl, hm, hlen, hel, _, _⟩
  · exact ⟨[], ⟨none, 0, rfl, Nat.le_refl _, rfl, by simp, fun h0 => absurd h0 (by simp)⟩, by simp, by simp⟩
  · obtain ⟨ys, yl, hy⟩ := choose_list (fun i y => ∃ c : List Value, c.length = d.sz ∧ d.K w y c ∧ Wf y ∧ ∀ j u, c[j]? = some u → w.cell? (a.add (i * d.sz + j)) = some u) len (fun i hi => by
      have h1 := hel i hi
      have hs : ∃ z, elems[i]? = some z := ⟨elems[i]'(by omega), List.getElem?_eq_getElem (by omega)⟩
      obtain ⟨z, hz⟩ := hs
      rw [hz, Option.bind_eq_some_iff] at h1
      obtain ⟨c, hcs, hz2⟩ := h1
      obtain ⟨y, hk, hw⟩ := he n hfuel c z hz2
      obtain ⟨_, hcl, hcell⟩ := World.cells?_some hcs
      refine ⟨y, c, d.K_len hk, hk, hw, fun j u hj => ?_⟩
      have hjl := (List.getElem?_eq_some_iff.1 hj).1
      have := hcell j (by omega)
      rw [← hj, ← this, Addr.add_add, hc])
    refine ⟨ys, ⟨some a, cap, by rw [yl], by omega, rfl, by simp only [maxLen] at hm; omega, fun h0 => ⟨a, rfl, fun j p hj => ?_⟩⟩, by omega, fun y hy2 => ?_⟩
    · obtain ⟨c, c1, c2, _, c4⟩ := hy j p hj
      exact ⟨c, c1, c2, c4⟩
    · obtain ⟨i, hi⟩ := List.getElem?_of_mem hy2
      obtain ⟨_, _, _, hw, _⟩ := hy i y hi
      exact hw

theorem opens_slice {P : Program} {t e : TypeId} {α : Type} {d : Kd α} {Wf : α → Prop} (e' : Nat) (ht : P.underlying t = some (.slice e)) (hc : P.cellsOf e = d.sz) (he : Opens P e d Wf) : Opens P t (Kd.slice e' d) (fun ys => ys.length ≤ maxLen ∧ ∀ y ∈ ys, Wf y) := by
  intro H enc base spare held w fuel cs x h
  exact row_opens ht hc (fun n _ c z hz => he w n c z hz) h

/-- What is read of fields, from the cell off on. -/
def OpensFs (P : Program) (fs : List Field) (off : Nat) {α : Type} (d : Kd α) (Wf : α → Prop) : Prop :=
  ∀ {H : Type} {enc : TypeId × Value → H} {base : Nat} {spare : Nat → Bool} {held : Bool} (w : World) (n : Nat) (cs : List Value) (xs : List (DataW H × List MemPlace)), xs.length = fs.length →
    (∀ (i : Nat) (f : Field), fs[i]? = some f → DataW.trod enc P w base spare held n f.type ((cs.drop f.offset).take (P.cellsOf f.type)) = xs[i]?) → cs.length = off + d.sz → ∃ y, d.K w y (cs.drop off) ∧ Wf y

theorem fs_one {P : Program} {f : Field} {off : Nat} {α : Type} {d : Kd α} {Wf : α → Prop} (ho : f.offset = off) (hc : P.cellsOf f.type = d.sz) (h : Opens P f.type d Wf) : OpensFs P [f] off d Wf := by
  intro H enc base spare held w n cs xs hl hx hlen
  match xs, hl with
  | [z], _ =>
    have h0 := hx 0 f rfl
    rw [ho, hc, List.take_of_length_le (by rw [List.length_drop]; omega)] at h0
    exact h w n _ z h0

theorem fs_cons {P : Program} {f : Field} {fs : List Field} {off : Nat} {α β : Type} {a : Kd α} {b : Kd β} {Wa : α → Prop} {Wb : β → Prop} (ho : f.offset = off) (hc : P.cellsOf f.type = a.sz) (h : Opens P f.type a Wa) (hs : OpensFs P fs (off + a.sz) b Wb) :
    OpensFs P (f :: fs) off (Kd.pair a b) (fun y => Wa y.1 ∧ Wb y.2) := by
  intro H enc base spare held w n cs xs hl hx hlen
  match xs, hl with
  | z :: zs, hl =>
    have hsz : (Kd.pair a b).sz = a.sz + b.sz := rfl
    have h0 := hx 0 f rfl
    rw [ho, hc] at h0
    obtain ⟨y0, k0, w0⟩ := h w n _ z h0
    obtain ⟨y1, k1, w1⟩ := hs w n cs zs (by simpa using hl) (fun i g hg => hx (i + 1) g (by simpa using hg)) (by omega)
    refine ⟨(y0, y1), ⟨_, _, ?_, k0, k1⟩, w0, w1⟩
    rw [← List.drop_drop, List.take_append_drop]

theorem opens_struct {P : Program} {t : TypeId} {fs : Array Field} {α : Type} {d : Kd α} {Wf : α → Prop} (ht : P.underlying t = some (.struct fs)) (hc : P.cellsOf t = d.sz) (hs : OpensFs P fs.toList 0 d Wf) : Opens P t d Wf := by
  intro H enc base spare held w fuel cs x h
  obtain ⟨xs, n, _, _, hl, hxl, hx⟩ := DataW.trod_struct ht h
  have := hs w n cs xs (by simpa using hxl) (fun i f hf => hx i f (by simpa using hf)) (by omega)
  simpa using this

theorem opens_iso {P : Program} {t : TypeId} {α β : Type} {d : Kd α} {Wf : α → Prop} (f : β → α) (g : α → β) (hfg : ∀ y, f (g y) = y) (h : Opens P t d Wf) : Opens P t (Kd.iso d f) (fun x => Wf (f x)) := by
  intro H enc base spare held w fuel cs x hx
  obtain ⟨y, hk, hw⟩ := h w fuel cs x hx
  exact ⟨g y, by show d.K w (f (g y)) cs; rw [hfg]; exact hk, by show Wf (f (g y)); rw [hfg]; exact hw⟩

theorem opens_imp {P : Program} {t : TypeId} {α : Type} {d : Kd α} {Wf Wf' : α → Prop} (h : Opens P t d Wf) (hw : ∀ y, Wf y → Wf' y) : Opens P t d Wf' := by
  intro H enc base spare held w fuel cs x hx
  obtain ⟨y, hk, h1⟩ := h w fuel cs x hx
  exact ⟨y, hk, hw y h1⟩

/-! ### A struct that is nested in itself: by rounds -/
def OpensN (P : Program) (n : Nat) (t : TypeId) {α : Type} (d : Kd α) (Wf : α → Prop) : Prop :=
  ∀ {H : Type} {enc : TypeId × Value → H} {base : Nat} {spare : Nat → Bool} {held : Bool} (w : World) (fuel : Nat), fuel ≤ n → ∀ (cs : List Value) (x : DataW H × List MemPlace), DataW.trod enc P w base spare held fuel t cs = some x → ∃ y, d.K w y cs ∧ Wf y

theorem Opens.n {P : Program} {n : Nat} {t : TypeId} {α : Type} {d : Kd α} {Wf : α → Prop} (h : Opens P t d Wf) : OpensN P n t d Wf := fun w fuel _ cs x hx => h w fuel cs x hx

theorem OpensN.le {P : Program} {n : Nat} {t : TypeId} {α : Type} {d : Kd α} {Wf : α → Prop} (h : OpensN P (n + 1) t d Wf) : OpensN P n t d Wf := fun w fuel hf cs x hx => h w fuel (by omega) cs x hx

theorem opensN_slice {P : Program} {n : Nat} {t e : TypeId} {α : Type} {d : Kd α} {Wf : α → Prop} (e' : Nat) (ht : P.underlying t = some (.slice e)) (hc : P.cellsOf e = d.sz) (he : OpensN P n e d Wf) : OpensN P (n + 1) t (Kd.slice e' d) (fun ys => ys.length ≤ maxLen ∧ ∀ y ∈ ys, Wf y) := by
  intro H enc base spare held w fuel hf cs x h
  exact row_opens ht hc (fun m hm c z hz => he w m (by omega) c z hz) h

def OpensFsN (P : Program) (n : Nat) (fs : List Field) (off : Nat) {α : Type} (d : Kd α) (Wf : α → Prop) : Prop :=
  ∀ {H : Type} {enc : TypeId × Value → H} {base : Nat} {spare : Nat → Bool} {held : Bool} (w : World) (m : Nat), m ≤ n → ∀ (cs : List Value) (xs : List (DataW H × List MemPlace)), xs.length = fs.length →
    (∀ (i : Nat) (f : Field), fs[i]? = some f → DataW.trod enc P w base spare held m f.type ((cs.drop f.offset).take (P.cellsOf f.type)) = xs[i]?) → cs.length = off + d.sz → ∃ y, d.K w y (cs.drop off) ∧ Wf y

theorem fsN_one {P : Program} {n : Nat} {f : Field} {off : Nat} {α : Type} {d : Kd α} {Wf : α → Prop} (ho : f.offset = off) (hc : P.cellsOf f.type = d.sz) (h : OpensN P n f.type d Wf) : OpensFsN P n [f] off d Wf := by
  intro H enc base spare held w m hm cs xs hl hx hlen
  match xs, hl with
  | [z], _ =>
    have h0 := hx 0 f rfl
    rw [ho, hc, List.take_of_length_le (by rw [List.length_drop]; omega)] at h0
    exact h w m hm _ z h0

theorem fsN_cons {P : Program} {n : Nat} {f : Field} {fs : List Field} {off : Nat} {α β : Type} {a : Kd α} {b : Kd β} {Wa : α → Prop} {Wb : β → Prop} (ho : f.offset = off) (hc : P.cellsOf f.type = a.sz) (h : OpensN P n f.type a Wa) (hs : OpensFsN P n fs (off + a.sz) b Wb) :
    OpensFsN P n (f :: fs) off (Kd.pair a b) (fun y => Wa y.1 ∧ Wb y.2) := by
  intro H enc base spare held w m hm cs xs hl hx hlen
  match xs, hl with
  | z :: zs, hl =>
    have hsz : (Kd.pair a b).sz = a.sz + b.sz := rfl
    have h0 := hx 0 f rfl
    rw [ho, hc] at h0
    obtain ⟨y0, k0, w0⟩ := h w m hm _ z h0
    obtain ⟨y1, k1, w1⟩ := hs w m hm cs zs (by simpa using hl) (fun i g hg => hx (i + 1) g (by simpa using hg)) (by omega)
    refine ⟨(y0, y1), ⟨_, _, ?_, k0, k1⟩, w0, w1⟩
    rw [← List.drop_drop, List.take_append_drop]

theorem opensN_struct {P : Program} {n : Nat} {t : TypeId} {fs : Array Field} {α : Type} {d : Kd α} {Wf : α → Prop} (ht : P.underlying t = some (.struct fs)) (hc : P.cellsOf t = d.sz) (hs : OpensFsN P n fs.toList 0 d Wf) : OpensN P (n + 1) t d Wf := by
  intro H enc base spare held w fuel hf cs x h
  obtain ⟨xs, m, hfuel, _, hl, hxl, hx⟩ := DataW.trod_struct ht h
  have := hs w m (by omega) cs xs (by simpa using hxl) (fun i f hf => hx i f (by simpa using hf)) (by omega)
  simpa using this

theorem opens_rec {P : Program} {t : TypeId} {fs : Array Field} {α : Type} {d : Kd α} {Wf : α → Prop} (ht : P.underlying t = some (.struct fs)) (step : ∀ n, OpensN P n t d Wf → OpensN P (n + 1) t d Wf) : Opens P t d Wf := by
  have all : ∀ n, OpensN P n t d Wf := by
    intro n
    induction n with
    | zero =>
      intro H enc base spare held w fuel hf cs x h
      obtain ⟨xs, m, hfuel, _⟩ := DataW.trod_struct ht h
      omega
    | succ n ih => exact step n ih
  intro H enc base spare held w fuel cs x h
  exact all fuel w fuel (Nat.le_refl _) cs x h

theorem opensN_map {P : Program} {n : Nat} {t : TypeId} {α β : Type} {d : Kd α} {e : Kd β} {Wf : α → Prop} {Wf' : β → Prop} (h : OpensN P n t d Wf) (f : ∀ w y cs, d.K w y cs → Wf y → ∃ z, e.K w z cs ∧ Wf' z) : OpensN P n t e Wf' := by
  intro H enc base spare held w fuel hf cs x hx
  obtain ⟨y, hk, hw⟩ := h w fuel hf cs x hx
  exact f w y cs hk hw

end Go.Proofs.Ytcdmkjcaipohiaa.Op
