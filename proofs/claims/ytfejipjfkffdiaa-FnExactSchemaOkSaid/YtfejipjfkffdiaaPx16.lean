-- Laid by a program for this claim (the printer, turned): Lean checks it.
import Derived.Test.YtfejipjfkffdiaaPx0
import Derived.Test.YtfejipjfkffdiaaPx11
import Derived.Test.YtfejipjfkffdiaaPx13
import Derived.Test.YtfejipjfkffdiaaPx15
namespace Go.Proofs.Ytfejipjfkffdiaa.P
open Go.RowKit Go.Proofs.YtfejipjfkffdiaaW.PrintWords Go.Proofs.YtfejipjfkffdiaaW.PrintLast Go.Proofs.YtfejipjfkffdiaaW.PrintMore
attribute [local go_sem] max2_int min2_int max_two min_two max_three min_three max_four min_four   -- for this text's walks alone
set_option linter.unusedVariables false
set_option linter.unusedSimpArgs false

/-- A state of type 3 at block g of W; what its slices lead to came in by w0. -/
def IsS900003 (w0 W : World) (g : Nat) (f0 : Int) : Prop := W.heap[g]? = some (.cells #[.int .i64 f0] 3 (0, 0)) ∧ w0.heap.size ≤ g
theorem IsS900003.grown {w0 W : World} {g : Nat} {f0 : Int} {W1 : World} {row : Option Nat} (h : IsS900003 w0 W g f0) (hw : W.grownBy W1 row) (hne : some g ≠ row) : IsS900003 w0 W1 g f0 := by
  obtain ⟨hb, hg⟩ := h
  exact ⟨blk_grown hb hw hne, hg⟩
theorem IsS900003.own_neN {w0 W : World} {g : Nat} {f0 : Int} {α : Type} {d : Kd α} {e : Nat} {base : Nat} {ok : Nat → Prop} {v : Value} {xs : List α} (h : IsS900003 w0 W g f0) (ho : Kd.N d e W base ok v xs) (ht : e ≠ 3) : some g ≠ v.ownBlock := by
  obtain ⟨hb, hg⟩ := h
  exact Kd.N_ne ho hb ht
theorem IsS900003.fresh {w0 W : World} {g : Nat} {f0 : Int} (h : IsS900003 w0 W g f0) : ∀ k, W.heap.size ≤ k → k ≠ g := by
  obtain ⟨hb, hg⟩ := h
  exact Kd.freshB hb
theorem IsS900003.kept {w0 W : World} {g : Nat} {f0 : Int} {W1 : World} {S : Nat → Prop} (h : IsS900003 w0 W g f0) (hk : Kept W W1 S) (hne : ¬ S g) : IsS900003 w0 W1 g f0 := by
  obtain ⟨hb, hg⟩ := h
  exact ⟨blk_kept hb hk hne, hg⟩
theorem IsS900003.below {w0 W : World} {g : Nat} {f0 : Int} {W1 : World} (h : IsS900003 w0 W g f0) (hw : Below W.heap.size W W1) : IsS900003 w0 W1 g f0 := h.grown (grown_of_below hw none) (by simp)
theorem IsS900003.alloc {w0 W : World} {g : Nat} {f0 : Int} (h : IsS900003 w0 W g f0) (o : Obj) : IsS900003 w0 (W.alloc o) g f0 := h.below (below_alloc (Below.refl _ _) o)
theorem IsS900003.drewN {w0 W : World} {g : Nat} {f0 : Int} (h : IsS900003 w0 W g f0) (m : Nat) : IsS900003 w0 (W.drewN m) g f0 := h
theorem IsS900003.drew {w0 W : World} {g : Nat} {f0 : Int} (h : IsS900003 w0 W g f0) : IsS900003 w0 W.drew g f0 := h
theorem IsS900003.at_ {w0 W : World} {g : Nat} {f0 : Int} {w' : World} {m : Nat} (hq : W.drewN m = w') (h : IsS900003 w0 W g f0) : IsS900003 w0 w' g f0 := by subst hq; exact IsS900003.drewN h m
theorem IsS900003.apart {w0 W : World} {g : Nat} {f0 : Int} {α : Type} {d : Kd α} {e : Nat} {base : Nat} {ok : Nat → Prop} {v : Value} {xs : List α} (h : IsS900003 w0 W g f0) (ho : d.R e W base ok v xs) (ht : ∀ q, q ∈ e :: d.E → q ≠ 3) : d.R e W base (fun k => ok k ∧ k ≠ g) v xs := by
  obtain ⟨hb, hg⟩ := h
  exact Kd.R_types ho hb ht
theorem IsS900003.own_ne {w0 W : World} {g : Nat} {f0 : Int} {α : Type} {d : Kd α} {e : Nat} {base : Nat} {ok : Nat → Prop} {v : Value} {xs : List α} (h : IsS900003 w0 W g f0) (ho : d.R e W base ok v xs) (ht : e ≠ 3) : some g ≠ v.ownBlock := by
  obtain ⟨hb, hg⟩ := h
  exact Kd.R_ne ho hb ht
theorem IsS900003.apartQ {w0 W : World} {g : Nat} {f0 : Int} {α : Type} {d : Kd α} {e : Nat} {base : Nat} {ok : Nat → Prop} {v : Value} {xs : List α} (h : IsS900003 w0 W g f0) (ho : d.Q e W base ok v xs) (ht : ∀ q, q ∈ e :: d.E → q ≠ 3) : d.Q e W base (fun k => ok k ∧ k ≠ g) v xs := by
  obtain ⟨hb, hg⟩ := h
  exact Kd.Q_types ho hb ht
theorem IsS900003.own_neQ {w0 W : World} {g : Nat} {f0 : Int} {α : Type} {d : Kd α} {e : Nat} {base : Nat} {ok : Nat → Prop} {v : Value} {xs : List α} (h : IsS900003 w0 W g f0) (ho : d.Q e W base ok v xs) (ht : e ≠ 3) : some g ≠ v.ownBlock := by
  obtain ⟨hb, hg⟩ := h
  exact Kd.Q_ne ho hb ht
theorem IsS900003.apartS {w0 W : World} {g : Nat} {f0 : Int} {α : Type} {d : Kd α} {e : Nat} {base : Nat} {ok : Nat → Prop} {v : Value} {xs : List α} (h : IsS900003 w0 W g f0) (ho : d.S e W base ok v xs) (ht : ∀ q, q ∈ e :: d.E → q ≠ 3) : d.S e W base (fun k => ok k ∧ k ≠ g) v xs := by
  obtain ⟨hb, hg⟩ := h
  exact Kd.S_types ho hb ht
theorem IsS900003.own_neS {w0 W : World} {g : Nat} {f0 : Int} {α : Type} {d : Kd α} {e : Nat} {base : Nat} {ok : Nat → Prop} {v : Value} {xs : List α} (h : IsS900003 w0 W g f0) (ho : d.S e W base ok v xs) (ht : e ≠ 3) : some g ≠ v.ownBlock := by
  obtain ⟨hb, hg⟩ := h
  exact Kd.S_ne ho hb ht
theorem IsS900003.lt {w0 W : World} {g : Nat} {f0 : Int} (h : IsS900003 w0 W g f0) : g < W.heap.size := by
  obtain ⟨hb, hg⟩ := h
  exact blk_lt hb
theorem IsS900003.ge {w0 W : World} {g : Nat} {f0 : Int} (h : IsS900003 w0 W g f0) : w0.heap.size ≤ g := by
  obtain ⟨hb, hg⟩ := h
  exact hg
theorem IsS900003.ne_blk {w0 W : World} {g : Nat} {f0 : Int} {a : Nat} {cs : Array Value} {t : TypeId} {fr : Nat × Nat} (h : IsS900003 w0 W g f0) (hb2 : W.heap[a]? = some (.cells cs t fr)) (ht : t ≠ 3) : g ≠ a := by
  obtain ⟨hb, hg⟩ := h
  rintro rfl
  rw [hb] at hb2
  injection hb2 with hb2
  injection hb2 with _ ht2
  exact ht ht2.symm
theorem IsS900003.far {w0 W : World} {g : Nat} {f0 : Int} {p : Addr} (h : IsS900003 w0 W g f0) (hne : g ≠ p.block) (u : Value) : IsS900003 w0 (W.setCell p u) g f0 := by
  obtain ⟨hb, hg⟩ := h
  exact ⟨blk_far hb hne u, hg⟩
theorem cellS900003_0 {W : World} {g : Nat} {f0 : Int} (h : W.heap[g]? = some (.cells #[.int .i64 f0] 3 (0, 0))) : W.cell? ⟨g, 0, none⟩ = some (.int .i64 f0) := (blk_cell h 0).trans rfl
theorem IsS900003.set_0 {w0 W : World} {g : Nat} {f0 : Int} (h : IsS900003 w0 W g f0) (x : Int) : IsS900003 w0 (W.setCell ⟨g, 0, none⟩ (.int .i64 x)) g x := by
  obtain ⟨hb, hg⟩ := h
  exact ⟨by simpa using blk_set hb 0 (.int .i64 x), hg⟩
theorem IsS900003.new (w0 W : World) (f0 : Int) (hB : Below w0.heap.size w0 W) : IsS900003 w0 (W.alloc (.cells #[.int .i64 f0] 3)) W.heap.size f0 := ⟨by simpa using heap_alloc_new W _, hB.size⟩

/-! ### impl_Schema_formed: function 17 -/
mutual
def impl_Schema_formed.j0 : Nat → Int → Bool → Int → Int → Int → Int → List ByteArray → List Bool → List (S31) → Option (Bool × Int)
  | 0, _, _, _, _, _, _, _, _, _ => none
  | k + 1, x1, x44, x3000, x182000, x182001, x182002, x182003, x182004, x182005 => if x44 = true then (some (false, x3000)) else (if (x182003.length : Int) > 0 then (impl_Schema_formed.j1 k x1 (x182002 != 0) true x3000 x182000 x182001 x182002 x182003 x182004 x182005) else (impl_Schema_formed.j1 k x1 (x182002 != 0) (decide ((x182004.length : Int) > 0)) x3000 x182000 x182001 x182002 x182003 x182004 x182005))
def impl_Schema_formed.j1 : Nat → Int → Bool → Bool → Int → Int → Int → Int → List ByteArray → List Bool → List (S31) → Option (Bool × Int)
  | 0, _, _, _, _, _, _, _, _, _, _ => none
  | k + 1, x1, x7, x8, x3000, x182000, x182001, x182002, x182003, x182004, x182005 => if x182000 = 1 then (impl_Schema_formed.j2 k x1 x7 x8 (x182005.length : Int) false x182000 (x182000 == 1) x3000 x182000 x182001 x182002 x182003 x182004 x182005) else (if x182000 = 2 then (impl_Schema_formed.j2 k x1 x7 x8 (x182005.length : Int) false x182000 (x182000 == 2) x3000 x182000 x182001 x182002 x182003 x182004 x182005) else (impl_Schema_formed.j2 k x1 x7 x8 (x182005.length : Int) false x182000 (x182000 == 3) x3000 x182000 x182001 x182002 x182003 x182004 x182005))
def impl_Schema_formed.j3 : Nat → Int → Int → Bool → Int → Int → Int → Int → List ByteArray → List Bool → List (S31) → Option (Bool × Int)
  | 0, _, _, _, _, _, _, _, _, _, _ => none
  | k + 1, x1, x9, x10, x3000, x182000, x182001, x182002, x182003, x182004, x182005 => impl_Schema_formed.l0 k x1 x9 x10 0 x3000 x182000 x182001 x182002 x182003 x182004 x182005
def impl_Schema_formed.l0 : Nat → Int → Int → Bool → Int → Int → Int → Int → Int → List ByteArray → List Bool → List (S31) → Option (Bool × Int)
  | 0, _, _, _, _, _, _, _, _, _, _, _ => none
  | k + 1, x1, x9, x10, x11, x3000, x182000, x182001, x182002, x182003, x182004, x182005 => if x11 < x9 then (if x10 = true then (if 0 ≤ x11 then (if x11 < (x182005.length : Int) then ((impl_Schema_formed.f k ((rd_T31 x182005 x11).f0) ((rd_T31 x182005 x11).f1) ((rd_T31 x182005 x11).f2) ((rd_T31 x182005 x11).f3) ((rd_T31 x182005 x11).f4) ((rd_T31 x182005 x11).f5) (wrap64 (x1 + 1)) x3000).bind fun bt187 => (impl_Schema_formed.l0 k x1 x9 bt187.1 (wrap64 (x11 + 1)) bt187.2 x182000 x182001 x182002 x182003 x182004 x182005)) else (none)) else (none)) else (some (x10, x3000))) else (some (x10, x3000))
def impl_Schema_formed.j2 : Nat → Int → Bool → Bool → Int → Bool → Int → Bool → Int → Int → Int → Int → List ByteArray → List Bool → List (S31) → Option (Bool × Int)
  | 0, _, _, _, _, _, _, _, _, _, _, _, _, _, _ => none
  | k + 1, x1, x7, x8, x9, x10, x62, x63, x3000, x182000, x182001, x182002, x182003, x182004, x182005 => if x63 = true then (if x7 = true then (impl_Schema_formed.j3 k x1 x9 false x3000 x182000 x182001 x182002 x182003 x182004 x182005) else (if x8 = true then (impl_Schema_formed.j3 k x1 x9 false x3000 x182000 x182001 x182002 x182003 x182004 x182005) else (impl_Schema_formed.j3 k x1 x9 (x9 == 0) x3000 x182000 x182001 x182002 x182003 x182004 x182005))) else (if x62 = 4 then (if x8 = true then (impl_Schema_formed.j3 k x1 x9 false x3000 x182000 x182001 x182002 x182003 x182004 x182005) else (impl_Schema_formed.j3 k x1 x9 (x9 == 0) x3000 x182000 x182001 x182002 x182003 x182004 x182005)) else (if x62 = 5 then (if x8 = true then (impl_Schema_formed.j3 k x1 x9 false x3000 x182000 x182001 x182002 x182003 x182004 x182005) else (impl_Schema_formed.j3 k x1 x9 (x9 == 1) x3000 x182000 x182001 x182002 x182003 x182004 x182005)) else (if x62 = 6 then (if x7 = true then (impl_Schema_formed.j3 k x1 x9 false x3000 x182000 x182001 x182002 x182003 x182004 x182005) else ((impl_namesOk.f k x182003).bind fun t184 => (if t184 = true then (if (x182003.length : Int) = x9 then (impl_Schema_formed.j3 k x1 x9 ((x182004.length : Int) == x9) x3000 x182000 x182001 x182002 x182003 x182004 x182005) else (impl_Schema_formed.j3 k x1 x9 false x3000 x182000 x182001 x182002 x182003 x182004 x182005)) else (impl_Schema_formed.j3 k x1 x9 false x3000 x182000 x182001 x182002 x182003 x182004 x182005)))) else (if x62 = 7 then (if x7 = true then (impl_Schema_formed.j3 k x1 x9 false x3000 x182000 x182001 x182002 x182003 x182004 x182005) else (if x8 = true then (impl_Schema_formed.j3 k x1 x9 false x3000 x182000 x182001 x182002 x182003 x182004 x182005) else (impl_Schema_formed.j3 k x1 x9 (decide (x9 ≥ 2)) x3000 x182000 x182001 x182002 x182003 x182004 x182005))) else (if x62 = 8 then (if x7 = true then (impl_Schema_formed.j3 k x1 x9 false x3000 x182000 x182001 x182002 x182003 x182004 x182005) else (if x9 = 0 then (if (x182004.length : Int) = 0 then ((impl_wordsOk.f k x182003).bind fun t185 => (impl_Schema_formed.j3 k x1 x9 t185 x3000 x182000 x182001 x182002 x182003 x182004 x182005)) else (impl_Schema_formed.j3 k x1 x9 false x3000 x182000 x182001 x182002 x182003 x182004 x182005)) else (impl_Schema_formed.j3 k x1 x9 false x3000 x182000 x182001 x182002 x182003 x182004 x182005))) else (impl_Schema_formed.j3 k x1 x9 x10 x3000 x182000 x182001 x182002 x182003 x182004 x182005))))))
def impl_Schema_formed.f : Nat → Int → Int → Int → List ByteArray → List Bool → List (S31) → Int → Int → Option (Bool × Int)
  | 0, _, _, _, _, _, _, _, _ => none
  | k + 1, a0_0, a0_1, a0_2, l0_3, l0_4, l0_5, a1, s2_0 => if (wrap64 (s2_0 - 1)) < 0 then (impl_Schema_formed.j0 k a1 true (wrap64 (s2_0 - 1)) a0_0 a0_1 a0_2 l0_3 l0_4 l0_5) else (if a1 > 4 then (impl_Schema_formed.j0 k a1 true (wrap64 (s2_0 - 1)) a0_0 a0_1 a0_2 l0_3 l0_4 l0_5) else ((impl_within.f a0_2 0 6).bind fun t182 => (if t182 = true then ((impl_within.f a0_1 0 a0_2).bind fun t183 => (if t183 = true then (impl_Schema_formed.j0 k a1 (decide ((l0_5.length : Int) > 4)) (wrap64 (s2_0 - 1)) a0_0 a0_1 a0_2 l0_3 l0_4 l0_5) else (impl_Schema_formed.j0 k a1 true (wrap64 (s2_0 - 1)) a0_0 a0_1 a0_2 l0_3 l0_4 l0_5))) else (impl_Schema_formed.j0 k a1 true (wrap64 (s2_0 - 1)) a0_0 a0_1 a0_2 l0_3 l0_4 l0_5))))
end
theorem impl_Schema_formed.mono_l : ∀ k, (∀ y0 y1 y2 y3 y4 y5 y6 y7, LeO (impl_Schema_formed.f k y0 y1 y2 y3 y4 y5 y6 y7) (impl_Schema_formed.f (k + 1) y0 y1 y2 y3 y4 y5 y6 y7)) ∧ (∀ y0 y1 y2 y3 y4 y5 y6 y7 y8, LeO (impl_Schema_formed.j0 k y0 y1 y2 y3 y4 y5 y6 y7 y8) (impl_Schema_formed.j0 (k + 1) y0 y1 y2 y3 y4 y5 y6 y7 y8)) ∧ (∀ y0 y1 y2 y3 y4 y5 y6 y7 y8 y9, LeO (impl_Schema_formed.j1 k y0 y1 y2 y3 y4 y5 y6 y7 y8 y9) (impl_Schema_formed.j1 (k + 1) y0 y1 y2 y3 y4 y5 y6 y7 y8 y9)) ∧ (∀ y0 y1 y2 y3 y4 y5 y6 y7 y8 y9, LeO (impl_Schema_formed.j3 k y0 y1 y2 y3 y4 y5 y6 y7 y8 y9) (impl_Schema_formed.j3 (k + 1) y0 y1 y2 y3 y4 y5 y6 y7 y8 y9)) ∧ (∀ y0 y1 y2 y3 y4 y5 y6 y7 y8 y9 y10, LeO (impl_Schema_formed.l0 k y0 y1 y2 y3 y4 y5 y6 y7 y8 y9 y10) (impl_Schema_formed.l0 (k + 1) y0 y1 y2 y3 y4 y5 y6 y7 y8 y9 y10)) ∧ (∀ y0 y1 y2 y3 y4 y5 y6 y7 y8 y9 y10 y11 y12 y13, LeO (impl_Schema_formed.j2 k y0 y1 y2 y3 y4 y5 y6 y7 y8 y9 y10 y11 y12 y13) (impl_Schema_formed.j2 (k + 1) y0 y1 y2 y3 y4 y5 y6 y7 y8 y9 y10 y11 y12 y13))
  | 0 => ⟨fun _ _ _ _ _ _ _ _ r h => by simp [impl_Schema_formed.f] at h, fun _ _ _ _ _ _ _ _ _ r h => by simp [impl_Schema_formed.j0] at h, fun _ _ _ _ _ _ _ _ _ _ r h => by simp [impl_Schema_formed.j1] at h, fun _ _ _ _ _ _ _ _ _ _ r h => by simp [impl_Schema_formed.j3] at h, fun _ _ _ _ _ _ _ _ _ _ _ r h => by simp [impl_Schema_formed.l0] at h, fun _ _ _ _ _ _ _ _ _ _ _ _ _ _ r h => by simp [impl_Schema_formed.j2] at h⟩
  | k + 1 => by
    obtain ⟨ih0, ih1, ih2, ih3, ih4, ih5⟩ := impl_Schema_formed.mono_l k
    refine ⟨?_, ?_, ?_, ?_, ?_, ?_⟩
    · intro y0 y1 y2 y3 y4 y5 y6 y7
      unfold impl_Schema_formed.f
      repeat' first
      | (with_reducible exact ih0 _ _ _ _ _ _ _ _)
      | (with_reducible exact ih1 _ _ _ _ _ _ _ _ _)
      | (with_reducible exact ih2 _ _ _ _ _ _ _ _ _ _)
      | (with_reducible exact ih3 _ _ _ _ _ _ _ _ _ _)
      | (with_reducible exact ih4 _ _ _ _ _ _ _ _ _ _ _)
      | (with_reducible exact ih5 _ _ _ _ _ _ _ _ _ _ _ _ _ _)
      | (with_reducible exact impl_namesOk.mono _ _)
      | (with_reducible exact impl_wordsOk.mono _ _)
      | (with_reducible exact LeO.refl _)
      | (with_reducible exact LeO.none _)
      | (with_reducible refine LeO.ite ?_ ?_)
      | (with_reducible refine LeO.bind ?_ (fun _ => ?_))
      | exact ih0 _ _ _ _ _ _ _ _
      | exact ih1 _ _ _ _ _ _ _ _ _
      | exact ih2 _ _ _ _ _ _ _ _ _ _
      | exact ih3 _ _ _ _ _ _ _ _ _ _
      | exact ih4 _ _ _ _ _ _ _ _ _ _ _
      | exact ih5 _ _ _ _ _ _ _ _ _ _ _ _ _ _
      | exact impl_namesOk.mono _ _
      | exact impl_wordsOk.mono _ _
      | exact LeO.none _
      | refine LeO.ite ?_ ?_
      | refine LeO.bind ?_ (fun _ => ?_)
    · intro y0 y1 y2 y3 y4 y5 y6 y7 y8
      unfold impl_Schema_formed.j0
      repeat' first
      | (with_reducible exact ih0 _ _ _ _ _ _ _ _)
      | (with_reducible exact ih1 _ _ _ _ _ _ _ _ _)
      | (with_reducible exact ih2 _ _ _ _ _ _ _ _ _ _)
      | (with_reducible exact ih3 _ _ _ _ _ _ _ _ _ _)
      | (with_reducible exact ih4 _ _ _ _ _ _ _ _ _ _ _)
      | (with_reducible exact ih5 _ _ _ _ _ _ _ _ _ _ _ _ _ _)
      | (with_reducible exact impl_namesOk.mono _ _)
      | (with_reducible exact impl_wordsOk.mono _ _)
      | (with_reducible exact LeO.refl _)
      | (with_reducible exact LeO.none _)
      | (with_reducible refine LeO.ite ?_ ?_)
      | (with_reducible refine LeO.bind ?_ (fun _ => ?_))
      | exact ih0 _ _ _ _ _ _ _ _
      | exact ih1 _ _ _ _ _ _ _ _ _
      | exact ih2 _ _ _ _ _ _ _ _ _ _
      | exact ih3 _ _ _ _ _ _ _ _ _ _
      | exact ih4 _ _ _ _ _ _ _ _ _ _ _
      | exact ih5 _ _ _ _ _ _ _ _ _ _ _ _ _ _
      | exact impl_namesOk.mono _ _
      | exact impl_wordsOk.mono _ _
      | exact LeO.none _
      | refine LeO.ite ?_ ?_
      | refine LeO.bind ?_ (fun _ => ?_)
    · intro y0 y1 y2 y3 y4 y5 y6 y7 y8 y9
      unfold impl_Schema_formed.j1
      repeat' first
      | (with_reducible exact ih0 _ _ _ _ _ _ _ _)
      | (with_reducible exact ih1 _ _ _ _ _ _ _ _ _)
      | (with_reducible exact ih2 _ _ _ _ _ _ _ _ _ _)
      | (with_reducible exact ih3 _ _ _ _ _ _ _ _ _ _)
      | (with_reducible exact ih4 _ _ _ _ _ _ _ _ _ _ _)
      | (with_reducible exact ih5 _ _ _ _ _ _ _ _ _ _ _ _ _ _)
      | (with_reducible exact impl_namesOk.mono _ _)
      | (with_reducible exact impl_wordsOk.mono _ _)
      | (with_reducible exact LeO.refl _)
      | (with_reducible exact LeO.none _)
      | (with_reducible refine LeO.ite ?_ ?_)
      | (with_reducible refine LeO.bind ?_ (fun _ => ?_))
      | exact ih0 _ _ _ _ _ _ _ _
      | exact ih1 _ _ _ _ _ _ _ _ _
      | exact ih2 _ _ _ _ _ _ _ _ _ _
      | exact ih3 _ _ _ _ _ _ _ _ _ _
      | exact ih4 _ _ _ _ _ _ _ _ _ _ _
      | exact ih5 _ _ _ _ _ _ _ _ _ _ _ _ _ _
      | exact impl_namesOk.mono _ _
      | exact impl_wordsOk.mono _ _
      | exact LeO.none _
      | refine LeO.ite ?_ ?_
      | refine LeO.bind ?_ (fun _ => ?_)
    · intro y0 y1 y2 y3 y4 y5 y6 y7 y8 y9
      unfold impl_Schema_formed.j3
      repeat' first
      | (with_reducible exact ih0 _ _ _ _ _ _ _ _)
      | (with_reducible exact ih1 _ _ _ _ _ _ _ _ _)
      | (with_reducible exact ih2 _ _ _ _ _ _ _ _ _ _)
      | (with_reducible exact ih3 _ _ _ _ _ _ _ _ _ _)
      | (with_reducible exact ih4 _ _ _ _ _ _ _ _ _ _ _)
      | (with_reducible exact ih5 _ _ _ _ _ _ _ _ _ _ _ _ _ _)
      | (with_reducible exact impl_namesOk.mono _ _)
      | (with_reducible exact impl_wordsOk.mono _ _)
      | (with_reducible exact LeO.refl _)
      | (with_reducible exact LeO.none _)
      | (with_reducible refine LeO.ite ?_ ?_)
      | (with_reducible refine LeO.bind ?_ (fun _ => ?_))
      | exact ih0 _ _ _ _ _ _ _ _
      | exact ih1 _ _ _ _ _ _ _ _ _
      | exact ih2 _ _ _ _ _ _ _ _ _ _
      | exact ih3 _ _ _ _ _ _ _ _ _ _
      | exact ih4 _ _ _ _ _ _ _ _ _ _ _
      | exact ih5 _ _ _ _ _ _ _ _ _ _ _ _ _ _
      | exact impl_namesOk.mono _ _
      | exact impl_wordsOk.mono _ _
      | exact LeO.none _
      | refine LeO.ite ?_ ?_
      | refine LeO.bind ?_ (fun _ => ?_)
    · intro y0 y1 y2 y3 y4 y5 y6 y7 y8 y9 y10
      unfold impl_Schema_formed.l0
      repeat' first
      | (with_reducible exact ih0 _ _ _ _ _ _ _ _)
      | (with_reducible exact ih1 _ _ _ _ _ _ _ _ _)
      | (with_reducible exact ih2 _ _ _ _ _ _ _ _ _ _)
      | (with_reducible exact ih3 _ _ _ _ _ _ _ _ _ _)
      | (with_reducible exact ih4 _ _ _ _ _ _ _ _ _ _ _)
      | (with_reducible exact ih5 _ _ _ _ _ _ _ _ _ _ _ _ _ _)
      | (with_reducible exact impl_namesOk.mono _ _)
      | (with_reducible exact impl_wordsOk.mono _ _)
      | (with_reducible exact LeO.refl _)
      | (with_reducible exact LeO.none _)
      | (with_reducible refine LeO.ite ?_ ?_)
      | (with_reducible refine LeO.bind ?_ (fun _ => ?_))
      | exact ih0 _ _ _ _ _ _ _ _
      | exact ih1 _ _ _ _ _ _ _ _ _
      | exact ih2 _ _ _ _ _ _ _ _ _ _
      | exact ih3 _ _ _ _ _ _ _ _ _ _
      | exact ih4 _ _ _ _ _ _ _ _ _ _ _
      | exact ih5 _ _ _ _ _ _ _ _ _ _ _ _ _ _
      | exact impl_namesOk.mono _ _
      | exact impl_wordsOk.mono _ _
      | exact LeO.none _
      | refine LeO.ite ?_ ?_
      | refine LeO.bind ?_ (fun _ => ?_)
    · intro y0 y1 y2 y3 y4 y5 y6 y7 y8 y9 y10 y11 y12 y13
      unfold impl_Schema_formed.j2
      repeat' first
      | (with_reducible exact ih0 _ _ _ _ _ _ _ _)
      | (with_reducible exact ih1 _ _ _ _ _ _ _ _ _)
      | (with_reducible exact ih2 _ _ _ _ _ _ _ _ _ _)
      | (with_reducible exact ih3 _ _ _ _ _ _ _ _ _ _)
      | (with_reducible exact ih4 _ _ _ _ _ _ _ _ _ _ _)
      | (with_reducible exact ih5 _ _ _ _ _ _ _ _ _ _ _ _ _ _)
      | (with_reducible exact impl_namesOk.mono _ _)
      | (with_reducible exact impl_wordsOk.mono _ _)
      | (with_reducible exact LeO.refl _)
      | (with_reducible exact LeO.none _)
      | (with_reducible refine LeO.ite ?_ ?_)
      | (with_reducible refine LeO.bind ?_ (fun _ => ?_))
      | exact ih0 _ _ _ _ _ _ _ _
      | exact ih1 _ _ _ _ _ _ _ _ _
      | exact ih2 _ _ _ _ _ _ _ _ _ _
      | exact ih3 _ _ _ _ _ _ _ _ _ _
      | exact ih4 _ _ _ _ _ _ _ _ _ _ _
      | exact ih5 _ _ _ _ _ _ _ _ _ _ _ _ _ _
      | exact impl_namesOk.mono _ _
      | exact impl_wordsOk.mono _ _
      | exact LeO.none _
      | refine LeO.ite ?_ ?_
      | refine LeO.bind ?_ (fun _ => ?_)
theorem impl_Schema_formed.mono : ∀ a0 a1 a2 a3 a4 a5 a6 a7 k, LeO (impl_Schema_formed.f k a0 a1 a2 a3 a4 a5 a6 a7) (impl_Schema_formed.f (k + 1) a0 a1 a2 a3 a4 a5 a6 a7) := by
  intro a0 a1 a2 a3 a4 a5 a6 a7 k
  obtain ⟨ih0, ih1, ih2, ih3, ih4, ih5⟩ := impl_Schema_formed.mono_l k
  exact ih0 a0 a1 a2 a3 a4 a5 a6 a7
set_option maxHeartbeats 8000000 in
set_option maxRecDepth 100000 in
theorem impl_Schema_formed.calls (k : Nat) : ∀ (a0_0 : Int) (a0_1 : Int) (a0_2 : Int) (A0_3 : Option Addr) (c0_3 : Nat) (l0_3 : List ByteArray) (A0_4 : Option Addr) (c0_4 : Nat) (l0_4 : List Bool) (A0_5 : Option Addr) (c0_5 : Nat) (l0_5 : List (S31)) (a1 : Int) (g : Nat) (s2_0 : Int) (r1 : Bool) (r2 : Int) (w0 w : World) (hI : IsS900003 w0 w g s2_0) (hB : Below w0.heap.size w0 w) (hr0_3 : Kd.C Kd.string w A0_3 l0_3.length l0_3) (hc0_3 : l0_3.length ≤ c0_3) (hf0_3 : ∀ ad, A0_3 = some ad → 0 < l0_3.length → ad.block ≠ g) (hr0_4 : Kd.C Kd.bool w A0_4 l0_4.length l0_4) (hc0_4 : l0_4.length ≤ c0_4) (hf0_4 : ∀ ad, A0_4 = some ad → 0 < l0_4.length → ad.block ≠ g) (hr0_5 : ∀ W_, KeepBut w W_ g none → Kd.C k31 W_ A0_5 l0_5.length l0_5) (hc0_5 : l0_5.length ≤ c0_5) (h : impl_Schema_formed.f k a0_0 a0_1 a0_2 l0_3 l0_4 l0_5 a1 s2_0 = some (r1, r2)),
    Calls Try.prog 17 #[.agg #[.int .i64 a0_0, .int .i64 a0_1, .int .i64 a0_2, .slice A0_3 l0_3.length c0_3, .slice A0_4 l0_4.length c0_4, .slice A0_5 l0_5.length c0_5], .int .i64 a1, .pointer (some ⟨g, 0, none⟩)] w fun e w' => e = .returned (.bool r1) ∧ IsS900003 w0 w' g r2 ∧ Below w0.heap.size w0 w' ∧ KeepBut w w' g none := by
  induction k using Nat.strongRecOn with
  | _ k ih =>
  intro a0_0 a0_1 a0_2 A0_3 c0_3 l0_3 A0_4 c0_4 l0_4 A0_5 c0_5 l0_5 a1 g s2_0 r1 r2 w0 w hI hB hr0_3 hc0_3 hf0_3 hr0_4 hc0_4 hf0_4 hr0_5 hc0_5 h
  cases k with
  | zero => exact absurd h (by simp [impl_Schema_formed.f])
  | succ k =>
  simp only [impl_Schema_formed.f] at h
  have hu31 := Try.underlying31
  have HR0_3 := Aside0.mk hr0_3
  have HC0_3 := Aside0.mk hc0_3
  clear hr0_3 hc0_3
  have HR0_4 := Aside0.mk hr0_4
  have HC0_4 := Aside0.mk hc0_4
  clear hr0_4 hc0_4
  have HR0_5 := Aside0.mk hr0_5
  have HC0_5 := Aside0.mk hc0_5
  clear hr0_5 hc0_5
  have HI2 := Aside0.mk hI
  have HK := Aside0.mk (KeepBut.refl w g none)
  have HL := Aside0.mk hB.size
  clear hI
  have HW0 := Aside0.mk hB.size
  have HB := Aside0.mk hB
  clear hB
  have H : (if (wrap64 (s2_0 - 1)) < 0 then (impl_Schema_formed.j0 k a1 true (wrap64 (s2_0 - 1)) a0_0 a0_1 a0_2 l0_3 l0_4 l0_5) else (if a1 > 4 then (impl_Schema_formed.j0 k a1 true (wrap64 (s2_0 - 1)) a0_0 a0_1 a0_2 l0_3 l0_4 l0_5) else ((impl_within.f a0_2 0 6).bind fun t182 => (if t182 = true then ((impl_within.f a0_1 0 a0_2).bind fun t183 => (if t183 = true then (impl_Schema_formed.j0 k a1 (decide ((l0_5.length : Int) > 4)) (wrap64 (s2_0 - 1)) a0_0 a0_1 a0_2 l0_3 l0_4 l0_5) else (impl_Schema_formed.j0 k a1 true (wrap64 (s2_0 - 1)) a0_0 a0_1 a0_2 l0_3 l0_4 l0_5))) else (impl_Schema_formed.j0 k a1 true (wrap64 (s2_0 - 1)) a0_0 a0_1 a0_2 l0_3 l0_4 l0_5))))) = some (r1, r2) := h
  clear h
  have HC4 := Aside0.mk H
  clear H
  go_enter Try.func17, Try.ntmps17
  go_upto_region 2 with (first | ((with_reducible refine gate_dst (N := 3) rfl ?_); (try (refine gate_guard (by rfl) ?_; dsimp only)); refine box_event ?hg (N := 3) ?hd (cs := #[.int .i64 a0_0, .int .i64 a0_1, .int .i64 a0_2, .slice A0_3 l0_3.length c0_3, .slice A0_4 l0_4.length c0_4, .slice A0_5 l0_5.length c0_5]) (t := 31) ?hr ?_; (case hd => rfl); (case hg => rfl); (case hr => first | (go_simp; done) | (go_simp; rfl)); intro gb181 hg w5 hbox hb; have n0_ := Aside0.mk (IsS900003.below (by repeat (first | (with_reducible first | exact HI2.out | apply IsS900003.alloc | apply IsS900003.drewN | apply IsS900003.drew | apply IsS900003.set_0) | exact HI2.out)) hb); have n1_ := Aside0.mk (KeepBut.trans (by repeat (first | (with_reducible first | exact HK.out | apply KeepBut.set_ | apply keep_drewN | apply keep_drew | apply keep_alloc) | exact HK.out)) (KeepBut.of_below hb g none) (.inl rfl)); have n2_ := Aside0.mk (below_step (by repeat (first | (with_reducible first | exact HB.out | apply below_alloc | apply pw_below_drewN | apply below_drew1 | refine below_set ?_ (IsS900003.ge HI2.out)) | exact HB.out)) hb); have n3_ := Aside0.mk (hbox); have n4_ := Aside0.mk ((by rw [hg]; exact (keep_size (w := w) (g := g) (row := none) (by repeat (first | (with_reducible first | exact HK.out | apply KeepBut.set_ | apply keep_drewN | apply keep_drew | apply keep_alloc) | exact HK.out))) : w.heap.size ≤ gb181)); have n5_ := Aside0.mk ((Nat.le_trans HW0.out (by rw [hg]; exact (keep_size (w := w) (g := g) (row := none) (by repeat (first | (with_reducible first | exact HK.out | apply KeepBut.set_ | apply keep_drewN | apply keep_drew | apply keep_alloc) | exact HK.out))) : w.heap.size ≤ gb181) : w0.heap.size ≤ gb181)); have n6_ := Aside0.mk ((by rw [hg]; exact Nat.ne_of_lt (IsS900003.lt (show IsS900003 w0 _ g s2_0 from by repeat (first | (with_reducible first | exact HI2.out | apply IsS900003.alloc | apply IsS900003.drewN | apply IsS900003.drew | apply IsS900003.set_0) | exact HI2.out))) : g ≠ gb181)); have n7_ := Aside0.mk ((by rw [hg]; exact Nat.ne_of_gt (IsS900003.lt (show IsS900003 w0 _ g s2_0 from by repeat (first | (with_reducible first | exact HI2.out | apply IsS900003.alloc | apply IsS900003.drewN | apply IsS900003.drew | apply IsS900003.set_0) | exact HI2.out))) : gb181 ≠ g)); clear HI2; clear HK; clear HB; have HI2 := n0_; have HK := n1_; have HB := n2_; have BK181 := n3_; have GW181 := n4_; have GE181 := n5_; have NB2_181 := n6_; have NB181_2 := n7_; clear n0_ n1_ n2_ n3_ n4_ n5_ n6_ n7_; clear hb hbox hg; obtain ⟨HGz6, hgz6⟩ := HI2.out; have hcz6_0 := cellS900003_0 HGz6; have hfz6_0 := blk_frozen HGz6 0; clear HGz6 hgz6))
  (try simp only [Act.put, List.setIfInBounds_toArray, List.set_cons_zero, List.set_cons_succ])
  go_cut [44] (fun v44 wc => ∃ (kq : Nat) (x44_3 : Bool), v44 = .bool x44_3 ∧ Aside0 (impl_Schema_formed.j0 kq a1 x44_3 (wrap64 (s2_0 - 1)) a0_0 a0_1 a0_2 l0_3 l0_4 l0_5 = some (r1, r2)) ∧ Aside0 (kq ≤ k) ∧ Aside0 (wc.heap[gb181]? = some (.cells #[.int .i64 a0_0, .int .i64 a0_1, .int .i64 a0_2, (.slice A0_3 l0_3.length c0_3), (.slice A0_4 l0_4.length c0_4), (.slice A0_5 l0_5.length c0_5)] 31 (0, 0))) ∧ Aside0 (IsS900003 w0 wc g (wrap64 (s2_0 - 1))) ∧ Aside0 (KeepBut w wc g none) ∧ Aside0 (Below w0.heap.size w0 wc))
  case first =>
    have H := HC4.out
    clear HC4
    by_cases c7 : (wrap64 (s2_0 - 1)) < 0
    · rw [if_pos c7] at H
      have c7b0 : decide ((wrap64 (s2_0 - 1)) < 0) = true := decide_eq_true c7
      clear c7
      (first | rw [c7b0] | (simp only [i64_w, i32_w]; rw [c7b0]) | skip)
      have H' := Aside0.mk H
      clear H
      obtain ⟨HGz8, hgz8⟩ := HI2.out
      have hcz8_0 := cellS900003_0 HGz8
      have hfz8_0 := blk_frozen HGz8 0
      clear HGz8 hgz8
      go_wp2
      go_meet
      case rel => exact ⟨_, (true), (by first | rfl | (simp; done) | (simp [*]; done)), H', ⟨by first | omega | exact Nat.le_refl _⟩, ⟨by (with_reducible repeat (first | refine blk_drewN ?_ _ | refine blk_drew ?_ | refine blk_alloc ?_ _)); refine blk_far ?_ NB181_2.out _; (with_reducible repeat (first | refine blk_drewN ?_ _ | refine blk_drew ?_ | refine blk_alloc ?_ _)); exact BK181.out⟩, ⟨by repeat (first | (with_reducible first | exact HI2.out | apply IsS900003.alloc | apply IsS900003.drewN | apply IsS900003.drew | apply IsS900003.set_0 | refine IsS900003.far ?_ NB2_181.out _) | exact HI2.out)⟩, ⟨by repeat (first | (with_reducible first | exact HK.out | apply KeepBut.set_ | apply keep_drewN | apply keep_drew | apply keep_alloc | refine keep_far ?_ GW181.out _) | exact HK.out)⟩, ⟨by repeat (first | (with_reducible first | exact HB.out | apply below_alloc | apply pw_below_drewN | apply below_drew1 | refine below_set ?_ (IsS900003.ge HI2.out) | refine below_set ?_ GE181.out) | exact HB.out)⟩⟩
    · rw [if_neg c7] at H
      have c7b0 : decide ((wrap64 (s2_0 - 1)) < 0) = false := decide_eq_false c7
      clear c7
      (first | rw [c7b0] | (simp only [i64_w, i32_w]; rw [c7b0]) | skip)
      by_cases c9 : a1 > 4
      · rw [if_pos c9] at H
        have c9b0 : decide (4 < a1) = true := decide_eq_true c9
        clear c9
        have H' := Aside0.mk H
        clear H
        obtain ⟨HGz10, hgz10⟩ := HI2.out
        have hcz10_0 := cellS900003_0 HGz10
        have hfz10_0 := blk_frozen HGz10 0
        clear HGz10 hgz10
        go_wp2
        go_meet
        case rel => exact ⟨_, (true), (by first | rfl | (simp; done) | (simp [*]; done)), H', ⟨by first | omega | exact Nat.le_refl _⟩, ⟨by (with_reducible repeat (first | refine blk_drewN ?_ _ | refine blk_drew ?_ | refine blk_alloc ?_ _)); refine blk_far ?_ NB181_2.out _; (with_reducible repeat (first | refine blk_drewN ?_ _ | refine blk_drew ?_ | refine blk_alloc ?_ _)); exact BK181.out⟩, ⟨by repeat (first | (with_reducible first | exact HI2.out | apply IsS900003.alloc | apply IsS900003.drewN | apply IsS900003.drew | apply IsS900003.set_0 | refine IsS900003.far ?_ NB2_181.out _) | exact HI2.out)⟩, ⟨by repeat (first | (with_reducible first | exact HK.out | apply KeepBut.set_ | apply keep_drewN | apply keep_drew | apply keep_alloc | refine keep_far ?_ GW181.out _) | exact HK.out)⟩, ⟨by repeat (first | (with_reducible first | exact HB.out | apply below_alloc | apply pw_below_drewN | apply below_drew1 | refine below_set ?_ (IsS900003.ge HI2.out) | refine below_set ?_ GE181.out) | exact HB.out)⟩⟩
      · rw [if_neg c9] at H
        have c9b0 : decide (4 < a1) = false := decide_eq_false c9
        clear c9
        replace H := Option.bind_eq_some_iff.mp H
        obtain ⟨t182, A110, H⟩ := H
        replace H : (if t182 = true then ((impl_within.f a0_1 0 a0_2).bind fun t183 => (if t183 = true then (impl_Schema_formed.j0 k a1 (decide ((l0_5.length : Int) > 4)) (wrap64 (s2_0 - 1)) a0_0 a0_1 a0_2 l0_3 l0_4 l0_5) else (impl_Schema_formed.j0 k a1 true (wrap64 (s2_0 - 1)) a0_0 a0_1 a0_2 l0_3 l0_4 l0_5))) else (impl_Schema_formed.j0 k a1 true (wrap64 (s2_0 - 1)) a0_0 a0_1 a0_2 l0_3 l0_4 l0_5)) = some (r1, r2) := H
        have A11 := Aside0.mk A110
        clear A110
        by_cases c12 : t182 = true
        · subst c12
          have H1 : ((impl_within.f a0_1 0 a0_2).bind fun t183 => (if t183 = true then (impl_Schema_formed.j0 k a1 (decide ((l0_5.length : Int) > 4)) (wrap64 (s2_0 - 1)) a0_0 a0_1 a0_2 l0_3 l0_4 l0_5) else (impl_Schema_formed.j0 k a1 true (wrap64 (s2_0 - 1)) a0_0 a0_1 a0_2 l0_3 l0_4 l0_5))) = some (r1, r2) := by rw [if_pos rfl] at H; exact H
          clear H
          have H := H1
          clear H1
          replace H := Option.bind_eq_some_iff.mp H
          obtain ⟨t183, A130, H⟩ := H
          replace H : (if t183 = true then (impl_Schema_formed.j0 k a1 (decide ((l0_5.length : Int) > 4)) (wrap64 (s2_0 - 1)) a0_0 a0_1 a0_2 l0_3 l0_4 l0_5) else (impl_Schema_formed.j0 k a1 true (wrap64 (s2_0 - 1)) a0_0 a0_1 a0_2 l0_3 l0_4 l0_5)) = some (r1, r2) := H
          have A13 := Aside0.mk A130
          clear A130
          by_cases c14 : t183 = true
          · subst c14
            have H1 : (impl_Schema_formed.j0 k a1 (decide ((l0_5.length : Int) > 4)) (wrap64 (s2_0 - 1)) a0_0 a0_1 a0_2 l0_3 l0_4 l0_5) = some (r1, r2) := by rw [if_pos rfl] at H; exact H
            clear H
            have H := H1
            clear H1
            have H' := Aside0.mk H
            clear H
            obtain ⟨HGz15, hgz15⟩ := HI2.out
            have hcz15_0 := cellS900003_0 HGz15
            have hfz15_0 := blk_frozen HGz15 0
            clear HGz15 hgz15
            have hnb16 := NB181_2.out
            have hnc16 := NB2_181.out
            have hcz17_0 : w5.cell? ⟨gb181, 0, none⟩ = some (.int .i64 a0_0) := (blk_cell BK181.out 0).trans rfl
            have hcz17_1 : w5.cell? ⟨gb181, 1, none⟩ = some (.int .i64 a0_1) := (blk_cell BK181.out 1).trans rfl
            have hcz17_2 : w5.cell? ⟨gb181, 2, none⟩ = some (.int .i64 a0_2) := (blk_cell BK181.out 2).trans rfl
            have hcz17_3 : w5.cell? ⟨gb181, 3, none⟩ = some (.slice A0_3 l0_3.length c0_3) := (blk_cell BK181.out 3).trans rfl
            have hcz17_4 : w5.cell? ⟨gb181, 4, none⟩ = some (.slice A0_4 l0_4.length c0_4) := (blk_cell BK181.out 4).trans rfl
            have hcz17_5 : w5.cell? ⟨gb181, 5, none⟩ = some (.slice A0_5 l0_5.length c0_5) := (blk_cell BK181.out 5).trans rfl
            have hfz17_0 := blk_frozen BK181.out 0
            have hfz17_1 := blk_frozen BK181.out 1
            have hfz17_2 := blk_frozen BK181.out 2
            have hfz17_3 := blk_frozen BK181.out 3
            have hfz17_4 := blk_frozen BK181.out 4
            have hfz17_5 := blk_frozen BK181.out 5
            go_wp2_with (first | (go_at_call 24; (with_reducible refine (impl_within.calls a0_2 0 6 true _ A11.out).mono ?_); rintro e w' ⟨rfl, ⟨nd, rfl⟩⟩) | (go_at_call 24; (with_reducible refine (impl_within.calls a0_1 0 a0_2 true _ A13.out).mono ?_); rintro e w' ⟨rfl, ⟨nd, rfl⟩⟩))
            go_meet
            case rel => exact ⟨_, (decide ((l0_5.length : Int) > 4)), (by first | rfl | (simp; done) | (simp [*]; done)), H', ⟨by first | omega | exact Nat.le_refl _⟩, ⟨by (with_reducible repeat (first | refine blk_drewN ?_ _ | refine blk_drew ?_ | refine blk_alloc ?_ _)); refine blk_far ?_ NB181_2.out _; (with_reducible repeat (first | refine blk_drewN ?_ _ | refine blk_drew ?_ | refine blk_alloc ?_ _)); exact BK181.out⟩, ⟨by repeat (first | (with_reducible first | exact HI2.out | apply IsS900003.alloc | apply IsS900003.drewN | apply IsS900003.drew | apply IsS900003.set_0 | refine IsS900003.far ?_ NB2_181.out _) | exact HI2.out)⟩, ⟨by repeat (first | (with_reducible first | exact HK.out | apply KeepBut.set_ | apply keep_drewN | apply keep_drew | apply keep_alloc | refine keep_far ?_ GW181.out _) | exact HK.out)⟩, ⟨by repeat (first | (with_reducible first | exact HB.out | apply below_alloc | apply pw_below_drewN | apply below_drew1 | refine below_set ?_ (IsS900003.ge HI2.out) | refine below_set ?_ GE181.out) | exact HB.out)⟩⟩
          · replace c14 := Bool.eq_false_iff.mpr c14
            subst c14
            have H1 : (impl_Schema_formed.j0 k a1 true (wrap64 (s2_0 - 1)) a0_0 a0_1 a0_2 l0_3 l0_4 l0_5) = some (r1, r2) := by rw [if_neg (show ¬ (false = true) by decide)] at H; exact H
            clear H
            have H := H1
            clear H1
            have H' := Aside0.mk H
            clear H
            obtain ⟨HGz18, hgz18⟩ := HI2.out
            have hcz18_0 := cellS900003_0 HGz18
            have hfz18_0 := blk_frozen HGz18 0
            clear HGz18 hgz18
            have hnb19 := NB181_2.out
            have hnc19 := NB2_181.out
            have hcz20_0 : w5.cell? ⟨gb181, 0, none⟩ = some (.int .i64 a0_0) := (blk_cell BK181.out 0).trans rfl
            have hcz20_1 : w5.cell? ⟨gb181, 1, none⟩ = some (.int .i64 a0_1) := (blk_cell BK181.out 1).trans rfl
            have hcz20_2 : w5.cell? ⟨gb181, 2, none⟩ = some (.int .i64 a0_2) := (blk_cell BK181.out 2).trans rfl
            have hcz20_3 : w5.cell? ⟨gb181, 3, none⟩ = some (.slice A0_3 l0_3.length c0_3) := (blk_cell BK181.out 3).trans rfl
            have hcz20_4 : w5.cell? ⟨gb181, 4, none⟩ = some (.slice A0_4 l0_4.length c0_4) := (blk_cell BK181.out 4).trans rfl
            have hcz20_5 : w5.cell? ⟨gb181, 5, none⟩ = some (.slice A0_5 l0_5.length c0_5) := (blk_cell BK181.out 5).trans rfl
            have hfz20_0 := blk_frozen BK181.out 0
            have hfz20_1 := blk_frozen BK181.out 1
            have hfz20_2 := blk_frozen BK181.out 2
            have hfz20_3 := blk_frozen BK181.out 3
            have hfz20_4 := blk_frozen BK181.out 4
            have hfz20_5 := blk_frozen BK181.out 5
            go_wp2_with (first | (go_at_call 24; (with_reducible refine (impl_within.calls a0_2 0 6 true _ A11.out).mono ?_); rintro e w' ⟨rfl, ⟨nd, rfl⟩⟩) | (go_at_call 24; (with_reducible refine (impl_within.calls a0_1 0 a0_2 false _ A13.out).mono ?_); rintro e w' ⟨rfl, ⟨nd, rfl⟩⟩))
            go_meet
            case rel => exact ⟨_, (true), (by first | rfl | (simp; done) | (simp [*]; done)), H', ⟨by first | omega | exact Nat.le_refl _⟩, ⟨by (with_reducible repeat (first | refine blk_drewN ?_ _ | refine blk_drew ?_ | refine blk_alloc ?_ _)); refine blk_far ?_ NB181_2.out _; (with_reducible repeat (first | refine blk_drewN ?_ _ | refine blk_drew ?_ | refine blk_alloc ?_ _)); exact BK181.out⟩, ⟨by repeat (first | (with_reducible first | exact HI2.out | apply IsS900003.alloc | apply IsS900003.drewN | apply IsS900003.drew | apply IsS900003.set_0 | refine IsS900003.far ?_ NB2_181.out _) | exact HI2.out)⟩, ⟨by repeat (first | (with_reducible first | exact HK.out | apply KeepBut.set_ | apply keep_drewN | apply keep_drew | apply keep_alloc | refine keep_far ?_ GW181.out _) | exact HK.out)⟩, ⟨by repeat (first | (with_reducible first | exact HB.out | apply below_alloc | apply pw_below_drewN | apply below_drew1 | refine below_set ?_ (IsS900003.ge HI2.out) | refine below_set ?_ GE181.out) | exact HB.out)⟩⟩
        · replace c12 := Bool.eq_false_iff.mpr c12
          subst c12
          have H1 : (impl_Schema_formed.j0 k a1 true (wrap64 (s2_0 - 1)) a0_0 a0_1 a0_2 l0_3 l0_4 l0_5) = some (r1, r2) := by rw [if_neg (show ¬ (false = true) by decide)] at H; exact H
          clear H
          have H := H1
          clear H1
          have H' := Aside0.mk H
          clear H
          obtain ⟨HGz21, hgz21⟩ := HI2.out
          have hcz21_0 := cellS900003_0 HGz21
          have hfz21_0 := blk_frozen HGz21 0
          clear HGz21 hgz21
          have hnb22 := NB181_2.out
          have hnc22 := NB2_181.out
          have hcz23_0 : w5.cell? ⟨gb181, 0, none⟩ = some (.int .i64 a0_0) := (blk_cell BK181.out 0).trans rfl
          have hcz23_1 : w5.cell? ⟨gb181, 1, none⟩ = some (.int .i64 a0_1) := (blk_cell BK181.out 1).trans rfl
          have hcz23_2 : w5.cell? ⟨gb181, 2, none⟩ = some (.int .i64 a0_2) := (blk_cell BK181.out 2).trans rfl
          have hcz23_3 : w5.cell? ⟨gb181, 3, none⟩ = some (.slice A0_3 l0_3.length c0_3) := (blk_cell BK181.out 3).trans rfl
          have hcz23_4 : w5.cell? ⟨gb181, 4, none⟩ = some (.slice A0_4 l0_4.length c0_4) := (blk_cell BK181.out 4).trans rfl
          have hcz23_5 : w5.cell? ⟨gb181, 5, none⟩ = some (.slice A0_5 l0_5.length c0_5) := (blk_cell BK181.out 5).trans rfl
          have hfz23_0 := blk_frozen BK181.out 0
          have hfz23_1 := blk_frozen BK181.out 1
          have hfz23_2 := blk_frozen BK181.out 2
          have hfz23_3 := blk_frozen BK181.out 3
          have hfz23_4 := blk_frozen BK181.out 4
          have hfz23_5 := blk_frozen BK181.out 5
          go_wp2_with (first | (go_at_call 24; (with_reducible refine (impl_within.calls a0_2 0 6 false _ A11.out).mono ?_); rintro e w' ⟨rfl, ⟨nd, rfl⟩⟩))
          go_meet
          case rel => exact ⟨_, (true), (by first | rfl | (simp; done) | (simp [*]; done)), H', ⟨by first | omega | exact Nat.le_refl _⟩, ⟨by (with_reducible repeat (first | refine blk_drewN ?_ _ | refine blk_drew ?_ | refine blk_alloc ?_ _)); refine blk_far ?_ NB181_2.out _; (with_reducible repeat (first | refine blk_drewN ?_ _ | refine blk_drew ?_ | refine blk_alloc ?_ _)); exact BK181.out⟩, ⟨by repeat (first | (with_reducible first | exact HI2.out | apply IsS900003.alloc | apply IsS900003.drewN | apply IsS900003.drew | apply IsS900003.set_0 | refine IsS900003.far ?_ NB2_181.out _) | exact HI2.out)⟩, ⟨by repeat (first | (with_reducible first | exact HK.out | apply KeepBut.set_ | apply keep_drewN | apply keep_drew | apply keep_alloc | refine keep_far ?_ GW181.out _) | exact HK.out)⟩, ⟨by repeat (first | (with_reducible first | exact HB.out | apply below_alloc | apply pw_below_drewN | apply below_drew1 | refine below_set ?_ (IsS900003.ge HI2.out) | refine below_set ?_ GE181.out) | exact HB.out)⟩⟩
  case rest =>
    clear HC4
    try clear c1
    try clear c2
    try clear p2
    try clear p6
    try clear c7
    try clear c7b0
    try clear c9
    try clear c9b0
    try clear c12
    try clear c14
    try clear c16
    try clear c17
    try clear c19
    try clear c22
    try clear hcz10_0
    try clear hcz15_0
    try clear hcz17_0
    try clear hcz17_1
    try clear hcz17_2
    try clear hcz17_3
    try clear hcz17_4
    try clear hcz17_5
    try clear hcz18_0
    try clear hcz20_0
    try clear hcz20_1
    try clear hcz20_2
    try clear hcz20_3
    try clear hcz20_4
    try clear hcz20_5
    try clear hcz21_0
    try clear hcz23_0
    try clear hcz23_1
    try clear hcz23_2
    try clear hcz23_3
    try clear hcz23_4
    try clear hcz23_5
    try clear hcz6_0
    try clear hcz8_0
    try clear hfz10_0
    try clear hfz15_0
    try clear hfz17_0
    try clear hfz17_1
    try clear hfz17_2
    try clear hfz17_3
    try clear hfz17_4
    try clear hfz17_5
    try clear hfz18_0
    try clear hfz20_0
    try clear hfz20_1
    try clear hfz20_2
    try clear hfz20_3
    try clear hfz20_4
    try clear hfz20_5
    try clear hfz21_0
    try clear hfz23_0
    try clear hfz23_1
    try clear hfz23_2
    try clear hfz23_3
    try clear hfz23_4
    try clear hfz23_5
    try clear hfz6_0
    try clear hfz8_0
    obtain ⟨kq, x44_3, rfl, HA, HJ3, BK181, HI2, HK, HB⟩ := hcut
    cases kq with
    | zero => exact absurd HA.out (by simp [impl_Schema_formed.j0])
    | succ kj3 =>
      have H := HA.out
      clear HA
      simp only [impl_Schema_formed.j0] at H
      by_cases c24 : x44_3 = true
      · subst c24
        have H1 : (some (false, (wrap64 (s2_0 - 1)))) = some (r1, r2) := by rw [if_pos rfl] at H; exact H
        clear H
        have H := H1
        clear H1
        simp only [Option.some.injEq, Prod.mk.injEq] at H
        obtain ⟨rfl, rfl⟩ := H
        go_wp2
        go_ret
        exact ⟨by first | rfl | (simp [errW_none, errW_some] <;> rfl) | (simp [*, errW_none, errW_some] <;> rfl) | (simp only [pw_eq_nil]; rfl), by repeat (first | (with_reducible first | exact HI2.out | apply IsS900003.alloc | apply IsS900003.drewN | apply IsS900003.drew | apply IsS900003.set_0 | refine IsS900003.far ?_ NB2_181.out _) | exact HI2.out), by repeat (first | (with_reducible first | exact HB.out | apply below_alloc | apply pw_below_drewN | apply below_drew1 | refine below_set ?_ (IsS900003.ge HI2.out) | refine below_set ?_ GE181.out) | exact HB.out), by repeat (first | (with_reducible first | exact HK.out | apply KeepBut.set_ | apply keep_drewN | apply keep_drew | apply keep_alloc | refine keep_far ?_ GW181.out _) | exact HK.out)⟩
      · replace c24 := Bool.eq_false_iff.mpr c24
        subst c24
        have H1 : (if (l0_3.length : Int) > 0 then (impl_Schema_formed.j1 kj3 a1 (a0_2 != 0) true (wrap64 (s2_0 - 1)) a0_0 a0_1 a0_2 l0_3 l0_4 l0_5) else (impl_Schema_formed.j1 kj3 a1 (a0_2 != 0) (decide ((l0_4.length : Int) > 0)) (wrap64 (s2_0 - 1)) a0_0 a0_1 a0_2 l0_3 l0_4 l0_5)) = some (r1, r2) := by rw [if_neg (show ¬ (false = true) by decide)] at H; exact H
        clear H
        have H := H1
        clear H1
        have HC25 := Aside0.mk H
        clear H
        have hnb26 := NB181_2.out
        have hnc26 := NB2_181.out
        have hcz27_0 : wc.cell? ⟨gb181, 0, none⟩ = some (.int .i64 a0_0) := (blk_cell BK181.out 0).trans rfl
        have hcz27_1 : wc.cell? ⟨gb181, 1, none⟩ = some (.int .i64 a0_1) := (blk_cell BK181.out 1).trans rfl
        have hcz27_2 : wc.cell? ⟨gb181, 2, none⟩ = some (.int .i64 a0_2) := (blk_cell BK181.out 2).trans rfl
        have hcz27_3 : wc.cell? ⟨gb181, 3, none⟩ = some (.slice A0_3 l0_3.length c0_3) := (blk_cell BK181.out 3).trans rfl
        have hcz27_4 : wc.cell? ⟨gb181, 4, none⟩ = some (.slice A0_4 l0_4.length c0_4) := (blk_cell BK181.out 4).trans rfl
        have hcz27_5 : wc.cell? ⟨gb181, 5, none⟩ = some (.slice A0_5 l0_5.length c0_5) := (blk_cell BK181.out 5).trans rfl
        have hfz27_0 := blk_frozen BK181.out 0
        have hfz27_1 := blk_frozen BK181.out 1
        have hfz27_2 := blk_frozen BK181.out 2
        have hfz27_3 := blk_frozen BK181.out 3
        have hfz27_4 := blk_frozen BK181.out 4
        have hfz27_5 := blk_frozen BK181.out 5
        go_upto_region 5 with (fail)
        go_cut [8] (fun v8 wc => ∃ (kq : Nat) (x8_24 : Bool), v8 = .bool x8_24 ∧ Aside0 (impl_Schema_formed.j1 kq a1 (a0_2 != 0) x8_24 (wrap64 (s2_0 - 1)) a0_0 a0_1 a0_2 l0_3 l0_4 l0_5 = some (r1, r2)) ∧ Aside0 (kq ≤ kj3) ∧ Aside0 (wc.heap[gb181]? = some (.cells #[.int .i64 a0_0, .int .i64 a0_1, .int .i64 a0_2, (.slice A0_3 l0_3.length c0_3), (.slice A0_4 l0_4.length c0_4), (.slice A0_5 l0_5.length c0_5)] 31 (0, 0))) ∧ Aside0 (IsS900003 w0 wc g (wrap64 (s2_0 - 1))) ∧ Aside0 (KeepBut w wc g none) ∧ Aside0 (Below w0.heap.size w0 wc))
        case first =>
          have H := HC25.out
          clear HC25
          by_cases c28 : (l0_3.length : Int) > 0
          · rw [if_pos c28] at H
            have c28b0 : decide (0 < (l0_3.length : Int)) = true := decide_eq_true c28
            have c28b1 : decide (0 < l0_3.length) = true := decide_eq_true (by omega)
            clear c28
            (first | rw [c28b0] | (simp only [i64_w, i32_w]; rw [c28b0]) | skip)
            have H' := Aside0.mk H
            clear H
            have hnb29 := NB181_2.out
            have hnc29 := NB2_181.out
            have hcz30_0 : wc.cell? ⟨gb181, 0, none⟩ = some (.int .i64 a0_0) := (blk_cell BK181.out 0).trans rfl
            have hcz30_1 : wc.cell? ⟨gb181, 1, none⟩ = some (.int .i64 a0_1) := (blk_cell BK181.out 1).trans rfl
            have hcz30_2 : wc.cell? ⟨gb181, 2, none⟩ = some (.int .i64 a0_2) := (blk_cell BK181.out 2).trans rfl
            have hcz30_3 : wc.cell? ⟨gb181, 3, none⟩ = some (.slice A0_3 l0_3.length c0_3) := (blk_cell BK181.out 3).trans rfl
            have hcz30_4 : wc.cell? ⟨gb181, 4, none⟩ = some (.slice A0_4 l0_4.length c0_4) := (blk_cell BK181.out 4).trans rfl
            have hcz30_5 : wc.cell? ⟨gb181, 5, none⟩ = some (.slice A0_5 l0_5.length c0_5) := (blk_cell BK181.out 5).trans rfl
            have hfz30_0 := blk_frozen BK181.out 0
            have hfz30_1 := blk_frozen BK181.out 1
            have hfz30_2 := blk_frozen BK181.out 2
            have hfz30_3 := blk_frozen BK181.out 3
            have hfz30_4 := blk_frozen BK181.out 4
            have hfz30_5 := blk_frozen BK181.out 5
            go_wp2
            go_meet
            case rel => exact ⟨_, (true), (by first | rfl | (simp; done) | (simp [*]; done)), H', ⟨by have := HJ3.out; first | omega | exact Nat.le_refl _⟩, ⟨by (with_reducible repeat (first | refine blk_drewN ?_ _ | refine blk_drew ?_ | refine blk_alloc ?_ _)); exact BK181.out⟩, ⟨by repeat (first | (with_reducible first | exact HI2.out | apply IsS900003.alloc | apply IsS900003.drewN | apply IsS900003.drew | apply IsS900003.set_0 | refine IsS900003.far ?_ NB2_181.out _) | exact HI2.out)⟩, ⟨by repeat (first | (with_reducible first | exact HK.out | apply KeepBut.set_ | apply keep_drewN | apply keep_drew | apply keep_alloc | refine keep_far ?_ GW181.out _) | exact HK.out)⟩, ⟨by repeat (first | (with_reducible first | exact HB.out | apply below_alloc | apply pw_below_drewN | apply below_drew1 | refine below_set ?_ (IsS900003.ge HI2.out) | refine below_set ?_ GE181.out) | exact HB.out)⟩⟩
          · rw [if_neg c28] at H
            have c28b0 : decide (0 < (l0_3.length : Int)) = false := decide_eq_false c28
            have c28b1 : decide (0 < l0_3.length) = false := decide_eq_false (by omega)
            clear c28
            (first | rw [c28b0] | (simp only [i64_w, i32_w]; rw [c28b0]) | skip)
            have H' := Aside0.mk H
            clear H
            have hnb31 := NB181_2.out
            have hnc31 := NB2_181.out
            have hcz32_0 : wc.cell? ⟨gb181, 0, none⟩ = some (.int .i64 a0_0) := (blk_cell BK181.out 0).trans rfl
            have hcz32_1 : wc.cell? ⟨gb181, 1, none⟩ = some (.int .i64 a0_1) := (blk_cell BK181.out 1).trans rfl
            have hcz32_2 : wc.cell? ⟨gb181, 2, none⟩ = some (.int .i64 a0_2) := (blk_cell BK181.out 2).trans rfl
            have hcz32_3 : wc.cell? ⟨gb181, 3, none⟩ = some (.slice A0_3 l0_3.length c0_3) := (blk_cell BK181.out 3).trans rfl
            have hcz32_4 : wc.cell? ⟨gb181, 4, none⟩ = some (.slice A0_4 l0_4.length c0_4) := (blk_cell BK181.out 4).trans rfl
            have hcz32_5 : wc.cell? ⟨gb181, 5, none⟩ = some (.slice A0_5 l0_5.length c0_5) := (blk_cell BK181.out 5).trans rfl
            have hfz32_0 := blk_frozen BK181.out 0
            have hfz32_1 := blk_frozen BK181.out 1
            have hfz32_2 := blk_frozen BK181.out 2
            have hfz32_3 := blk_frozen BK181.out 3
            have hfz32_4 := blk_frozen BK181.out 4
            have hfz32_5 := blk_frozen BK181.out 5
            go_wp2
            go_meet
            case rel => exact ⟨_, (decide ((l0_4.length : Int) > 0)), (by first | rfl | (simp; done) | (simp [*]; done)), H', ⟨by have := HJ3.out; first | omega | exact Nat.le_refl _⟩, ⟨by (with_reducible repeat (first | refine blk_drewN ?_ _ | refine blk_drew ?_ | refine blk_alloc ?_ _)); exact BK181.out⟩, ⟨by repeat (first | (with_reducible first | exact HI2.out | apply IsS900003.alloc | apply IsS900003.drewN | apply IsS900003.drew | apply IsS900003.set_0 | refine IsS900003.far ?_ NB2_181.out _) | exact HI2.out)⟩, ⟨by repeat (first | (with_reducible first | exact HK.out | apply KeepBut.set_ | apply keep_drewN | apply keep_drew | apply keep_alloc | refine keep_far ?_ GW181.out _) | exact HK.out)⟩, ⟨by repeat (first | (with_reducible first | exact HB.out | apply below_alloc | apply pw_below_drewN | apply below_drew1 | refine below_set ?_ (IsS900003.ge HI2.out) | refine below_set ?_ GE181.out) | exact HB.out)⟩⟩
        case rest =>
          clear HC25
          try clear c1
          try clear c2
          try clear p2
          try clear c3
          try clear p6
          try clear c7
          try clear c7b0
          try clear c9
          try clear c9b0
          try clear c12
          try clear c14
          try clear c16
          try clear c17
          try clear c19
          try clear c22
          try clear c24
          try clear c26
          try clear c28
          try clear c28b0
          try clear c28b1
          try clear c29
          try clear c31
          try clear hcz10_0
          try clear hcz15_0
          try clear hcz17_0
          try clear hcz17_1
          try clear hcz17_2
          try clear hcz17_3
          try clear hcz17_4
          try clear hcz17_5
          try clear hcz18_0
          try clear hcz20_0
          try clear hcz20_1
          try clear hcz20_2
          try clear hcz20_3
          try clear hcz20_4
          try clear hcz20_5
          try clear hcz21_0
          try clear hcz23_0
          try clear hcz23_1
          try clear hcz23_2
          try clear hcz23_3
          try clear hcz23_4
          try clear hcz23_5
          try clear hcz27_0
          try clear hcz27_1
          try clear hcz27_2
          try clear hcz27_3
          try clear hcz27_4
          try clear hcz27_5
          try clear hcz30_0
          try clear hcz30_1
          try clear hcz30_2
          try clear hcz30_3
          try clear hcz30_4
          try clear hcz30_5
          try clear hcz32_0
          try clear hcz32_1
          try clear hcz32_2
          try clear hcz32_3
          try clear hcz32_4
          try clear hcz32_5
          try clear hcz6_0
          try clear hcz8_0
          try clear hfz10_0
          try clear hfz15_0
          try clear hfz17_0
          try clear hfz17_1
          try clear hfz17_2
          try clear hfz17_3
          try clear hfz17_4
          try clear hfz17_5
          try clear hfz18_0
          try clear hfz20_0
          try clear hfz20_1
          try clear hfz20_2
          try clear hfz20_3
          try clear hfz20_4
          try clear hfz20_5
          try clear hfz21_0
          try clear hfz23_0
          try clear hfz23_1
          try clear hfz23_2
          try clear hfz23_3
          try clear hfz23_4
          try clear hfz23_5
          try clear hfz27_0
          try clear hfz27_1
          try clear hfz27_2
          try clear hfz27_3
          try clear hfz27_4
          try clear hfz27_5
          try clear hfz30_0
          try clear hfz30_1
          try clear hfz30_2
          try clear hfz30_3
          try clear hfz30_4
          try clear hfz30_5
          try clear hfz32_0
          try clear hfz32_1
          try clear hfz32_2
          try clear hfz32_3
          try clear hfz32_4
          try clear hfz32_5
          try clear hfz6_0
          try clear hfz8_0
          try clear p2
          try clear p6
          obtain ⟨kq, x8_24, rfl, HA, HJ24, BK181, HI2, HK, HB⟩ := hcut
          cases kq with
          | zero => exact absurd HA.out (by simp [impl_Schema_formed.j1])
          | succ kj24 =>
            have H := HA.out
            clear HA
            simp only [impl_Schema_formed.j1] at H
            obtain ⟨bq33, hbq33⟩ : ∃ b_ : Bool, b_ = (a0_2 != 0) := ⟨_, rfl⟩
            (try rw [← hbq33] at H)
            (try rw [← hbq33])
            have Nbq33 := Aside0.mk hbq33
            clear hbq33
            have HC34 := Aside0.mk H
            clear H
            have hnb35 := NB181_2.out
            have hnc35 := NB2_181.out
            have hcz36_0 : wc.cell? ⟨gb181, 0, none⟩ = some (.int .i64 a0_0) := (blk_cell BK181.out 0).trans rfl
            have hcz36_1 : wc.cell? ⟨gb181, 1, none⟩ = some (.int .i64 a0_1) := (blk_cell BK181.out 1).trans rfl
            have hcz36_2 : wc.cell? ⟨gb181, 2, none⟩ = some (.int .i64 a0_2) := (blk_cell BK181.out 2).trans rfl
            have hcz36_3 : wc.cell? ⟨gb181, 3, none⟩ = some (.slice A0_3 l0_3.length c0_3) := (blk_cell BK181.out 3).trans rfl
            have hcz36_4 : wc.cell? ⟨gb181, 4, none⟩ = some (.slice A0_4 l0_4.length c0_4) := (blk_cell BK181.out 4).trans rfl
            have hcz36_5 : wc.cell? ⟨gb181, 5, none⟩ = some (.slice A0_5 l0_5.length c0_5) := (blk_cell BK181.out 5).trans rfl
            have hfz36_0 := blk_frozen BK181.out 0
            have hfz36_1 := blk_frozen BK181.out 1
            have hfz36_2 := blk_frozen BK181.out 2
            have hfz36_3 := blk_frozen BK181.out 3
            have hfz36_4 := blk_frozen BK181.out 4
            have hfz36_5 := blk_frozen BK181.out 5
            go_upto_block 0 with (fail)
            go_cut [10] (fun v10 wc => ∃ (kq : Nat) (x10_33 : Bool), v10 = .bool x10_33 ∧ Aside0 (impl_Schema_formed.j3 kq a1 (l0_5.length : Int) x10_33 (wrap64 (s2_0 - 1)) a0_0 a0_1 a0_2 l0_3 l0_4 l0_5 = some (r1, r2)) ∧ Aside0 (kq ≤ kj24) ∧ Aside0 (wc.heap[gb181]? = some (.cells #[.int .i64 a0_0, .int .i64 a0_1, .int .i64 a0_2, (.slice A0_3 l0_3.length c0_3), (.slice A0_4 l0_4.length c0_4), (.slice A0_5 l0_5.length c0_5)] 31 (0, 0))) ∧ Aside0 (IsS900003 w0 wc g (wrap64 (s2_0 - 1))) ∧ Aside0 (KeepBut w wc g none) ∧ Aside0 (Below w0.heap.size w0 wc))
            case first =>
              have H := HC34.out
              clear HC34
              have HC37 := Aside0.mk H
              clear H
              go_upto_if 63 with (fail)
              go_cut [63] (fun v63 wc => ∃ (kq : Nat) (x63_36 : Bool), v63 = .bool x63_36 ∧ Aside0 (impl_Schema_formed.j2 kq a1 bq33 x8_24 (l0_5.length : Int) false a0_0 x63_36 (wrap64 (s2_0 - 1)) a0_0 a0_1 a0_2 l0_3 l0_4 l0_5 = some (r1, r2)) ∧ Aside0 (kq ≤ kj24) ∧ Aside0 (wc.heap[gb181]? = some (.cells #[.int .i64 a0_0, .int .i64 a0_1, .int .i64 a0_2, (.slice A0_3 l0_3.length c0_3), (.slice A0_4 l0_4.length c0_4), (.slice A0_5 l0_5.length c0_5)] 31 (0, 0))) ∧ Aside0 (IsS900003 w0 wc g (wrap64 (s2_0 - 1))) ∧ Aside0 (KeepBut w wc g none) ∧ Aside0 (Below w0.heap.size w0 wc))
              case first =>
                have H := HC37.out
                clear HC37
                by_cases c38 : a0_0 = 1
                · rw [if_pos c38] at H
                  have c38b0 : (a0_0 == 1) = true := beq_iff_eq.mpr c38
                  have c38b1 : (a0_0 != 1) = false := bne_eq_false_iff_eq.mpr c38
                  clear c38
                  (first | rw [c38b0] | (simp only [i64_w, i32_w]; rw [c38b0]) | skip)
                  have H' := Aside0.mk H
                  clear H
                  go_wp2
                  go_meet
                  case rel => exact ⟨_, ((a0_0 == 1)), (by first | rfl | (simp; done) | (simp [*]; done)), H', ⟨by have := HJ3.out; have := HJ24.out; first | omega | exact Nat.le_refl _⟩, ⟨by (with_reducible repeat (first | refine blk_drewN ?_ _ | refine blk_drew ?_ | refine blk_alloc ?_ _)); exact BK181.out⟩, ⟨by repeat (first | (with_reducible first | exact HI2.out | apply IsS900003.alloc | apply IsS900003.drewN | apply IsS900003.drew | apply IsS900003.set_0 | refine IsS900003.far ?_ NB2_181.out _) | exact HI2.out)⟩, ⟨by repeat (first | (with_reducible first | exact HK.out | apply KeepBut.set_ | apply keep_drewN | apply keep_drew | apply keep_alloc | refine keep_far ?_ GW181.out _) | exact HK.out)⟩, ⟨by repeat (first | (with_reducible first | exact HB.out | apply below_alloc | apply pw_below_drewN | apply below_drew1 | refine below_set ?_ (IsS900003.ge HI2.out) | refine below_set ?_ GE181.out) | exact HB.out)⟩⟩
                · rw [if_neg c38] at H
                  have c38b0 : (a0_0 == 1) = false := beq_eq_false_iff_ne.mpr c38
                  have c38b1 : (a0_0 != 1) = true := bne_iff_ne.mpr c38
                  (first | rw [c38b0] | (simp only [i64_w, i32_w]; rw [c38b0]) | skip)
                  by_cases c39 : a0_0 = 2
                  · rw [if_pos c39] at H
                    have c39b0 : (a0_0 == 2) = true := beq_iff_eq.mpr c39
                    have c39b1 : (a0_0 != 2) = false := bne_eq_false_iff_eq.mpr c39
                    clear c39
                    have H' := Aside0.mk H
                    clear H
                    go_wp2
                    go_meet
                    case rel => exact ⟨_, ((a0_0 == 2)), (by first | rfl | (simp; done) | (simp [*]; done)), H', ⟨by have := HJ3.out; have := HJ24.out; first | omega | exact Nat.le_refl _⟩, ⟨by (with_reducible repeat (first | refine blk_drewN ?_ _ | refine blk_drew ?_ | refine blk_alloc ?_ _)); exact BK181.out⟩, ⟨by repeat (first | (with_reducible first | exact HI2.out | apply IsS900003.alloc | apply IsS900003.drewN | apply IsS900003.drew | apply IsS900003.set_0 | refine IsS900003.far ?_ NB2_181.out _) | exact HI2.out)⟩, ⟨by repeat (first | (with_reducible first | exact HK.out | apply KeepBut.set_ | apply keep_drewN | apply keep_drew | apply keep_alloc | refine keep_far ?_ GW181.out _) | exact HK.out)⟩, ⟨by repeat (first | (with_reducible first | exact HB.out | apply below_alloc | apply pw_below_drewN | apply below_drew1 | refine below_set ?_ (IsS900003.ge HI2.out) | refine below_set ?_ GE181.out) | exact HB.out)⟩⟩
                  · rw [if_neg c39] at H
                    have c39b0 : (a0_0 == 2) = false := beq_eq_false_iff_ne.mpr c39
                    have c39b1 : (a0_0 != 2) = true := bne_iff_ne.mpr c39
                    have H' := Aside0.mk H
                    clear H
                    go_wp2
                    go_meet
                    case rel => exact ⟨_, ((a0_0 == 3)), (by first | rfl | (simp; done) | (simp [*]; done)), H', ⟨by have := HJ3.out; have := HJ24.out; first | omega | exact Nat.le_refl _⟩, ⟨by (with_reducible repeat (first | refine blk_drewN ?_ _ | refine blk_drew ?_ | refine blk_alloc ?_ _)); exact BK181.out⟩, ⟨by repeat (first | (with_reducible first | exact HI2.out | apply IsS900003.alloc | apply IsS900003.drewN | apply IsS900003.drew | apply IsS900003.set_0 | refine IsS900003.far ?_ NB2_181.out _) | exact HI2.out)⟩, ⟨by repeat (first | (with_reducible first | exact HK.out | apply KeepBut.set_ | apply keep_drewN | apply keep_drew | apply keep_alloc | refine keep_far ?_ GW181.out _) | exact HK.out)⟩, ⟨by repeat (first | (with_reducible first | exact HB.out | apply below_alloc | apply pw_below_drewN | apply below_drew1 | refine below_set ?_ (IsS900003.ge HI2.out) | refine below_set ?_ GE181.out) | exact HB.out)⟩⟩
              case rest =>
                clear HC37
                try clear c1
                try clear c2
                try clear p2
                try clear c3
                try clear q3
                try clear p6
                try clear c7
                try clear c7b0
                try clear c9
                try clear c9b0
                try clear c12
                try clear c14
                try clear c16
                try clear c17
                try clear c19
                try clear c22
                try clear c24
                try clear c26
                try clear c28
                try clear c28b0
                try clear c28b1
                try clear c29
                try clear c31
                try clear q33
                try clear c35
                try clear c38
                try clear c38b0
                try clear c38b1
                try clear c39
                try clear c39b0
                try clear c39b1
                try clear hcz10_0
                try clear hcz15_0
                try clear hcz17_0
                try clear hcz17_1
                try clear hcz17_2
                try clear hcz17_3
                try clear hcz17_4
                try clear hcz17_5
                try clear hcz18_0
                try clear hcz20_0
                try clear hcz20_1
                try clear hcz20_2
                try clear hcz20_3
                try clear hcz20_4
                try clear hcz20_5
                try clear hcz21_0
                try clear hcz23_0
                try clear hcz23_1
                try clear hcz23_2
                try clear hcz23_3
                try clear hcz23_4
                try clear hcz23_5
                try clear hcz27_0
                try clear hcz27_1
                try clear hcz27_2
                try clear hcz27_3
                try clear hcz27_4
                try clear hcz27_5
                try clear hcz30_0
                try clear hcz30_1
                try clear hcz30_2
                try clear hcz30_3
                try clear hcz30_4
                try clear hcz30_5
                try clear hcz32_0
                try clear hcz32_1
                try clear hcz32_2
                try clear hcz32_3
                try clear hcz32_4
                try clear hcz32_5
                try clear hcz36_0
                try clear hcz36_1
                try clear hcz36_2
                try clear hcz36_3
                try clear hcz36_4
                try clear hcz36_5
                try clear hcz6_0
                try clear hcz8_0
                try clear hfz10_0
                try clear hfz15_0
                try clear hfz17_0
                try clear hfz17_1
                try clear hfz17_2
                try clear hfz17_3
                try clear hfz17_4
                try clear hfz17_5
                try clear hfz18_0
                try clear hfz20_0
                try clear hfz20_1
                try clear hfz20_2
                try clear hfz20_3
                try clear hfz20_4
                try clear hfz20_5
                try clear hfz21_0
                try clear hfz23_0
                try clear hfz23_1
                try clear hfz23_2
                try clear hfz23_3
                try clear hfz23_4
                try clear hfz23_5
                try clear hfz27_0
                try clear hfz27_1
                try clear hfz27_2
                try clear hfz27_3
                try clear hfz27_4
                try clear hfz27_5
                try clear hfz30_0
                try clear hfz30_1
                try clear hfz30_2
                try clear hfz30_3
                try clear hfz30_4
                try clear hfz30_5
                try clear hfz32_0
                try clear hfz32_1
                try clear hfz32_2
                try clear hfz32_3
                try clear hfz32_4
                try clear hfz32_5
                try clear hfz36_0
                try clear hfz36_1
                try clear hfz36_2
                try clear hfz36_3
                try clear hfz36_4
                try clear hfz36_5
                try clear hfz6_0
                try clear hfz8_0
                try clear p2
                try clear p6
                obtain ⟨kq, x63_36, rfl, HA, HJ36, BK181, HI2, HK, HB⟩ := hcut
                cases kq with
                | zero => exact absurd HA.out (by simp [impl_Schema_formed.j2])
                | succ kj36 =>
                  have H := HA.out
                  clear HA
                  simp only [impl_Schema_formed.j2] at H
                  by_cases c40 : x63_36 = true
                  · as_aux_lemma =>
                    subst c40
                    have H1 : (if bq33 = true then (impl_Schema_formed.j3 kj36 a1 (l0_5.length : Int) false (wrap64 (s2_0 - 1)) a0_0 a0_1 a0_2 l0_3 l0_4 l0_5) else (if x8_24 = true then (impl_Schema_formed.j3 kj36 a1 (l0_5.length : Int) false (wrap64 (s2_0 - 1)) a0_0 a0_1 a0_2 l0_3 l0_4 l0_5) else (impl_Schema_formed.j3 kj36 a1 (l0_5.length : Int) ((l0_5.length : Int) == 0) (wrap64 (s2_0 - 1)) a0_0 a0_1 a0_2 l0_3 l0_4 l0_5))) = some (r1, r2) := by rw [if_pos rfl] at H; exact H
                    clear H
                    have H := H1
                    clear H1
                    by_cases c41 : bq33 = true
                    · subst c41
                      have H1 : (impl_Schema_formed.j3 kj36 a1 (l0_5.length : Int) false (wrap64 (s2_0 - 1)) a0_0 a0_1 a0_2 l0_3 l0_4 l0_5) = some (r1, r2) := by rw [if_pos rfl] at H; exact H
                      clear H
                      have H := H1
                      clear H1
                      have H' := Aside0.mk H
                      clear H
                      go_wp2
                      go_meet
                      case rel => exact ⟨_, (false), (by first | rfl | (simp; done) | (simp [*]; done)), H', ⟨by have := HJ3.out; have := HJ24.out; have := HJ36.out; first | omega | exact Nat.le_refl _⟩, ⟨by (with_reducible repeat (first | refine blk_drewN ?_ _ | refine blk_drew ?_ | refine blk_alloc ?_ _)); exact BK181.out⟩, ⟨by repeat (first | (with_reducible first | exact HI2.out | apply IsS900003.alloc | apply IsS900003.drewN | apply IsS900003.drew | apply IsS900003.set_0 | refine IsS900003.far ?_ NB2_181.out _) | exact HI2.out)⟩, ⟨by repeat (first | (with_reducible first | exact HK.out | apply KeepBut.set_ | apply keep_drewN | apply keep_drew | apply keep_alloc | refine keep_far ?_ GW181.out _) | exact HK.out)⟩, ⟨by repeat (first | (with_reducible first | exact HB.out | apply below_alloc | apply pw_below_drewN | apply below_drew1 | refine below_set ?_ (IsS900003.ge HI2.out) | refine below_set ?_ GE181.out) | exact HB.out)⟩⟩
                    · replace c41 := Bool.eq_false_iff.mpr c41
                      subst c41
                      have H1 : (if x8_24 = true then (impl_Schema_formed.j3 kj36 a1 (l0_5.length : Int) false (wrap64 (s2_0 - 1)) a0_0 a0_1 a0_2 l0_3 l0_4 l0_5) else (impl_Schema_formed.j3 kj36 a1 (l0_5.length : Int) ((l0_5.length : Int) == 0) (wrap64 (s2_0 - 1)) a0_0 a0_1 a0_2 l0_3 l0_4 l0_5)) = some (r1, r2) := by rw [if_neg (show ¬ (false = true) by decide)] at H; exact H
                      clear H
                      have H := H1
                      clear H1
                      by_cases c42 : x8_24 = true
                      · subst c42
                        have H1 : (impl_Schema_formed.j3 kj36 a1 (l0_5.length : Int) false (wrap64 (s2_0 - 1)) a0_0 a0_1 a0_2 l0_3 l0_4 l0_5) = some (r1, r2) := by rw [if_pos rfl] at H; exact H
                        clear H
                        have H := H1
                        clear H1
                        have H' := Aside0.mk H
                        clear H
                        go_wp2
                        go_meet
                        case rel => exact ⟨_, (false), (by first | rfl | (simp; done) | (simp [*]; done)), H', ⟨by have := HJ3.out; have := HJ24.out; have := HJ36.out; first | omega | exact Nat.le_refl _⟩, ⟨by (with_reducible repeat (first | refine blk_drewN ?_ _ | refine blk_drew ?_ | refine blk_alloc ?_ _)); exact BK181.out⟩, ⟨by repeat (first | (with_reducible first | exact HI2.out | apply IsS900003.alloc | apply IsS900003.drewN | apply IsS900003.drew | apply IsS900003.set_0 | refine IsS900003.far ?_ NB2_181.out _) | exact HI2.out)⟩, ⟨by repeat (first | (with_reducible first | exact HK.out | apply KeepBut.set_ | apply keep_drewN | apply keep_drew | apply keep_alloc | refine keep_far ?_ GW181.out _) | exact HK.out)⟩, ⟨by repeat (first | (with_reducible first | exact HB.out | apply below_alloc | apply pw_below_drewN | apply below_drew1 | refine below_set ?_ (IsS900003.ge HI2.out) | refine below_set ?_ GE181.out) | exact HB.out)⟩⟩
                      · replace c42 := Bool.eq_false_iff.mpr c42
                        subst c42
                        have H1 : (impl_Schema_formed.j3 kj36 a1 (l0_5.length : Int) ((l0_5.length : Int) == 0) (wrap64 (s2_0 - 1)) a0_0 a0_1 a0_2 l0_3 l0_4 l0_5) = some (r1, r2) := by rw [if_neg (show ¬ (false = true) by decide)] at H; exact H
                        clear H
                        have H := H1
                        clear H1
                        have H' := Aside0.mk H
                        clear H
                        go_wp2
                        go_meet
                        case rel => exact ⟨_, (((l0_5.length : Int) == 0)), (by first | rfl | (simp; done) | (simp [*]; done)), H', ⟨by have := HJ3.out; have := HJ24.out; have := HJ36.out; first | omega | exact Nat.le_refl _⟩, ⟨by (with_reducible repeat (first | refine blk_drewN ?_ _ | refine blk_drew ?_ | refine blk_alloc ?_ _)); exact BK181.out⟩, ⟨by repeat (first | (with_reducible first | exact HI2.out | apply IsS900003.alloc | apply IsS900003.drewN | apply IsS900003.drew | apply IsS900003.set_0 | refine IsS900003.far ?_ NB2_181.out _) | exact HI2.out)⟩, ⟨by repeat (first | (with_reducible first | exact HK.out | apply KeepBut.set_ | apply keep_drewN | apply keep_drew | apply keep_alloc | refine keep_far ?_ GW181.out _) | exact HK.out)⟩, ⟨by repeat (first | (with_reducible first | exact HB.out | apply below_alloc | apply pw_below_drewN | apply below_drew1 | refine below_set ?_ (IsS900003.ge HI2.out) | refine below_set ?_ GE181.out) | exact HB.out)⟩⟩
                  · replace c40 := Bool.eq_false_iff.mpr c40
                    subst c40
                    have H1 : (if a0_0 = 4 then (if x8_24 = true then (impl_Schema_formed.j3 kj36 a1 (l0_5.length : Int) false (wrap64 (s2_0 - 1)) a0_0 a0_1 a0_2 l0_3 l0_4 l0_5) else (impl_Schema_formed.j3 kj36 a1 (l0_5.length : Int) ((l0_5.length : Int) == 0) (wrap64 (s2_0 - 1)) a0_0 a0_1 a0_2 l0_3 l0_4 l0_5)) else (if a0_0 = 5 then (if x8_24 = true then (impl_Schema_formed.j3 kj36 a1 (l0_5.length : Int) false (wrap64 (s2_0 - 1)) a0_0 a0_1 a0_2 l0_3 l0_4 l0_5) else (impl_Schema_formed.j3 kj36 a1 (l0_5.length : Int) ((l0_5.length : Int) == 1) (wrap64 (s2_0 - 1)) a0_0 a0_1 a0_2 l0_3 l0_4 l0_5)) else (if a0_0 = 6 then (if bq33 = true then (impl_Schema_formed.j3 kj36 a1 (l0_5.length : Int) false (wrap64 (s2_0 - 1)) a0_0 a0_1 a0_2 l0_3 l0_4 l0_5) else ((impl_namesOk.f kj36 l0_3).bind fun t184 => (if t184 = true then (if (l0_3.length : Int) = (l0_5.length : Int) then (impl_Schema_formed.j3 kj36 a1 (l0_5.length : Int) ((l0_4.length : Int) == (l0_5.length : Int)) (wrap64 (s2_0 - 1)) a0_0 a0_1 a0_2 l0_3 l0_4 l0_5) else (impl_Schema_formed.j3 kj36 a1 (l0_5.length : Int) false (wrap64 (s2_0 - 1)) a0_0 a0_1 a0_2 l0_3 l0_4 l0_5)) else (impl_Schema_formed.j3 kj36 a1 (l0_5.length : Int) false (wrap64 (s2_0 - 1)) a0_0 a0_1 a0_2 l0_3 l0_4 l0_5)))) else (if a0_0 = 7 then (if bq33 = true then (impl_Schema_formed.j3 kj36 a1 (l0_5.length : Int) false (wrap64 (s2_0 - 1)) a0_0 a0_1 a0_2 l0_3 l0_4 l0_5) else (if x8_24 = true then (impl_Schema_formed.j3 kj36 a1 (l0_5.length : Int) false (wrap64 (s2_0 - 1)) a0_0 a0_1 a0_2 l0_3 l0_4 l0_5) else (impl_Schema_formed.j3 kj36 a1 (l0_5.length : Int) (decide ((l0_5.length : Int) ≥ 2)) (wrap64 (s2_0 - 1)) a0_0 a0_1 a0_2 l0_3 l0_4 l0_5))) else (if a0_0 = 8 then (if bq33 = true then (impl_Schema_formed.j3 kj36 a1 (l0_5.length : Int) false (wrap64 (s2_0 - 1)) a0_0 a0_1 a0_2 l0_3 l0_4 l0_5) else (if (l0_5.length : Int) = 0 then (if (l0_4.length : Int) = 0 then ((impl_wordsOk.f kj36 l0_3).bind fun t185 => (impl_Schema_formed.j3 kj36 a1 (l0_5.length : Int) t185 (wrap64 (s2_0 - 1)) a0_0 a0_1 a0_2 l0_3 l0_4 l0_5)) else (impl_Schema_formed.j3 kj36 a1 (l0_5.length : Int) false (wrap64 (s2_0 - 1)) a0_0 a0_1 a0_2 l0_3 l0_4 l0_5)) else (impl_Schema_formed.j3 kj36 a1 (l0_5.length : Int) false (wrap64 (s2_0 - 1)) a0_0 a0_1 a0_2 l0_3 l0_4 l0_5))) else (impl_Schema_formed.j3 kj36 a1 (l0_5.length : Int) false (wrap64 (s2_0 - 1)) a0_0 a0_1 a0_2 l0_3 l0_4 l0_5)))))) = some (r1, r2) := by rw [if_neg (show ¬ (false = true) by decide)] at H; exact H
                    clear H
                    have H := H1
                    clear H1
                    by_cases c43 : a0_0 = 4
                    · as_aux_lemma =>
                      rw [if_pos c43] at H
                      have c43b0 : (a0_0 == 4) = true := beq_iff_eq.mpr c43
                      have c43b1 : (a0_0 != 4) = false := bne_eq_false_iff_eq.mpr c43
                      clear c43
                      by_cases c44 : x8_24 = true
                      · subst c44
                        have H1 : (impl_Schema_formed.j3 kj36 a1 (l0_5.length : Int) false (wrap64 (s2_0 - 1)) a0_0 a0_1 a0_2 l0_3 l0_4 l0_5) = some (r1, r2) := by rw [if_pos rfl] at H; exact H
                        clear H
                        have H := H1
                        clear H1
                        have H' := Aside0.mk H
                        clear H
                        go_wp2
                        go_meet
                        case rel => exact ⟨_, (false), (by first | rfl | (simp; done) | (simp [*]; done)), H', ⟨by have := HJ3.out; have := HJ24.out; have := HJ36.out; first | omega | exact Nat.le_refl _⟩, ⟨by (with_reducible repeat (first | refine blk_drewN ?_ _ | refine blk_drew ?_ | refine blk_alloc ?_ _)); exact BK181.out⟩, ⟨by repeat (first | (with_reducible first | exact HI2.out | apply IsS900003.alloc | apply IsS900003.drewN | apply IsS900003.drew | apply IsS900003.set_0 | refine IsS900003.far ?_ NB2_181.out _) | exact HI2.out)⟩, ⟨by repeat (first | (with_reducible first | exact HK.out | apply KeepBut.set_ | apply keep_drewN | apply keep_drew | apply keep_alloc | refine keep_far ?_ GW181.out _) | exact HK.out)⟩, ⟨by repeat (first | (with_reducible first | exact HB.out | apply below_alloc | apply pw_below_drewN | apply below_drew1 | refine below_set ?_ (IsS900003.ge HI2.out) | refine below_set ?_ GE181.out) | exact HB.out)⟩⟩
                      · replace c44 := Bool.eq_false_iff.mpr c44
                        subst c44
                        have H1 : (impl_Schema_formed.j3 kj36 a1 (l0_5.length : Int) ((l0_5.length : Int) == 0) (wrap64 (s2_0 - 1)) a0_0 a0_1 a0_2 l0_3 l0_4 l0_5) = some (r1, r2) := by rw [if_neg (show ¬ (false = true) by decide)] at H; exact H
                        clear H
                        have H := H1
                        clear H1
                        have H' := Aside0.mk H
                        clear H
                        go_wp2
                        go_meet
                        case rel => exact ⟨_, (((l0_5.length : Int) == 0)), (by first | rfl | (simp; done) | (simp [*]; done)), H', ⟨by have := HJ3.out; have := HJ24.out; have := HJ36.out; first | omega | exact Nat.le_refl _⟩, ⟨by (with_reducible repeat (first | refine blk_drewN ?_ _ | refine blk_drew ?_ | refine blk_alloc ?_ _)); exact BK181.out⟩, ⟨by repeat (first | (with_reducible first | exact HI2.out | apply IsS900003.alloc | apply IsS900003.drewN | apply IsS900003.drew | apply IsS900003.set_0 | refine IsS900003.far ?_ NB2_181.out _) | exact HI2.out)⟩, ⟨by repeat (first | (with_reducible first | exact HK.out | apply KeepBut.set_ | apply keep_drewN | apply keep_drew | apply keep_alloc | refine keep_far ?_ GW181.out _) | exact HK.out)⟩, ⟨by repeat (first | (with_reducible first | exact HB.out | apply below_alloc | apply pw_below_drewN | apply below_drew1 | refine below_set ?_ (IsS900003.ge HI2.out) | refine below_set ?_ GE181.out) | exact HB.out)⟩⟩
                    · rw [if_neg c43] at H
                      have c43b0 : (a0_0 == 4) = false := beq_eq_false_iff_ne.mpr c43
                      have c43b1 : (a0_0 != 4) = true := bne_iff_ne.mpr c43
                      by_cases c45 : a0_0 = 5
                      · as_aux_lemma =>
                        rw [if_pos c45] at H
                        have c45b0 : (a0_0 == 5) = true := beq_iff_eq.mpr c45
                        have c45b1 : (a0_0 != 5) = false := bne_eq_false_iff_eq.mpr c45
                        clear c45
                        by_cases c46 : x8_24 = true
                        · subst c46
                          have H1 : (impl_Schema_formed.j3 kj36 a1 (l0_5.length : Int) false (wrap64 (s2_0 - 1)) a0_0 a0_1 a0_2 l0_3 l0_4 l0_5) = some (r1, r2) := by rw [if_pos rfl] at H; exact H
                          clear H
                          have H := H1
                          clear H1
                          have H' := Aside0.mk H
                          clear H
                          go_wp2
                          go_meet
                          case rel => exact ⟨_, (false), (by first | rfl | (simp; done) | (simp [*]; done)), H', ⟨by have := HJ3.out; have := HJ24.out; have := HJ36.out; first | omega | exact Nat.le_refl _⟩, ⟨by (with_reducible repeat (first | refine blk_drewN ?_ _ | refine blk_drew ?_ | refine blk_alloc ?_ _)); exact BK181.out⟩, ⟨by repeat (first | (with_reducible first | exact HI2.out | apply IsS900003.alloc | apply IsS900003.drewN | apply IsS900003.drew | apply IsS900003.set_0 | refine IsS900003.far ?_ NB2_181.out _) | exact HI2.out)⟩, ⟨by repeat (first | (with_reducible first | exact HK.out | apply KeepBut.set_ | apply keep_drewN | apply keep_drew | apply keep_alloc | refine keep_far ?_ GW181.out _) | exact HK.out)⟩, ⟨by repeat (first | (with_reducible first | exact HB.out | apply below_alloc | apply pw_below_drewN | apply below_drew1 | refine below_set ?_ (IsS900003.ge HI2.out) | refine below_set ?_ GE181.out) | exact HB.out)⟩⟩
                        · replace c46 := Bool.eq_false_iff.mpr c46
                          subst c46
                          have H1 : (impl_Schema_formed.j3 kj36 a1 (l0_5.length : Int) ((l0_5.length : Int) == 1) (wrap64 (s2_0 - 1)) a0_0 a0_1 a0_2 l0_3 l0_4 l0_5) = some (r1, r2) := by rw [if_neg (show ¬ (false = true) by decide)] at H; exact H
                          clear H
                          have H := H1
                          clear H1
                          have H' := Aside0.mk H
                          clear H
                          go_wp2
                          go_meet
                          case rel => exact ⟨_, (((l0_5.length : Int) == 1)), (by first | rfl | (simp; done) | (simp [*]; done)), H', ⟨by have := HJ3.out; have := HJ24.out; have := HJ36.out; first | omega | exact Nat.le_refl _⟩, ⟨by (with_reducible repeat (first | refine blk_drewN ?_ _ | refine blk_drew ?_ | refine blk_alloc ?_ _)); exact BK181.out⟩, ⟨by repeat (first | (with_reducible first | exact HI2.out | apply IsS900003.alloc | apply IsS900003.drewN | apply IsS900003.drew | apply IsS900003.set_0 | refine IsS900003.far ?_ NB2_181.out _) | exact HI2.out)⟩, ⟨by repeat (first | (with_reducible first | exact HK.out | apply KeepBut.set_ | apply keep_drewN | apply keep_drew | apply keep_alloc | refine keep_far ?_ GW181.out _) | exact HK.out)⟩, ⟨by repeat (first | (with_reducible first | exact HB.out | apply below_alloc | apply pw_below_drewN | apply below_drew1 | refine below_set ?_ (IsS900003.ge HI2.out) | refine below_set ?_ GE181.out) | exact HB.out)⟩⟩
                      · rw [if_neg c45] at H
                        have c45b0 : (a0_0 == 5) = false := beq_eq_false_iff_ne.mpr c45
                        have c45b1 : (a0_0 != 5) = true := bne_iff_ne.mpr c45
                        by_cases c47 : a0_0 = 6
                        · as_aux_lemma =>
                          rw [if_pos c47] at H
                          have c47b0 : (a0_0 == 6) = true := beq_iff_eq.mpr c47
                          have c47b1 : (a0_0 != 6) = false := bne_eq_false_iff_eq.mpr c47
                          clear c47
                          by_cases c48 : bq33 = true
                          · subst c48
                            have H1 : (impl_Schema_formed.j3 kj36 a1 (l0_5.length : Int) false (wrap64 (s2_0 - 1)) a0_0 a0_1 a0_2 l0_3 l0_4 l0_5) = some (r1, r2) := by rw [if_pos rfl] at H; exact H
                            clear H
                            have H := H1
                            clear H1
                            have H' := Aside0.mk H
                            clear H
                            go_wp2
                            go_meet
                            case rel => exact ⟨_, (false), (by first | rfl | (simp; done) | (simp [*]; done)), H', ⟨by have := HJ3.out; have := HJ24.out; have := HJ36.out; first | omega | exact Nat.le_refl _⟩, ⟨by (with_reducible repeat (first | refine blk_drewN ?_ _ | refine blk_drew ?_ | refine blk_alloc ?_ _)); exact BK181.out⟩, ⟨by repeat (first | (with_reducible first | exact HI2.out | apply IsS900003.alloc | apply IsS900003.drewN | apply IsS900003.drew | apply IsS900003.set_0 | refine IsS900003.far ?_ NB2_181.out _) | exact HI2.out)⟩, ⟨by repeat (first | (with_reducible first | exact HK.out | apply KeepBut.set_ | apply keep_drewN | apply keep_drew | apply keep_alloc | refine keep_far ?_ GW181.out _) | exact HK.out)⟩, ⟨by repeat (first | (with_reducible first | exact HB.out | apply below_alloc | apply pw_below_drewN | apply below_drew1 | refine below_set ?_ (IsS900003.ge HI2.out) | refine below_set ?_ GE181.out) | exact HB.out)⟩⟩
                          · replace c48 := Bool.eq_false_iff.mpr c48
                            subst c48
                            have H1 : ((impl_namesOk.f kj36 l0_3).bind fun t184 => (if t184 = true then (if (l0_3.length : Int) = (l0_5.length : Int) then (impl_Schema_formed.j3 kj36 a1 (l0_5.length : Int) ((l0_4.length : Int) == (l0_5.length : Int)) (wrap64 (s2_0 - 1)) a0_0 a0_1 a0_2 l0_3 l0_4 l0_5) else (impl_Schema_formed.j3 kj36 a1 (l0_5.length : Int) false (wrap64 (s2_0 - 1)) a0_0 a0_1 a0_2 l0_3 l0_4 l0_5)) else (impl_Schema_formed.j3 kj36 a1 (l0_5.length : Int) false (wrap64 (s2_0 - 1)) a0_0 a0_1 a0_2 l0_3 l0_4 l0_5))) = some (r1, r2) := by rw [if_neg (show ¬ (false = true) by decide)] at H; exact H
                            clear H
                            have H := H1
                            clear H1
                            replace H := Option.bind_eq_some_iff.mp H
                            obtain ⟨t184, A490, H⟩ := H
                            replace H : (if t184 = true then (if (l0_3.length : Int) = (l0_5.length : Int) then (impl_Schema_formed.j3 kj36 a1 (l0_5.length : Int) ((l0_4.length : Int) == (l0_5.length : Int)) (wrap64 (s2_0 - 1)) a0_0 a0_1 a0_2 l0_3 l0_4 l0_5) else (impl_Schema_formed.j3 kj36 a1 (l0_5.length : Int) false (wrap64 (s2_0 - 1)) a0_0 a0_1 a0_2 l0_3 l0_4 l0_5)) else (impl_Schema_formed.j3 kj36 a1 (l0_5.length : Int) false (wrap64 (s2_0 - 1)) a0_0 a0_1 a0_2 l0_3 l0_4 l0_5)) = some (r1, r2) := H
                            have A49 := Aside0.mk A490
                            clear A490
                            by_cases c50 : t184 = true
                            · subst c50
                              have H1 : (if (l0_3.length : Int) = (l0_5.length : Int) then (impl_Schema_formed.j3 kj36 a1 (l0_5.length : Int) ((l0_4.length : Int) == (l0_5.length : Int)) (wrap64 (s2_0 - 1)) a0_0 a0_1 a0_2 l0_3 l0_4 l0_5) else (impl_Schema_formed.j3 kj36 a1 (l0_5.length : Int) false (wrap64 (s2_0 - 1)) a0_0 a0_1 a0_2 l0_3 l0_4 l0_5)) = some (r1, r2) := by rw [if_pos rfl] at H; exact H
                              clear H
                              have H := H1
                              clear H1
                              by_cases c51 : (l0_3.length : Int) = (l0_5.length : Int)
                              · rw [if_pos c51] at H
                                have c51b0 : ((l0_3.length : Int) == (l0_5.length : Int)) = true := beq_iff_eq.mpr c51
                                have c51b1 : ((l0_3.length : Int) != (l0_5.length : Int)) = false := bne_eq_false_iff_eq.mpr c51
                                have c51b2 : (l0_3.length == l0_5.length) = true := by first | simpa using c51 | (simp at c51 ⊢; omega)
                                clear c51
                                have H' := Aside0.mk H
                                clear H
                                have hnb52 := NB181_2.out
                                have hnc52 := NB2_181.out
                                have hcz53_0 : wc.cell? ⟨gb181, 0, none⟩ = some (.int .i64 a0_0) := (blk_cell BK181.out 0).trans rfl
                                have hcz53_1 : wc.cell? ⟨gb181, 1, none⟩ = some (.int .i64 a0_1) := (blk_cell BK181.out 1).trans rfl
                                have hcz53_2 : wc.cell? ⟨gb181, 2, none⟩ = some (.int .i64 a0_2) := (blk_cell BK181.out 2).trans rfl
                                have hcz53_3 : wc.cell? ⟨gb181, 3, none⟩ = some (.slice A0_3 l0_3.length c0_3) := (blk_cell BK181.out 3).trans rfl
                                have hcz53_4 : wc.cell? ⟨gb181, 4, none⟩ = some (.slice A0_4 l0_4.length c0_4) := (blk_cell BK181.out 4).trans rfl
                                have hcz53_5 : wc.cell? ⟨gb181, 5, none⟩ = some (.slice A0_5 l0_5.length c0_5) := (blk_cell BK181.out 5).trans rfl
                                have hfz53_0 := blk_frozen BK181.out 0
                                have hfz53_1 := blk_frozen BK181.out 1
                                have hfz53_2 := blk_frozen BK181.out 2
                                have hfz53_3 := blk_frozen BK181.out 3
                                have hfz53_4 := blk_frozen BK181.out 4
                                have hfz53_5 := blk_frozen BK181.out 5
                                go_wp2_with (first | (go_at_call 25; (with_reducible refine (impl_namesOk.calls kj36 _ _ l0_3 true _ ?side1 ?side2 A49.out).mono ?_); (case side1 => exact Kd.C_keep (⟨#[]⟩ : ByteArray) HR0_3.out (by repeat (first | (with_reducible first | exact HK.out | apply KeepBut.set_ | apply keep_drewN | apply keep_drew | apply keep_alloc | refine keep_far ?_ GW181.out _) | exact HK.out)) hf0_3); (case side2 => exact HC0_3.out); rintro e w' ⟨rfl, ⟨nd, rfl⟩⟩))
                                go_meet
                                case rel => exact ⟨_, (((l0_4.length : Int) == (l0_5.length : Int))), (by first | rfl | (simp; done) | (simp [*]; done)), H', ⟨by have := HJ3.out; have := HJ24.out; have := HJ36.out; first | omega | exact Nat.le_refl _⟩, ⟨by (with_reducible repeat (first | refine blk_drewN ?_ _ | refine blk_drew ?_ | refine blk_alloc ?_ _)); exact BK181.out⟩, ⟨by repeat (first | (with_reducible first | exact HI2.out | apply IsS900003.alloc | apply IsS900003.drewN | apply IsS900003.drew | apply IsS900003.set_0 | refine IsS900003.far ?_ NB2_181.out _) | exact HI2.out)⟩, ⟨by repeat (first | (with_reducible first | exact HK.out | apply KeepBut.set_ | apply keep_drewN | apply keep_drew | apply keep_alloc | refine keep_far ?_ GW181.out _) | exact HK.out)⟩, ⟨by repeat (first | (with_reducible first | exact HB.out | apply below_alloc | apply pw_below_drewN | apply below_drew1 | refine below_set ?_ (IsS900003.ge HI2.out) | refine below_set ?_ GE181.out) | exact HB.out)⟩⟩
                              · rw [if_neg c51] at H
                                have c51b0 : ((l0_3.length : Int) == (l0_5.length : Int)) = false := beq_eq_false_iff_ne.mpr c51
                                have c51b1 : ((l0_3.length : Int) != (l0_5.length : Int)) = true := bne_iff_ne.mpr c51
                                have c51b2 : (l0_3.length == l0_5.length) = false := by first | simpa using c51 | (simp at c51 ⊢; omega)
                                have H' := Aside0.mk H
                                clear H
                                have hnb54 := NB181_2.out
                                have hnc54 := NB2_181.out
                                have hcz55_0 : wc.cell? ⟨gb181, 0, none⟩ = some (.int .i64 a0_0) := (blk_cell BK181.out 0).trans rfl
                                have hcz55_1 : wc.cell? ⟨gb181, 1, none⟩ = some (.int .i64 a0_1) := (blk_cell BK181.out 1).trans rfl
                                have hcz55_2 : wc.cell? ⟨gb181, 2, none⟩ = some (.int .i64 a0_2) := (blk_cell BK181.out 2).trans rfl
                                have hcz55_3 : wc.cell? ⟨gb181, 3, none⟩ = some (.slice A0_3 l0_3.length c0_3) := (blk_cell BK181.out 3).trans rfl
                                have hcz55_4 : wc.cell? ⟨gb181, 4, none⟩ = some (.slice A0_4 l0_4.length c0_4) := (blk_cell BK181.out 4).trans rfl
                                have hcz55_5 : wc.cell? ⟨gb181, 5, none⟩ = some (.slice A0_5 l0_5.length c0_5) := (blk_cell BK181.out 5).trans rfl
                                have hfz55_0 := blk_frozen BK181.out 0
                                have hfz55_1 := blk_frozen BK181.out 1
                                have hfz55_2 := blk_frozen BK181.out 2
                                have hfz55_3 := blk_frozen BK181.out 3
                                have hfz55_4 := blk_frozen BK181.out 4
                                have hfz55_5 := blk_frozen BK181.out 5
                                go_wp2_with (first | (go_at_call 25; (with_reducible refine (impl_namesOk.calls kj36 _ _ l0_3 true _ ?side1 ?side2 A49.out).mono ?_); (case side1 => exact Kd.C_keep (⟨#[]⟩ : ByteArray) HR0_3.out (by repeat (first | (with_reducible first | exact HK.out | apply KeepBut.set_ | apply keep_drewN | apply keep_drew | apply keep_alloc | refine keep_far ?_ GW181.out _) | exact HK.out)) hf0_3); (case side2 => exact HC0_3.out); rintro e w' ⟨rfl, ⟨nd, rfl⟩⟩))
                                go_meet
                                case rel => exact ⟨_, (false), (by first | rfl | (simp; done) | (simp [*]; done)), H', ⟨by have := HJ3.out; have := HJ24.out; have := HJ36.out; first | omega | exact Nat.le_refl _⟩, ⟨by (with_reducible repeat (first | refine blk_drewN ?_ _ | refine blk_drew ?_ | refine blk_alloc ?_ _)); exact BK181.out⟩, ⟨by repeat (first | (with_reducible first | exact HI2.out | apply IsS900003.alloc | apply IsS900003.drewN | apply IsS900003.drew | apply IsS900003.set_0 | refine IsS900003.far ?_ NB2_181.out _) | exact HI2.out)⟩, ⟨by repeat (first | (with_reducible first | exact HK.out | apply KeepBut.set_ | apply keep_drewN | apply keep_drew | apply keep_alloc | refine keep_far ?_ GW181.out _) | exact HK.out)⟩, ⟨by repeat (first | (with_reducible first | exact HB.out | apply below_alloc | apply pw_below_drewN | apply below_drew1 | refine below_set ?_ (IsS900003.ge HI2.out) | refine below_set ?_ GE181.out) | exact HB.out)⟩⟩
                            · replace c50 := Bool.eq_false_iff.mpr c50
                              subst c50
                              have H1 : (impl_Schema_formed.j3 kj36 a1 (l0_5.length : Int) false (wrap64 (s2_0 - 1)) a0_0 a0_1 a0_2 l0_3 l0_4 l0_5) = some (r1, r2) := by rw [if_neg (show ¬ (false = true) by decide)] at H; exact H
                              clear H
                              have H := H1
                              clear H1
                              have H' := Aside0.mk H
                              clear H
                              have hnb56 := NB181_2.out
                              have hnc56 := NB2_181.out
                              have hcz57_0 : wc.cell? ⟨gb181, 0, none⟩ = some (.int .i64 a0_0) := (blk_cell BK181.out 0).trans rfl
                              have hcz57_1 : wc.cell? ⟨gb181, 1, none⟩ = some (.int .i64 a0_1) := (blk_cell BK181.out 1).trans rfl
                              have hcz57_2 : wc.cell? ⟨gb181, 2, none⟩ = some (.int .i64 a0_2) := (blk_cell BK181.out 2).trans rfl
                              have hcz57_3 : wc.cell? ⟨gb181, 3, none⟩ = some (.slice A0_3 l0_3.length c0_3) := (blk_cell BK181.out 3).trans rfl
                              have hcz57_4 : wc.cell? ⟨gb181, 4, none⟩ = some (.slice A0_4 l0_4.length c0_4) := (blk_cell BK181.out 4).trans rfl
                              have hcz57_5 : wc.cell? ⟨gb181, 5, none⟩ = some (.slice A0_5 l0_5.length c0_5) := (blk_cell BK181.out 5).trans rfl
                              have hfz57_0 := blk_frozen BK181.out 0
                              have hfz57_1 := blk_frozen BK181.out 1
                              have hfz57_2 := blk_frozen BK181.out 2
                              have hfz57_3 := blk_frozen BK181.out 3
                              have hfz57_4 := blk_frozen BK181.out 4
                              have hfz57_5 := blk_frozen BK181.out 5
                              go_wp2_with (first | (go_at_call 25; (with_reducible refine (impl_namesOk.calls kj36 _ _ l0_3 false _ ?side1 ?side2 A49.out).mono ?_); (case side1 => exact Kd.C_keep (⟨#[]⟩ : ByteArray) HR0_3.out (by repeat (first | (with_reducible first | exact HK.out | apply KeepBut.set_ | apply keep_drewN | apply keep_drew | apply keep_alloc | refine keep_far ?_ GW181.out _) | exact HK.out)) hf0_3); (case side2 => exact HC0_3.out); rintro e w' ⟨rfl, ⟨nd, rfl⟩⟩))
                              go_meet
                              case rel => exact ⟨_, (false), (by first | rfl | (simp; done) | (simp [*]; done)), H', ⟨by have := HJ3.out; have := HJ24.out; have := HJ36.out; first | omega | exact Nat.le_refl _⟩, ⟨by (with_reducible repeat (first | refine blk_drewN ?_ _ | refine blk_drew ?_ | refine blk_alloc ?_ _)); exact BK181.out⟩, ⟨by repeat (first | (with_reducible first | exact HI2.out | apply IsS900003.alloc | apply IsS900003.drewN | apply IsS900003.drew | apply IsS900003.set_0 | refine IsS900003.far ?_ NB2_181.out _) | exact HI2.out)⟩, ⟨by repeat (first | (with_reducible first | exact HK.out | apply KeepBut.set_ | apply keep_drewN | apply keep_drew | apply keep_alloc | refine keep_far ?_ GW181.out _) | exact HK.out)⟩, ⟨by repeat (first | (with_reducible first | exact HB.out | apply below_alloc | apply pw_below_drewN | apply below_drew1 | refine below_set ?_ (IsS900003.ge HI2.out) | refine below_set ?_ GE181.out) | exact HB.out)⟩⟩
                        · rw [if_neg c47] at H
                          have c47b0 : (a0_0 == 6) = false := beq_eq_false_iff_ne.mpr c47
                          have c47b1 : (a0_0 != 6) = true := bne_iff_ne.mpr c47
                          by_cases c58 : a0_0 = 7
                          · as_aux_lemma =>
                            rw [if_pos c58] at H
                            have c58b0 : (a0_0 == 7) = true := beq_iff_eq.mpr c58
                            have c58b1 : (a0_0 != 7) = false := bne_eq_false_iff_eq.mpr c58
                            clear c58
                            by_cases c59 : bq33 = true
                            · subst c59
                              have H1 : (impl_Schema_formed.j3 kj36 a1 (l0_5.length : Int) false (wrap64 (s2_0 - 1)) a0_0 a0_1 a0_2 l0_3 l0_4 l0_5) = some (r1, r2) := by rw [if_pos rfl] at H; exact H
                              clear H
                              have H := H1
                              clear H1
                              have H' := Aside0.mk H
                              clear H
                              go_wp2
                              go_meet
                              case rel => exact ⟨_, (false), (by first | rfl | (simp; done) | (simp [*]; done)), H', ⟨by have := HJ3.out; have := HJ24.out; have := HJ36.out; first | omega | exact Nat.le_refl _⟩, ⟨by (with_reducible repeat (first | refine blk_drewN ?_ _ | refine blk_drew ?_ | refine blk_alloc ?_ _)); exact BK181.out⟩, ⟨by repeat (first | (with_reducible first | exact HI2.out | apply IsS900003.alloc | apply IsS900003.drewN | apply IsS900003.drew | apply IsS900003.set_0 | refine IsS900003.far ?_ NB2_181.out _) | exact HI2.out)⟩, ⟨by repeat (first | (with_reducible first | exact HK.out | apply KeepBut.set_ | apply keep_drewN | apply keep_drew | apply keep_alloc | refine keep_far ?_ GW181.out _) | exact HK.out)⟩, ⟨by repeat (first | (with_reducible first | exact HB.out | apply below_alloc | apply pw_below_drewN | apply below_drew1 | refine below_set ?_ (IsS900003.ge HI2.out) | refine below_set ?_ GE181.out) | exact HB.out)⟩⟩
                            · replace c59 := Bool.eq_false_iff.mpr c59
                              subst c59
                              have H1 : (if x8_24 = true then (impl_Schema_formed.j3 kj36 a1 (l0_5.length : Int) false (wrap64 (s2_0 - 1)) a0_0 a0_1 a0_2 l0_3 l0_4 l0_5) else (impl_Schema_formed.j3 kj36 a1 (l0_5.length : Int) (decide ((l0_5.length : Int) ≥ 2)) (wrap64 (s2_0 - 1)) a0_0 a0_1 a0_2 l0_3 l0_4 l0_5)) = some (r1, r2) := by rw [if_neg (show ¬ (false = true) by decide)] at H; exact H
                              clear H
                              have H := H1
                              clear H1
                              by_cases c60 : x8_24 = true
                              · subst c60
                                have H1 : (impl_Schema_formed.j3 kj36 a1 (l0_5.length : Int) false (wrap64 (s2_0 - 1)) a0_0 a0_1 a0_2 l0_3 l0_4 l0_5) = some (r1, r2) := by rw [if_pos rfl] at H; exact H
                                clear H
                                have H := H1
                                clear H1
                                have H' := Aside0.mk H
                                clear H
                                go_wp2
                                go_meet
                                case rel => exact ⟨_, (false), (by first | rfl | (simp; done) | (simp [*]; done)), H', ⟨by have := HJ3.out; have := HJ24.out; have := HJ36.out; first | omega | exact Nat.le_refl _⟩, ⟨by (with_reducible repeat (first | refine blk_drewN ?_ _ | refine blk_drew ?_ | refine blk_alloc ?_ _)); exact BK181.out⟩, ⟨by repeat (first | (with_reducible first | exact HI2.out | apply IsS900003.alloc | apply IsS900003.drewN | apply IsS900003.drew | apply IsS900003.set_0 | refine IsS900003.far ?_ NB2_181.out _) | exact HI2.out)⟩, ⟨by repeat (first | (with_reducible first | exact HK.out | apply KeepBut.set_ | apply keep_drewN | apply keep_drew | apply keep_alloc | refine keep_far ?_ GW181.out _) | exact HK.out)⟩, ⟨by repeat (first | (with_reducible first | exact HB.out | apply below_alloc | apply pw_below_drewN | apply below_drew1 | refine below_set ?_ (IsS900003.ge HI2.out) | refine below_set ?_ GE181.out) | exact HB.out)⟩⟩
                              · replace c60 := Bool.eq_false_iff.mpr c60
                                subst c60
                                have H1 : (impl_Schema_formed.j3 kj36 a1 (l0_5.length : Int) (decide ((l0_5.length : Int) ≥ 2)) (wrap64 (s2_0 - 1)) a0_0 a0_1 a0_2 l0_3 l0_4 l0_5) = some (r1, r2) := by rw [if_neg (show ¬ (false = true) by decide)] at H; exact H
                                clear H
                                have H := H1
                                clear H1
                                have H' := Aside0.mk H
                                clear H
                                go_wp2
                                go_meet
                                case rel => exact ⟨_, (decide ((l0_5.length : Int) ≥ 2)), (by first | rfl | (simp; done) | (simp [*]; done)), H', ⟨by have := HJ3.out; have := HJ24.out; have := HJ36.out; first | omega | exact Nat.le_refl _⟩, ⟨by (with_reducible repeat (first | refine blk_drewN ?_ _ | refine blk_drew ?_ | refine blk_alloc ?_ _)); exact BK181.out⟩, ⟨by repeat (first | (with_reducible first | exact HI2.out | apply IsS900003.alloc | apply IsS900003.drewN | apply IsS900003.drew | apply IsS900003.set_0 | refine IsS900003.far ?_ NB2_181.out _) | exact HI2.out)⟩, ⟨by repeat (first | (with_reducible first | exact HK.out | apply KeepBut.set_ | apply keep_drewN | apply keep_drew | apply keep_alloc | refine keep_far ?_ GW181.out _) | exact HK.out)⟩, ⟨by repeat (first | (with_reducible first | exact HB.out | apply below_alloc | apply pw_below_drewN | apply below_drew1 | refine below_set ?_ (IsS900003.ge HI2.out) | refine below_set ?_ GE181.out) | exact HB.out)⟩⟩
                          · rw [if_neg c58] at H
                            have c58b0 : (a0_0 == 7) = false := beq_eq_false_iff_ne.mpr c58
                            have c58b1 : (a0_0 != 7) = true := bne_iff_ne.mpr c58
                            by_cases c61 : a0_0 = 8
                            · as_aux_lemma =>
                              rw [if_pos c61] at H
                              have c61b0 : (a0_0 == 8) = true := beq_iff_eq.mpr c61
                              have c61b1 : (a0_0 != 8) = false := bne_eq_false_iff_eq.mpr c61
                              clear c61
                              by_cases c62 : bq33 = true
                              · subst c62
                                have H1 : (impl_Schema_formed.j3 kj36 a1 (l0_5.length : Int) false (wrap64 (s2_0 - 1)) a0_0 a0_1 a0_2 l0_3 l0_4 l0_5) = some (r1, r2) := by rw [if_pos rfl] at H; exact H
                                clear H
                                have H := H1
                                clear H1
                                have H' := Aside0.mk H
                                clear H
                                go_wp2
                                go_meet
                                case rel => exact ⟨_, (false), (by first | rfl | (simp; done) | (simp [*]; done)), H', ⟨by have := HJ3.out; have := HJ24.out; have := HJ36.out; first | omega | exact Nat.le_refl _⟩, ⟨by (with_reducible repeat (first | refine blk_drewN ?_ _ | refine blk_drew ?_ | refine blk_alloc ?_ _)); exact BK181.out⟩, ⟨by repeat (first | (with_reducible first | exact HI2.out | apply IsS900003.alloc | apply IsS900003.drewN | apply IsS900003.drew | apply IsS900003.set_0 | refine IsS900003.far ?_ NB2_181.out _) | exact HI2.out)⟩, ⟨by repeat (first | (with_reducible first | exact HK.out | apply KeepBut.set_ | apply keep_drewN | apply keep_drew | apply keep_alloc | refine keep_far ?_ GW181.out _) | exact HK.out)⟩, ⟨by repeat (first | (with_reducible first | exact HB.out | apply below_alloc | apply pw_below_drewN | apply below_drew1 | refine below_set ?_ (IsS900003.ge HI2.out) | refine below_set ?_ GE181.out) | exact HB.out)⟩⟩
                              · replace c62 := Bool.eq_false_iff.mpr c62
                                subst c62
                                have H1 : (if (l0_5.length : Int) = 0 then (if (l0_4.length : Int) = 0 then ((impl_wordsOk.f kj36 l0_3).bind fun t185 => (impl_Schema_formed.j3 kj36 a1 (l0_5.length : Int) t185 (wrap64 (s2_0 - 1)) a0_0 a0_1 a0_2 l0_3 l0_4 l0_5)) else (impl_Schema_formed.j3 kj36 a1 (l0_5.length : Int) false (wrap64 (s2_0 - 1)) a0_0 a0_1 a0_2 l0_3 l0_4 l0_5)) else (impl_Schema_formed.j3 kj36 a1 (l0_5.length : Int) false (wrap64 (s2_0 - 1)) a0_0 a0_1 a0_2 l0_3 l0_4 l0_5)) = some (r1, r2) := by rw [if_neg (show ¬ (false = true) by decide)] at H; exact H
                                clear H
                                have H := H1
                                clear H1
                                by_cases c63 : (l0_5.length : Int) = 0
                                · rw [if_pos c63] at H
                                  have c63b0 : ((l0_5.length : Int) == 0) = true := beq_iff_eq.mpr c63
                                  have c63b1 : ((l0_5.length : Int) != 0) = false := bne_eq_false_iff_eq.mpr c63
                                  clear c63
                                  by_cases c64 : (l0_4.length : Int) = 0
                                  · rw [if_pos c64] at H
                                    have c64b0 : ((l0_4.length : Int) == 0) = true := beq_iff_eq.mpr c64
                                    have c64b1 : ((l0_4.length : Int) != 0) = false := bne_eq_false_iff_eq.mpr c64
                                    clear c64
                                    replace H := Option.bind_eq_some_iff.mp H
                                    obtain ⟨t185, A650, H⟩ := H
                                    replace H : (impl_Schema_formed.j3 kj36 a1 (l0_5.length : Int) t185 (wrap64 (s2_0 - 1)) a0_0 a0_1 a0_2 l0_3 l0_4 l0_5) = some (r1, r2) := H
                                    have A65 := Aside0.mk A650
                                    clear A650
                                    have H' := Aside0.mk H
                                    clear H
                                    have hnb66 := NB181_2.out
                                    have hnc66 := NB2_181.out
                                    have hcz67_0 : wc.cell? ⟨gb181, 0, none⟩ = some (.int .i64 a0_0) := (blk_cell BK181.out 0).trans rfl
                                    have hcz67_1 : wc.cell? ⟨gb181, 1, none⟩ = some (.int .i64 a0_1) := (blk_cell BK181.out 1).trans rfl
                                    have hcz67_2 : wc.cell? ⟨gb181, 2, none⟩ = some (.int .i64 a0_2) := (blk_cell BK181.out 2).trans rfl
                                    have hcz67_3 : wc.cell? ⟨gb181, 3, none⟩ = some (.slice A0_3 l0_3.length c0_3) := (blk_cell BK181.out 3).trans rfl
                                    have hcz67_4 : wc.cell? ⟨gb181, 4, none⟩ = some (.slice A0_4 l0_4.length c0_4) := (blk_cell BK181.out 4).trans rfl
                                    have hcz67_5 : wc.cell? ⟨gb181, 5, none⟩ = some (.slice A0_5 l0_5.length c0_5) := (blk_cell BK181.out 5).trans rfl
                                    have hfz67_0 := blk_frozen BK181.out 0
                                    have hfz67_1 := blk_frozen BK181.out 1
                                    have hfz67_2 := blk_frozen BK181.out 2
                                    have hfz67_3 := blk_frozen BK181.out 3
                                    have hfz67_4 := blk_frozen BK181.out 4
                                    have hfz67_5 := blk_frozen BK181.out 5
                                    go_wp2_with (first | (go_at_call 26; (with_reducible refine (impl_wordsOk.calls kj36 _ _ l0_3 t185 _ ?side1 ?side2 A65.out).mono ?_); (case side1 => exact Kd.C_keep (⟨#[]⟩ : ByteArray) HR0_3.out (by repeat (first | (with_reducible first | exact HK.out | apply KeepBut.set_ | apply keep_drewN | apply keep_drew | apply keep_alloc | refine keep_far ?_ GW181.out _) | exact HK.out)) hf0_3); (case side2 => exact HC0_3.out); rintro e w' ⟨rfl, ⟨nd, rfl⟩⟩))
                                    go_meet
                                    case rel => exact ⟨_, (t185), (by first | rfl | (simp; done) | (simp [*]; done)), H', ⟨by have := HJ3.out; have := HJ24.out; have := HJ36.out; first | omega | exact Nat.le_refl _⟩, ⟨by (with_reducible repeat (first | refine blk_drewN ?_ _ | refine blk_drew ?_ | refine blk_alloc ?_ _)); exact BK181.out⟩, ⟨by repeat (first | (with_reducible first | exact HI2.out | apply IsS900003.alloc | apply IsS900003.drewN | apply IsS900003.drew | apply IsS900003.set_0 | refine IsS900003.far ?_ NB2_181.out _) | exact HI2.out)⟩, ⟨by repeat (first | (with_reducible first | exact HK.out | apply KeepBut.set_ | apply keep_drewN | apply keep_drew | apply keep_alloc | refine keep_far ?_ GW181.out _) | exact HK.out)⟩, ⟨by repeat (first | (with_reducible first | exact HB.out | apply below_alloc | apply pw_below_drewN | apply below_drew1 | refine below_set ?_ (IsS900003.ge HI2.out) | refine below_set ?_ GE181.out) | exact HB.out)⟩⟩
                                  · rw [if_neg c64] at H
                                    have c64b0 : ((l0_4.length : Int) == 0) = false := beq_eq_false_iff_ne.mpr c64
                                    have c64b1 : ((l0_4.length : Int) != 0) = true := bne_iff_ne.mpr c64
                                    have c64b2 : ¬ (l0_4 = []) := fun h_ => c64 (by rw [h_]; rfl)
                                    have H' := Aside0.mk H
                                    clear H
                                    have hnb68 := NB181_2.out
                                    have hnc68 := NB2_181.out
                                    have hcz69_0 : wc.cell? ⟨gb181, 0, none⟩ = some (.int .i64 a0_0) := (blk_cell BK181.out 0).trans rfl
                                    have hcz69_1 : wc.cell? ⟨gb181, 1, none⟩ = some (.int .i64 a0_1) := (blk_cell BK181.out 1).trans rfl
                                    have hcz69_2 : wc.cell? ⟨gb181, 2, none⟩ = some (.int .i64 a0_2) := (blk_cell BK181.out 2).trans rfl
                                    have hcz69_3 : wc.cell? ⟨gb181, 3, none⟩ = some (.slice A0_3 l0_3.length c0_3) := (blk_cell BK181.out 3).trans rfl
                                    have hcz69_4 : wc.cell? ⟨gb181, 4, none⟩ = some (.slice A0_4 l0_4.length c0_4) := (blk_cell BK181.out 4).trans rfl
                                    have hcz69_5 : wc.cell? ⟨gb181, 5, none⟩ = some (.slice A0_5 l0_5.length c0_5) := (blk_cell BK181.out 5).trans rfl
                                    have hfz69_0 := blk_frozen BK181.out 0
                                    have hfz69_1 := blk_frozen BK181.out 1
                                    have hfz69_2 := blk_frozen BK181.out 2
                                    have hfz69_3 := blk_frozen BK181.out 3
                                    have hfz69_4 := blk_frozen BK181.out 4
                                    have hfz69_5 := blk_frozen BK181.out 5
                                    go_wp2
                                    go_meet
                                    case rel => exact ⟨_, (false), (by first | rfl | (simp; done) | (simp [*]; done)), H', ⟨by have := HJ3.out; have := HJ24.out; have := HJ36.out; first | omega | exact Nat.le_refl _⟩, ⟨by (with_reducible repeat (first | refine blk_drewN ?_ _ | refine blk_drew ?_ | refine blk_alloc ?_ _)); exact BK181.out⟩, ⟨by repeat (first | (with_reducible first | exact HI2.out | apply IsS900003.alloc | apply IsS900003.drewN | apply IsS900003.drew | apply IsS900003.set_0 | refine IsS900003.far ?_ NB2_181.out _) | exact HI2.out)⟩, ⟨by repeat (first | (with_reducible first | exact HK.out | apply KeepBut.set_ | apply keep_drewN | apply keep_drew | apply keep_alloc | refine keep_far ?_ GW181.out _) | exact HK.out)⟩, ⟨by repeat (first | (with_reducible first | exact HB.out | apply below_alloc | apply pw_below_drewN | apply below_drew1 | refine below_set ?_ (IsS900003.ge HI2.out) | refine below_set ?_ GE181.out) | exact HB.out)⟩⟩
                                · rw [if_neg c63] at H
                                  have c63b0 : ((l0_5.length : Int) == 0) = false := beq_eq_false_iff_ne.mpr c63
                                  have c63b1 : ((l0_5.length : Int) != 0) = true := bne_iff_ne.mpr c63
                                  have c63b2 : ¬ (l0_5 = []) := fun h_ => c63 (by rw [h_]; rfl)
                                  have H' := Aside0.mk H
                                  clear H
                                  go_wp2
                                  go_meet
                                  case rel => exact ⟨_, (false), (by first | rfl | (simp; done) | (simp [*]; done)), H', ⟨by have := HJ3.out; have := HJ24.out; have := HJ36.out; first | omega | exact Nat.le_refl _⟩, ⟨by (with_reducible repeat (first | refine blk_drewN ?_ _ | refine blk_drew ?_ | refine blk_alloc ?_ _)); exact BK181.out⟩, ⟨by repeat (first | (with_reducible first | exact HI2.out | apply IsS900003.alloc | apply IsS900003.drewN | apply IsS900003.drew | apply IsS900003.set_0 | refine IsS900003.far ?_ NB2_181.out _) | exact HI2.out)⟩, ⟨by repeat (first | (with_reducible first | exact HK.out | apply KeepBut.set_ | apply keep_drewN | apply keep_drew | apply keep_alloc | refine keep_far ?_ GW181.out _) | exact HK.out)⟩, ⟨by repeat (first | (with_reducible first | exact HB.out | apply below_alloc | apply pw_below_drewN | apply below_drew1 | refine below_set ?_ (IsS900003.ge HI2.out) | refine below_set ?_ GE181.out) | exact HB.out)⟩⟩
                            · rw [if_neg c61] at H
                              have c61b0 : (a0_0 == 8) = false := beq_eq_false_iff_ne.mpr c61
                              have c61b1 : (a0_0 != 8) = true := bne_iff_ne.mpr c61
                              have H' := Aside0.mk H
                              clear H
                              go_wp2
                              go_meet
                              case rel => exact ⟨_, (false), (by first | rfl | (simp; done) | (simp [*]; done)), H', ⟨by have := HJ3.out; have := HJ24.out; have := HJ36.out; first | omega | exact Nat.le_refl _⟩, ⟨by (with_reducible repeat (first | refine blk_drewN ?_ _ | refine blk_drew ?_ | refine blk_alloc ?_ _)); exact BK181.out⟩, ⟨by repeat (first | (with_reducible first | exact HI2.out | apply IsS900003.alloc | apply IsS900003.drewN | apply IsS900003.drew | apply IsS900003.set_0 | refine IsS900003.far ?_ NB2_181.out _) | exact HI2.out)⟩, ⟨by repeat (first | (with_reducible first | exact HK.out | apply KeepBut.set_ | apply keep_drewN | apply keep_drew | apply keep_alloc | refine keep_far ?_ GW181.out _) | exact HK.out)⟩, ⟨by repeat (first | (with_reducible first | exact HB.out | apply below_alloc | apply pw_below_drewN | apply below_drew1 | refine below_set ?_ (IsS900003.ge HI2.out) | refine below_set ?_ GE181.out) | exact HB.out)⟩⟩
            case rest =>
              clear HC34
              try clear c1
              try clear c2
              try clear p2
              try clear c3
              try clear q3
              try clear c4
              try clear c5
              try clear c6
              try clear p6
              try clear c7
              try clear c7b0
              try clear c9
              try clear c9b0
              try clear c12
              try clear c14
              try clear c16
              try clear c17
              try clear c19
              try clear c22
              try clear c24
              try clear c26
              try clear c28
              try clear c28b0
              try clear c28b1
              try clear c29
              try clear c31
              try clear q33
              try clear c35
              try clear c38
              try clear c38b0
              try clear c38b1
              try clear c39
              try clear c39b0
              try clear c39b1
              try clear c40
              try clear c41
              try clear c42
              try clear c43
              try clear c43b0
              try clear c43b1
              try clear c44
              try clear c45
              try clear c45b0
              try clear c45b1
              try clear c46
              try clear c47
              try clear c47b0
              try clear c47b1
              try clear c48
              try clear c50
              try clear c51
              try clear c51b0
              try clear c51b1
              try clear c51b2
              try clear c52
              try clear c54
              try clear c56
              try clear c58
              try clear c58b0
              try clear c58b1
              try clear c59
              try clear c60
              try clear c61
              try clear c61b0
              try clear c61b1
              try clear c62
              try clear c63
              try clear c63b0
              try clear c63b1
              try clear c63b2
              try clear c64
              try clear c64b0
              try clear c64b1
              try clear c64b2
              try clear p64
              try clear c66
              try clear c68
              try clear hcz10_0
              try clear hcz15_0
              try clear hcz17_0
              try clear hcz17_1
              try clear hcz17_2
              try clear hcz17_3
              try clear hcz17_4
              try clear hcz17_5
              try clear hcz18_0
              try clear hcz20_0
              try clear hcz20_1
              try clear hcz20_2
              try clear hcz20_3
              try clear hcz20_4
              try clear hcz20_5
              try clear hcz21_0
              try clear hcz23_0
              try clear hcz23_1
              try clear hcz23_2
              try clear hcz23_3
              try clear hcz23_4
              try clear hcz23_5
              try clear hcz27_0
              try clear hcz27_1
              try clear hcz27_2
              try clear hcz27_3
              try clear hcz27_4
              try clear hcz27_5
              try clear hcz30_0
              try clear hcz30_1
              try clear hcz30_2
              try clear hcz30_3
              try clear hcz30_4
              try clear hcz30_5
              try clear hcz32_0
              try clear hcz32_1
              try clear hcz32_2
              try clear hcz32_3
              try clear hcz32_4
              try clear hcz32_5
              try clear hcz36_0
              try clear hcz36_1
              try clear hcz36_2
              try clear hcz36_3
              try clear hcz36_4
              try clear hcz36_5
              try clear hcz53_0
              try clear hcz53_1
              try clear hcz53_2
              try clear hcz53_3
              try clear hcz53_4
              try clear hcz53_5
              try clear hcz55_0
              try clear hcz55_1
              try clear hcz55_2
              try clear hcz55_3
              try clear hcz55_4
              try clear hcz55_5
              try clear hcz57_0
              try clear hcz57_1
              try clear hcz57_2
              try clear hcz57_3
              try clear hcz57_4
              try clear hcz57_5
              try clear hcz67_0
              try clear hcz67_1
              try clear hcz67_2
              try clear hcz67_3
              try clear hcz67_4
              try clear hcz67_5
              try clear hcz69_0
              try clear hcz69_1
              try clear hcz69_2
              try clear hcz69_3
              try clear hcz69_4
              try clear hcz69_5
              try clear hcz6_0
              try clear hcz8_0
              try clear hfz10_0
              try clear hfz15_0
              try clear hfz17_0
              try clear hfz17_1
              try clear hfz17_2
              try clear hfz17_3
              try clear hfz17_4
              try clear hfz17_5
              try clear hfz18_0
              try clear hfz20_0
              try clear hfz20_1
              try clear hfz20_2
              try clear hfz20_3
              try clear hfz20_4
              try clear hfz20_5
              try clear hfz21_0
              try clear hfz23_0
              try clear hfz23_1
              try clear hfz23_2
              try clear hfz23_3
              try clear hfz23_4
              try clear hfz23_5
              try clear hfz27_0
              try clear hfz27_1
              try clear hfz27_2
              try clear hfz27_3
              try clear hfz27_4
              try clear hfz27_5
              try clear hfz30_0
              try clear hfz30_1
              try clear hfz30_2
              try clear hfz30_3
              try clear hfz30_4
              try clear hfz30_5
              try clear hfz32_0
              try clear hfz32_1
              try clear hfz32_2
              try clear hfz32_3
              try clear hfz32_4
              try clear hfz32_5
              try clear hfz36_0
              try clear hfz36_1
              try clear hfz36_2
              try clear hfz36_3
              try clear hfz36_4
              try clear hfz36_5
              try clear hfz53_0
              try clear hfz53_1
              try clear hfz53_2
              try clear hfz53_3
              try clear hfz53_4
              try clear hfz53_5
              try clear hfz55_0
              try clear hfz55_1
              try clear hfz55_2
              try clear hfz55_3
              try clear hfz55_4
              try clear hfz55_5
              try clear hfz57_0
              try clear hfz57_1
              try clear hfz57_2
              try clear hfz57_3
              try clear hfz57_4
              try clear hfz57_5
              try clear hfz67_0
              try clear hfz67_1
              try clear hfz67_2
              try clear hfz67_3
              try clear hfz67_4
              try clear hfz67_5
              try clear hfz69_0
              try clear hfz69_1
              try clear hfz69_2
              try clear hfz69_3
              try clear hfz69_4
              try clear hfz69_5
              try clear hfz6_0
              try clear hfz8_0
              try clear p2
              try clear p6
              try clear q3
              try clear q33
              obtain ⟨kq, x10_33, rfl, HA, HJ33, BK181, HI2, HK, HB⟩ := hcut
              cases kq with
              | zero => exact absurd HA.out (by simp [impl_Schema_formed.j3])
              | succ kj33 =>
                have H := HA.out
                clear HA
                simp only [impl_Schema_formed.j3] at H
                have H' := Aside0.mk H
                clear H
                go_wp2
                go_loopg [10, 11] kj33 (fun kq v10 v11 w' => ∃ (x10_4 : Bool) (x11_4 : Int) (x3000_4 : Int), v10 = .bool x10_4 ∧ v11 = .int .i64 x11_4 ∧ Aside0 (impl_Schema_formed.l0 kq a1 (l0_5.length : Int) x10_4 x11_4 x3000_4 a0_0 a0_1 a0_2 l0_3 l0_4 l0_5 = some (r1, r2)) ∧ Aside0 (kq ≤ kj33) ∧ Aside0 (w'.heap[gb181]? = some (.cells #[.int .i64 a0_0, .int .i64 a0_1, .int .i64 a0_2, (.slice A0_3 l0_3.length c0_3), (.slice A0_4 l0_4.length c0_4), (.slice A0_5 l0_5.length c0_5)] 31 (0, 0))) ∧ Aside0 (IsS900003 w0 w' g x3000_4) ∧ Aside0 (KeepBut w w' g none) ∧ Aside0 (Below w0.heap.size w0 w'))
                case atStart => exact ⟨(x10_33), (0), ((wrap64 (s2_0 - 1))), (by first | rfl | (simp; done) | (simp [*]; done)), (by first | rfl | (simp; done) | (simp [*]; done)), H', ⟨Nat.le_refl _⟩, ⟨by (with_reducible repeat (first | refine blk_drewN ?_ _ | refine blk_drew ?_ | refine blk_alloc ?_ _)); exact BK181.out⟩, ⟨by repeat (first | (with_reducible first | exact HI2.out | apply IsS900003.alloc | apply IsS900003.drewN | apply IsS900003.drew | apply IsS900003.set_0 | refine IsS900003.far ?_ NB2_181.out _) | exact HI2.out)⟩, ⟨by repeat (first | (with_reducible first | exact HK.out | apply KeepBut.set_ | apply keep_drewN | apply keep_drew | apply keep_alloc | refine keep_far ?_ GW181.out _) | exact HK.out)⟩, ⟨by repeat (first | (with_reducible first | exact HB.out | apply below_alloc | apply pw_below_drewN | apply below_drew1 | refine below_set ?_ (IsS900003.ge HI2.out) | refine below_set ?_ GE181.out) | exact HB.out)⟩⟩
                case round =>
                  clear H'
                  try clear c1
                  try clear c2
                  try clear p2
                  try clear c3
                  try clear q3
                  try clear c4
                  try clear c5
                  try clear c6
                  try clear p6
                  try clear c7
                  try clear c7b0
                  try clear c9
                  try clear c9b0
                  try clear c12
                  try clear c14
                  try clear c16
                  try clear c17
                  try clear c19
                  try clear c22
                  try clear c24
                  try clear c26
                  try clear c28
                  try clear c28b0
                  try clear c28b1
                  try clear c29
                  try clear c31
                  try clear q33
                  try clear c35
                  try clear c38
                  try clear c38b0
                  try clear c38b1
                  try clear c39
                  try clear c39b0
                  try clear c39b1
                  try clear c40
                  try clear c41
                  try clear c42
                  try clear c43
                  try clear c43b0
                  try clear c43b1
                  try clear c44
                  try clear c45
                  try clear c45b0
                  try clear c45b1
                  try clear c46
                  try clear c47
                  try clear c47b0
                  try clear c47b1
                  try clear c48
                  try clear c50
                  try clear c51
                  try clear c51b0
                  try clear c51b1
                  try clear c51b2
                  try clear c52
                  try clear c54
                  try clear c56
                  try clear c58
                  try clear c58b0
                  try clear c58b1
                  try clear c59
                  try clear c60
                  try clear c61
                  try clear c61b0
                  try clear c61b1
                  try clear c62
                  try clear c63
                  try clear c63b0
                  try clear c63b1
                  try clear c63b2
                  try clear c64
                  try clear c64b0
                  try clear c64b1
                  try clear c64b2
                  try clear p64
                  try clear c66
                  try clear c68
                  try clear hcz10_0
                  try clear hcz15_0
                  try clear hcz17_0
                  try clear hcz17_1
                  try clear hcz17_2
                  try clear hcz17_3
                  try clear hcz17_4
                  try clear hcz17_5
                  try clear hcz18_0
                  try clear hcz20_0
                  try clear hcz20_1
                  try clear hcz20_2
                  try clear hcz20_3
                  try clear hcz20_4
                  try clear hcz20_5
                  try clear hcz21_0
                  try clear hcz23_0
                  try clear hcz23_1
                  try clear hcz23_2
                  try clear hcz23_3
                  try clear hcz23_4
                  try clear hcz23_5
                  try clear hcz27_0
                  try clear hcz27_1
                  try clear hcz27_2
                  try clear hcz27_3
                  try clear hcz27_4
                  try clear hcz27_5
                  try clear hcz30_0
                  try clear hcz30_1
                  try clear hcz30_2
                  try clear hcz30_3
                  try clear hcz30_4
                  try clear hcz30_5
                  try clear hcz32_0
                  try clear hcz32_1
                  try clear hcz32_2
                  try clear hcz32_3
                  try clear hcz32_4
                  try clear hcz32_5
                  try clear hcz36_0
                  try clear hcz36_1
                  try clear hcz36_2
                  try clear hcz36_3
                  try clear hcz36_4
                  try clear hcz36_5
                  try clear hcz53_0
                  try clear hcz53_1
                  try clear hcz53_2
                  try clear hcz53_3
                  try clear hcz53_4
                  try clear hcz53_5
                  try clear hcz55_0
                  try clear hcz55_1
                  try clear hcz55_2
                  try clear hcz55_3
                  try clear hcz55_4
                  try clear hcz55_5
                  try clear hcz57_0
                  try clear hcz57_1
                  try clear hcz57_2
                  try clear hcz57_3
                  try clear hcz57_4
                  try clear hcz57_5
                  try clear hcz67_0
                  try clear hcz67_1
                  try clear hcz67_2
                  try clear hcz67_3
                  try clear hcz67_4
                  try clear hcz67_5
                  try clear hcz69_0
                  try clear hcz69_1
                  try clear hcz69_2
                  try clear hcz69_3
                  try clear hcz69_4
                  try clear hcz69_5
                  try clear hcz6_0
                  try clear hcz8_0
                  try clear hfz10_0
                  try clear hfz15_0
                  try clear hfz17_0
                  try clear hfz17_1
                  try clear hfz17_2
                  try clear hfz17_3
                  try clear hfz17_4
                  try clear hfz17_5
                  try clear hfz18_0
                  try clear hfz20_0
                  try clear hfz20_1
                  try clear hfz20_2
                  try clear hfz20_3
                  try clear hfz20_4
                  try clear hfz20_5
                  try clear hfz21_0
                  try clear hfz23_0
                  try clear hfz23_1
                  try clear hfz23_2
                  try clear hfz23_3
                  try clear hfz23_4
                  try clear hfz23_5
                  try clear hfz27_0
                  try clear hfz27_1
                  try clear hfz27_2
                  try clear hfz27_3
                  try clear hfz27_4
                  try clear hfz27_5
                  try clear hfz30_0
                  try clear hfz30_1
                  try clear hfz30_2
                  try clear hfz30_3
                  try clear hfz30_4
                  try clear hfz30_5
                  try clear hfz32_0
                  try clear hfz32_1
                  try clear hfz32_2
                  try clear hfz32_3
                  try clear hfz32_4
                  try clear hfz32_5
                  try clear hfz36_0
                  try clear hfz36_1
                  try clear hfz36_2
                  try clear hfz36_3
                  try clear hfz36_4
                  try clear hfz36_5
                  try clear hfz53_0
                  try clear hfz53_1
                  try clear hfz53_2
                  try clear hfz53_3
                  try clear hfz53_4
                  try clear hfz53_5
                  try clear hfz55_0
                  try clear hfz55_1
                  try clear hfz55_2
                  try clear hfz55_3
                  try clear hfz55_4
                  try clear hfz55_5
                  try clear hfz57_0
                  try clear hfz57_1
                  try clear hfz57_2
                  try clear hfz57_3
                  try clear hfz57_4
                  try clear hfz57_5
                  try clear hfz67_0
                  try clear hfz67_1
                  try clear hfz67_2
                  try clear hfz67_3
                  try clear hfz67_4
                  try clear hfz67_5
                  try clear hfz69_0
                  try clear hfz69_1
                  try clear hfz69_2
                  try clear hfz69_3
                  try clear hfz69_4
                  try clear hfz69_5
                  try clear hfz6_0
                  try clear hfz8_0
                  try clear p2
                  try clear p6
                  try clear p64
                  try clear q3
                  try clear q33
                  obtain ⟨x10_4, x11_4, x3000_4, rfl, rfl, HA, HK4, BK181, HI2, HK, HB⟩ := hrel
                  cases gk with
                  | zero => exact absurd HA.out (by simp [impl_Schema_formed.l0])
                  | succ k4 =>
                    have H := HA.out
                    clear HA
                    simp only [impl_Schema_formed.l0] at H
                    by_cases c70 : x11_4 < (l0_5.length : Int)
                    · rw [if_pos c70] at H
                      have c70b0 : decide (x11_4 < (l0_5.length : Int)) = true := decide_eq_true c70
                      clear c70
                      by_cases c71 : x10_4 = true
                      · subst c71
                        have H1 : (if 0 ≤ x11_4 then (if x11_4 < (l0_5.length : Int) then ((impl_Schema_formed.f k4 ((rd_T31 l0_5 x11_4).f0) ((rd_T31 l0_5 x11_4).f1) ((rd_T31 l0_5 x11_4).f2) ((rd_T31 l0_5 x11_4).f3) ((rd_T31 l0_5 x11_4).f4) ((rd_T31 l0_5 x11_4).f5) (wrap64 (a1 + 1)) x3000_4).bind fun bt187 => (impl_Schema_formed.l0 k4 a1 (l0_5.length : Int) bt187.1 (wrap64 (x11_4 + 1)) bt187.2 a0_0 a0_1 a0_2 l0_3 l0_4 l0_5)) else (none)) else (none)) = some (r1, r2) := by rw [if_pos rfl] at H; exact H
                        clear H
                        have H := H1
                        clear H1
                        by_cases c72 : 0 ≤ x11_4
                        · rw [if_pos c72] at H
                          have c72b0 : decide (0 ≤ x11_4) = true := decide_eq_true c72
                          clear c72
                          by_cases c73 : x11_4 < (l0_5.length : Int)
                          · rw [if_pos c73] at H
                            have c73b0 : decide (x11_4 < (l0_5.length : Int)) = true := decide_eq_true c73
                            clear c73
                            replace H := Option.bind_eq_some_iff.mp H
                            obtain ⟨⟨t187, t188⟩, A740, H⟩ := H
                            replace H : (impl_Schema_formed.l0 k4 a1 (l0_5.length : Int) t187 (wrap64 (x11_4 + 1)) t188 a0_0 a0_1 a0_2 l0_3 l0_4 l0_5) = some (r1, r2) := H
                            have A74 := Aside0.mk A740
                            clear A740
                            have H' := Aside0.mk H
                            clear H
                            have hnb75 := NB181_2.out
                            have hnc75 := NB2_181.out
                            have hcz76_0 : wr.cell? ⟨gb181, 0, none⟩ = some (.int .i64 a0_0) := (blk_cell BK181.out 0).trans rfl
                            have hcz76_1 : wr.cell? ⟨gb181, 1, none⟩ = some (.int .i64 a0_1) := (blk_cell BK181.out 1).trans rfl
                            have hcz76_2 : wr.cell? ⟨gb181, 2, none⟩ = some (.int .i64 a0_2) := (blk_cell BK181.out 2).trans rfl
                            have hcz76_3 : wr.cell? ⟨gb181, 3, none⟩ = some (.slice A0_3 l0_3.length c0_3) := (blk_cell BK181.out 3).trans rfl
                            have hcz76_4 : wr.cell? ⟨gb181, 4, none⟩ = some (.slice A0_4 l0_4.length c0_4) := (blk_cell BK181.out 4).trans rfl
                            have hcz76_5 : wr.cell? ⟨gb181, 5, none⟩ = some (.slice A0_5 l0_5.length c0_5) := (blk_cell BK181.out 5).trans rfl
                            have hfz76_0 := blk_frozen BK181.out 0
                            have hfz76_1 := blk_frozen BK181.out 1
                            have hfz76_2 := blk_frozen BK181.out 2
                            have hfz76_3 := blk_frozen BK181.out 3
                            have hfz76_4 := blk_frozen BK181.out 4
                            have hfz76_5 := blk_frozen BK181.out 5
                            have p186 : 0 ≤ (x11_4 : Int) := of_decide_eq_true (by first | (with_reducible assumption) | assumption)
                            have q186 : x11_4 < (l0_5.length : Int) := of_decide_eq_true (by first | (with_reducible assumption) | assumption)
                            obtain ⟨ad186, A186_3, c186_3, A186_4, c186_4, A186_5, c186_5, e186, hx186_0, hx186_1, hx186_2, hx186_3, hx186_4, hx186_5, hl186_3, hi186_3, hl186_4, hi186_4, hl186_5, hi186_5⟩ := at_T31 (Kd.C_foot_now HR0_5.out HK.out) x11_4 p186 q186
                            have HF186_3 := Aside0.mk (foot_T31_3 HR0_5.out HK.out x11_4 p186 q186 e186 hx186_3)
                            have HF186_4 := Aside0.mk (foot_T31_4 HR0_5.out HK.out x11_4 p186 q186 e186 hx186_4)
                            have HF186_5 := Aside0.mk (foot_T31_5 HR0_5.out HK.out x11_4 p186 q186 e186 hx186_5)
                            cases e186
                            have HR186_3 := Aside0.mk hi186_3
                            have HC186_3 := Aside0.mk hl186_3
                            clear hi186_3 hl186_3
                            have HR186_4 := Aside0.mk hi186_4
                            have HC186_4 := Aside0.mk hl186_4
                            clear hi186_4 hl186_4
                            have HR186_5 := Aside0.mk hi186_5
                            have HC186_5 := Aside0.mk hl186_5
                            clear hi186_5 hl186_5
                            replace p186 := eq_true p186
                            replace q186 := eq_true q186
                            go_wp2_with (first | ((with_reducible refine gate_callee (f := 17) rfl ?_); refine goesL_ (some 163) rfl rfl Try.func17 (by kernel_rfl) rfl #[.agg #[.int .i64 ((rd_T31 l0_5 x11_4).f0), .int .i64 ((rd_T31 l0_5 x11_4).f1), .int .i64 ((rd_T31 l0_5 x11_4).f2), .slice A186_3 ((rd_T31 l0_5 x11_4).f3).length c186_3, .slice A186_4 ((rd_T31 l0_5 x11_4).f4).length c186_4, .slice A186_5 ((rd_T31 l0_5 x11_4).f5).length c186_5], .int .i64 (wrap64 (a1 + 1)), .pointer (some ⟨g, 0, none⟩)] rfl (by (try simp only [List.map_toArray, List.map_cons, List.map_nil]); first | done | rfl | (simp only [List.length_drop, List.length_take]; rfl)) ?_; (with_reducible refine (ih k4 (by have := HJ3.out; have := HJ24.out; have := HJ33.out; have := HK4.out; omega) ((rd_T31 l0_5 x11_4).f0) ((rd_T31 l0_5 x11_4).f1) ((rd_T31 l0_5 x11_4).f2) _ _ ((rd_T31 l0_5 x11_4).f3) _ _ ((rd_T31 l0_5 x11_4).f4) _ _ ((rd_T31 l0_5 x11_4).f5) (wrap64 (a1 + 1)) g x3000_4 t187 t188 w0 _ ?side1 ?side2 ?side3 ?side4 ?side5 ?side6 ?side7 ?side8 ?side9 ?side10 A74.out).mono ?_); (case side1 => repeat (first | (with_reducible first | exact HI2.out | apply IsS900003.alloc | apply IsS900003.drewN | apply IsS900003.drew | apply IsS900003.set_0 | refine IsS900003.far ?_ NB2_181.out _) | exact HI2.out)); (case side2 => repeat (first | (with_reducible first | exact HB.out | apply below_alloc | apply pw_below_drewN | apply below_drew1 | refine below_set ?_ (IsS900003.ge HI2.out) | refine below_set ?_ GE181.out) | exact HB.out)); (case side3 => repeat (first | exact (by repeat (first | (with_reducible exact HR186_3.out) | (with_reducible refine Kd.C_alloc ?_ _) | (with_reducible refine Kd.C_drewN ?_ _) | (with_reducible refine Kd.C_drew ?_) | exact HR186_3.out)) | (with_reducible refine Kd.C_alloc ?_ _) | (with_reducible refine Kd.C_drewN ?_ _) | (with_reducible refine Kd.C_drew ?_))); (case side4 => exact HC186_3.out); (case side5 => intro ad_ e_ n_; have q_ := HF186_3.out; rw [e_] at q_; exact Kd.foot_ne q_ n_ (by decide)); (case side6 => repeat (first | exact (by repeat (first | (with_reducible exact HR186_4.out) | (with_reducible refine Kd.C_alloc ?_ _) | (with_reducible refine Kd.C_drewN ?_ _) | (with_reducible refine Kd.C_drew ?_) | exact HR186_4.out)) | (with_reducible refine Kd.C_alloc ?_ _) | (with_reducible refine Kd.C_drewN ?_ _) | (with_reducible refine Kd.C_drew ?_))); (case side7 => exact HC186_4.out); (case side8 => intro ad_ e_ n_; have q_ := HF186_4.out; rw [e_] at q_; exact Kd.foot_ne q_ n_ (by decide)); (case side9 => exact Kd.C_foot_step HF186_5.out (by repeat (first | (with_reducible first | exact HK.out | apply KeepBut.set_ | apply keep_drewN | apply keep_drew | apply keep_alloc | refine keep_far ?_ GW181.out _) | exact HK.out))); (case side10 => exact HC186_5.out); rintro e w77 ⟨rfl, hi, hb, hk⟩; refine ⟨_, rfl, ?_⟩; have n0_ := Aside0.mk (KeepBut.blk hk (g' := gb181) (o := .cells #[.int .i64 a0_0, .int .i64 a0_1, .int .i64 a0_2, .slice A0_3 l0_3.length c0_3, .slice A0_4 l0_4.length c0_4, .slice (some ad186) l0_5.length c0_5] 31 (0, 0)) (by (with_reducible repeat (first | refine blk_drewN ?_ _ | refine blk_drew ?_ | refine blk_alloc ?_ _)); exact BK181.out) NB181_2.out (by simp)); have n1_ := Aside0.mk (KeepBut.trans (by repeat (first | (with_reducible first | exact HK.out | apply KeepBut.set_ | apply keep_drewN | apply keep_drew | apply keep_alloc | refine keep_far ?_ GW181.out _) | exact HK.out)) hk (.inl rfl)); have n2_ := Aside0.mk (hb); have n3_ := Aside0.mk (hi); clear BK181; clear HK; clear HB; clear HI2; have BK181 := n0_; have HK := n1_; have HB := n2_; have HI2 := n3_; clear n0_ n1_ n2_ n3_; (try clear hb); (try clear hb2); (try clear hk); (try clear hi)))
                            go_roundg k4
                            case measure => have := HJ3.out; have := HJ24.out; have := HJ33.out; have := HK4.out; omega
                            case rel => exact ⟨(t187), (wrap64 (x11_4 + 1)), (t188), (by first | rfl | (simp; done) | (simp [*]; done)), (by first | rfl | (simp; done) | (simp [*]; done)), H', ⟨by have := HJ3.out; have := HJ24.out; have := HJ33.out; have := HK4.out; omega⟩, ⟨by (with_reducible repeat (first | refine blk_drewN ?_ _ | refine blk_drew ?_ | refine blk_alloc ?_ _)); exact BK181.out⟩, ⟨by repeat (first | (with_reducible first | exact HI2.out | apply IsS900003.alloc | apply IsS900003.drewN | apply IsS900003.drew | apply IsS900003.set_0 | refine IsS900003.far ?_ NB2_181.out _) | exact HI2.out)⟩, ⟨by repeat (first | (with_reducible first | exact HK.out | apply KeepBut.set_ | apply keep_drewN | apply keep_drew | apply keep_alloc | refine keep_far ?_ GW181.out _) | exact HK.out)⟩, ⟨by repeat (first | (with_reducible first | exact HB.out | apply below_alloc | apply pw_below_drewN | apply below_drew1 | refine below_set ?_ (IsS900003.ge HI2.out) | refine below_set ?_ GE181.out) | exact HB.out)⟩⟩
                          · rw [if_neg c73] at H
                            exact absurd H (by simp)
                        · rw [if_neg c72] at H
                          exact absurd H (by simp)
                      · replace c71 := Bool.eq_false_iff.mpr c71
                        subst c71
                        have H1 : (some (false, x3000_4)) = some (r1, r2) := by rw [if_neg (show ¬ (false = true) by decide)] at H; exact H
                        clear H
                        have H := H1
                        clear H1
                        simp only [Option.some.injEq, Prod.mk.injEq] at H
                        obtain ⟨rfl, rfl⟩ := H
                        go_wp2
                        go_ret
                        exact ⟨by first | rfl | (simp [errW_none, errW_some] <;> rfl) | (simp [*, errW_none, errW_some] <;> rfl) | (simp only [pw_eq_nil]; rfl), by repeat (first | (with_reducible first | exact HI2.out | apply IsS900003.alloc | apply IsS900003.drewN | apply IsS900003.drew | apply IsS900003.set_0 | refine IsS900003.far ?_ NB2_181.out _) | exact HI2.out), by repeat (first | (with_reducible first | exact HB.out | apply below_alloc | apply pw_below_drewN | apply below_drew1 | refine below_set ?_ (IsS900003.ge HI2.out) | refine below_set ?_ GE181.out) | exact HB.out), by repeat (first | (with_reducible first | exact HK.out | apply KeepBut.set_ | apply keep_drewN | apply keep_drew | apply keep_alloc | refine keep_far ?_ GW181.out _) | exact HK.out)⟩
                    · rw [if_neg c70] at H
                      have c70b0 : decide (x11_4 < (l0_5.length : Int)) = false := decide_eq_false c70
                      clear c70
                      simp only [Option.some.injEq, Prod.mk.injEq] at H
                      obtain ⟨rfl, rfl⟩ := H
                      go_wp2
                      go_ret
                      exact ⟨by first | rfl | (simp [errW_none, errW_some] <;> rfl) | (simp [*, errW_none, errW_some] <;> rfl) | (simp only [pw_eq_nil]; rfl), by repeat (first | (with_reducible first | exact HI2.out | apply IsS900003.alloc | apply IsS900003.drewN | apply IsS900003.drew | apply IsS900003.set_0 | refine IsS900003.far ?_ NB2_181.out _) | exact HI2.out), by repeat (first | (with_reducible first | exact HB.out | apply below_alloc | apply pw_below_drewN | apply below_drew1 | refine below_set ?_ (IsS900003.ge HI2.out) | refine below_set ?_ GE181.out) | exact HB.out), by repeat (first | (with_reducible first | exact HK.out | apply KeepBut.set_ | apply keep_drewN | apply keep_drew | apply keep_alloc | refine keep_far ?_ GW181.out _) | exact HK.out)⟩

end Go.Proofs.Ytfejipjfkffdiaa.P
