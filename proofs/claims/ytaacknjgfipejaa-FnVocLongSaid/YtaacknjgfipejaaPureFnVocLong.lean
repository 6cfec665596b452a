/- A text that is cut into pieces is these, one behind the other, and each is the longest that fits: for every code, without a condition. -/
import Derived.Test.YtaacknjgfipejaaPx22
import Derived.Test.YtaacknjgfipejaaH
namespace Go.Proofs.Ytaacknjgfipejaa.Pure
open Go.RowKit Go.Proofs.Ytaacknjgfipejaa.P Go.Proofs.YtaacknjgfipejaaW.PrintWords Go.Proofs.YtaacknjgfipejaaW.PrintLast Go.Proofs.Ytaacknjgfipejaa.H
set_option linter.unusedVariables false
set_option linter.unusedSimpArgs false

/-! ### The reader -/
theorem pick_ev {b : List Int} (hb : Bytes b) {p n : Int} (h0 : 0 ≤ p) (h1 : p ≤ 1000000000) (hn1 : n ≤ 1000000000) :
    ∃ v, Ev (fun k => spec_l6Rd_pick.f k b p n) (v, p + 1) ∧ 0 ≤ v ∧ (v < n ∨ v = 0) := by
  have hw : wrap64 (p + 1) = p + 1 := w64 (by omega) (by omega)
  have hw' : wrap64 (p + 1 - 1) = p := by
    rw [show p + 1 - 1 = p by omega]
    exact w64 (by omega) (by omega)
  by_cases hn : n < 1
  · refine ⟨0, ?_, by omega, Or.inr rfl⟩
    refine Ev.congr (g := fun k => spec_l6Rd_pick.f k b p n) (f := fun k => spec_l6Rd_pick.j0 k n true b (p + 1)) (fun k => by unfold spec_l6Rd_pick.f; rw [if_pos hn, hw]) ?_
    exact Ev.step (f := fun _ => some (0, p + 1)) (fun k => by rw [spec_l6Rd_pick.j0, if_pos rfl]) (Ev.now _)
  · by_cases hl : (b.length : Int) = 0
    · refine ⟨0, ?_, by omega, Or.inr rfl⟩
      refine Ev.congr (g := fun k => spec_l6Rd_pick.f k b p n) (f := fun k => spec_l6Rd_pick.j0 k n true b (p + 1)) (fun k => by unfold spec_l6Rd_pick.f; rw [if_neg hn, hw, show ((b.length : Int) == 0) = true from by simpa using hl]) ?_
      exact Ev.step (f := fun _ => some (0, p + 1)) (fun k => by rw [spec_l6Rd_pick.j0, if_pos rfl]) (Ev.now _)
    · have hgo : ∀ k, spec_l6Rd_pick.f k b p n = spec_l6Rd_pick.j0 k n false b (p + 1) := fun k => by
        unfold spec_l6Rd_pick.f
        rw [if_neg hn, hw, show ((b.length : Int) == 0) = false from by simpa using hl]
      by_cases hk : p < (b.length : Int)
      · have hr := hb.at_ p
        have hwr : wrap64 (rd b p) = rd b p := w64 (by omega) (by omega)
        refine ⟨Int.tmod (rd b p) n, ?_, Int.tmod_nonneg _ hr.1, Or.inl (Int.tmod_lt_of_pos _ (by omega))⟩
        refine Ev.congr hgo ?_
        refine Ev.step (f := fun _ => some (Int.tmod (rd b p) n, p + 1)) (fun k => ?_) (Ev.now _)
        rw [spec_l6Rd_pick.j0, if_neg (by simp), hw', if_pos hk, if_pos h0, if_neg (by omega), hwr]
      · have hlen := hb.len
        have hlp : 0 < (b.length : Int) := by omega
        obtain ⟨A, hA⟩ : ∃ A, A = rd b (Int.tmod p (b.length : Int)) := ⟨_, rfl⟩
        obtain ⟨B, hB⟩ : ∃ B, B = rd b (Int.tmod (p * 7 + 3) (b.length : Int)) := ⟨_, rfl⟩
        have rA : 0 ≤ A ∧ A ≤ 255 := hA ▸ hb.at_ _
        have rB : 0 ≤ B ∧ B ≤ 255 := hB ▸ hb.at_ _
        have m1 : 0 ≤ Int.tmod p (b.length : Int) := Int.tmod_nonneg _ h0
        have m2 : Int.tmod p (b.length : Int) < (b.length : Int) := Int.tmod_lt_of_pos _ hlp
        have m3 : 0 ≤ Int.tmod (p * 7 + 3) (b.length : Int) := Int.tmod_nonneg _ (by omega)
        have m4 : Int.tmod (p * 7 + 3) (b.length : Int) < (b.length : Int) := Int.tmod_lt_of_pos _ hlp
        obtain ⟨q, hq⟩ : ∃ q, q = Int.tdiv p (b.length : Int) := ⟨_, rfl⟩
        have q0 : 0 ≤ q := by rw [hq]; exact Int.tdiv_nonneg h0 (by omega)
        have q1 : q ≤ p := by rw [hq, Int.tdiv_eq_ediv_of_nonneg h0]; exact Int.ediv_le_self _ h0
        have w1 : wrap64 (p * 7) = p * 7 := w64 (by omega) (by omega)
        have w2 : wrap64 (p * 7 + 3) = p * 7 + 3 := w64 (by omega) (by omega)
        have w3 : wrap64 A = A := w64 (by omega) (by omega)
        have w4 : wrap64 B = B := w64 (by omega) (by omega)
        have w5 : wrap64 (A * 131) = A * 131 := w64 (by omega) (by omega)
        have w6 : wrap64 (B * 1117) = B * 1117 := w64 (by omega) (by omega)
        have w7 : wrap64 (A * 131 + B * 1117) = A * 131 + B * 1117 := w64 (by omega) (by omega)
        have w8 : wrap64 (p * 29) = p * 29 := w64 (by omega) (by omega)
        have w9 : wrap64 (A * 131 + B * 1117 + p * 29) = A * 131 + B * 1117 + p * 29 := w64 (by omega) (by omega)
        have w10 : wrap64 q = q := w64 (by omega) (by omega)
        have w11 : wrap64 (q * 53) = q * 53 := w64 (by omega) (by omega)
        have w12 : wrap64 (A * 131 + B * 1117 + p * 29 + q * 53) = A * 131 + B * 1117 + p * 29 + q * 53 := w64 (by omega) (by omega)
        obtain ⟨X, hX⟩ : ∃ X, X = A * 131 + B * 1117 + p * 29 + q * 53 := ⟨_, rfl⟩
        have x0 : 0 ≤ X ∧ X < 1000000000000 := by omega
        have d1 : Int.tdiv X 64 = X / 64 := Int.tdiv_eq_ediv_of_nonneg x0.1
        have w13 : wrap64 (X / 64) = X / 64 := w64 (by omega) (by omega)
        refine ⟨Int.tmod (Go.bits .xor .i64 X (X / 64)) n, ?_, Int.tmod_nonneg _ (xor_nonneg (by omega) (by omega) (by omega) (by omega)), Or.inl (Int.tmod_lt_of_pos _ (by omega))⟩
        refine Ev.congr hgo ?_
        refine Ev.step (f := fun _ => some (Int.tmod (Go.bits .xor .i64 X (X / 64)) n, p + 1)) (fun k => ?_) (Ev.now _)
        rw [spec_l6Rd_pick.j0, if_neg (by simp), hw', if_neg hk, if_neg hl, if_pos m1, if_pos m2, w1, w2, if_pos m3, if_pos m4, if_neg (by omega), ← hA, ← hB, ← hq, w3, w4, w5, w6, w7, w8, w9, w10, w11, w12, ← hX, d1, w13]

theorem open_ev (l : List Int) (hw : ∀ x ∈ l, (Lit.int .u8 x).wf = true) : ∃ b, spec_l6Open.f l = some (b, 0) ∧ Bytes b := by
  unfold spec_l6Open.f
  by_cases h : (l.length : Int) > 2000
  · refine ⟨l.take 2000, by rw [if_pos h, if_pos (by omega)], ?_, ?_⟩
    · rw [List.length_take]
      omega
    · exact fun x hx => Go.bounds_u8 (hw x (List.mem_of_mem_take hx))
  · exact ⟨l, by rw [if_neg h], by omega, fun x hx => Go.bounds_u8 (hw x hx)⟩

/-! ### Few bytes -/
theorem bytes_l0 {b : List Int} (hb : Bytes b) : ∀ (d : Nat) (xs : List Int) (p : Int), 0 ≤ p → p + d ≤ 100000000 → xs.length + d ≤ 100 →
    ∃ s p', Ev (fun k => spec_l71Bytes.l0 k xs (d : Int) b p) (s, p') ∧ p ≤ p' ∧ p' ≤ p + d + 2 ∧ xs.length + d ≤ s.size ∧ s.size ≤ xs.length + d + 1 := by
  intro d
  induction d with
  | zero =>
    intro xs p h0 h1 hx
    obtain ⟨v, hv, v0, v1⟩ := pick_ev hb (p := p) (n := 30) h0 (by omega) (by omega)
    by_cases hz : v = 0
    · obtain ⟨c, hc, c0, c1⟩ := pick_ev hb (p := p + 1) (n := 256) (by omega) (by omega) (by omega)
      refine ⟨strOfNums (xs ++ [c % 256]), p + 1 + 1, ?_, by omega, by omega, by rw [strOfNums_size]; simp, by rw [strOfNums_size]; simp⟩
      refine Ev.step (fun k => by rw [spec_l71Bytes.l0]) ?_
      refine ifn (by omega) ?_
      refine Ev.bind hv ?_
      refine ifp hz ?_
      refine Ev.bind hc ?_
      refine ifp (by omega) ?_
      exact Ev.now _
    · refine ⟨strOfNums xs, p + 1, ?_, by omega, by omega, by rw [strOfNums_size]; simp, by rw [strOfNums_size]; simp⟩
      refine Ev.step (fun k => by rw [spec_l71Bytes.l0]) ?_
      refine ifn (by omega) ?_
      refine Ev.bind hv ?_
      refine ifn hz ?_
      exact Ev.now _
  | succ d ih =>
    intro xs p h0 h1 hx
    obtain ⟨v, hv, v0, v1⟩ := pick_ev hb (p := p) (n := 6) h0 (by omega) (by omega)
    obtain ⟨s, p', hs, p0, p1, s0, s1⟩ := ih (xs ++ [bt (⟨#[97, 98, 97, 98, 48, 49]⟩ : ByteArray) v]) (p + 1) (by omega) (by omega) (by simp; omega)
    simp only [List.length_append, List.length_cons, List.length_nil] at s0 s1
    refine ⟨s, p', ?_, by omega, by omega, by omega, by omega⟩
    refine Ev.step (fun k => by rw [spec_l71Bytes.l0]) ?_
    refine ifp (by omega) ?_
    refine Ev.bind hv ?_
    refine ifp v0 ?_
    refine ifp (by dsimp only; omega) ?_
    refine ifp (by omega) ?_
    rw [show wrap64 (((d + 1 : Nat) : Int) - 1) = (d : Int) by rw [w64 (by omega) (by omega)]; omega]
    exact hs

theorem bytes_ev {b : List Int} (hb : Bytes b) {p most : Int} (h0 : 0 ≤ p) (h1 : p ≤ 10000000) (m0 : 1 ≤ most) (m1 : most ≤ 20) :
    ∃ s p', Ev (fun k => spec_l71Bytes.f k b p most) (s, p') ∧ p ≤ p' ∧ p' ≤ p + most + 3 ∧ 1 ≤ s.size ∧ (s.size : Int) ≤ most + 1 := by
  obtain ⟨v, hv, v0, v1⟩ := pick_ev hb (p := p) (n := most) h0 (by omega) (by omega)
  obtain ⟨d, hd⟩ : ∃ d : Nat, (d : Int) = 1 + v := ⟨(1 + v).toNat, by omega⟩
  obtain ⟨s, p', hs, p0, p1, s0, s1⟩ := bytes_l0 hb d [] (p + 1) (by omega) (by omega) (by simp; omega)
  simp only [List.length_nil] at s0 s1
  refine ⟨s, p', ?_, by omega, by omega, by omega, by omega⟩
  unfold spec_l71Bytes.f
  refine Ev.bind hv ?_
  rw [show wrap64 (1 + v) = (d : Int) by rw [w64 (by omega) (by omega)]; omega]
  exact hs

/-! ### A text several times -/
theorem many_l0 : ∀ (n : Nat) (s acc : ByteArray), n ≤ 1000000 → acc.size + s.size * n ≤ 1000000000 →
    ∃ r, Ev (fun k => spec_l6Many.l0 k s (n : Int) acc) r ∧ r.size = acc.size + s.size * n := by
  intro n
  induction n using Nat.strongRecOn with
  | ind n ih =>
    intro s acc h1 h2
    by_cases hn : n = 0
    · subst hn
      refine ⟨acc, ?_, by simp⟩
      refine Ev.step (fun k => by rw [spec_l6Many.l0]) ?_
      exact ifn (by omega) (Ev.now _)
    · obtain ⟨m, c, hm, hc⟩ : ∃ m c, n = 2 * m + c ∧ c < 2 := ⟨n / 2, n % 2, by omega, by omega⟩
      have ht : Int.tmod (n : Int) 2 = (c : Int) := by rw [Int.tmod_eq_emod_of_nonneg (by omega)]; omega
      have hd : wrap64 (Int.tdiv (n : Int) 2) = (m : Int) := by rw [Int.tdiv_eq_ediv_of_nonneg (by omega), w64 (by omega) (by omega)]; omega
      have e : s.size * n = (s ++ s).size * m + s.size * c := by
        rw [ByteArray.size_append, hm, Nat.mul_add, ← Nat.mul_assoc, Nat.mul_comm s.size 2, Nat.two_mul]
      have es : s.size ≤ s.size * n := Nat.le_mul_of_pos_right _ (by omega)
      have hss : (s ++ s).size = s.size + s.size := ByteArray.size_append
      rcases (by omega : c = 0 ∨ c = 1) with rfl | rfl
      · obtain ⟨r, hr, rs⟩ := ih m (by omega) (s ++ s) acc (by omega) (by omega)
        refine ⟨r, ?_, by omega⟩
        refine Ev.step (fun k => by rw [spec_l6Many.l0]) ?_
        refine ifp (by omega) ?_
        refine ifn (by omega) ?_
        refine ifp (by omega) ?_
        rw [hd]
        exact hr
      · have ha : (acc ++ s).size = acc.size + s.size := ByteArray.size_append
        obtain ⟨r, hr, rs⟩ := ih m (by omega) (s ++ s) (acc ++ s) (by omega) (by omega)
        refine ⟨r, ?_, by omega⟩
        refine Ev.step (fun k => by rw [spec_l6Many.l0]) ?_
        refine ifp (by omega) ?_
        refine ifp (by omega) ?_
        refine ifp (by omega) ?_
        refine ifp (by omega) ?_
        rw [hd]
        exact hr

theorem many_ev (s : ByteArray) (n : Int) (h0 : 0 ≤ n) (h1 : n ≤ 1000000) (h : s.size * n.toNat ≤ 1000000) : ∃ r, Ev (fun k => spec_l6Many.f k s n) r ∧ r.size = s.size * n.toNat := by
  obtain ⟨r, hr, rs⟩ := many_l0 n.toNat s ⟨#[]⟩ (by omega) (by rw [size_nil]; omega)
  refine ⟨r, ?_, by rw [rs, size_nil, Nat.zero_add]⟩
  unfold spec_l6Many.f
  rw [show n = ((n.toNat : Nat) : Int) by omega]
  exact hr

/-! ### Drawn pieces -/
theorem voc_l1 {b : List Int} (hb : Bytes b) (e : Int) : ∀ (d : Nat) (ps : List ByteArray) (p : Int), 0 ≤ p → p + d ≤ 100000000 → 41 - ps.length = d → (∀ x ∈ ps, x.size ≤ 8) →
    ∃ ps' p', Ev (fun k => spec_l71Voc.l1 k b p ps e) (ps', e, p') ∧ p ≤ p' ∧ p' ≤ p + d + 1 ∧ ps'.length ≤ ps.length + d ∧ (∀ x ∈ ps', x.size ≤ 8) := by
  intro d
  induction d with
  | zero =>
    intro ps p h0 h1 hd hs
    obtain ⟨v, hv, v0, v1⟩ := pick_ev hb (p := p) (n := 2) h0 (by omega) (by omega)
    refine ⟨ps, p + 1, ?_, by omega, by omega, by omega, hs⟩
    refine Ev.step (fun k => by rw [spec_l71Voc.l1]) ?_
    refine Ev.bind hv ?_
    rw [show wrap64 (40 + v) = 40 + v from w64 (by omega) (by omega)]
    exact ifn (by omega) (Ev.now _)
  | succ d ih =>
    intro ps p h0 h1 hd hs
    obtain ⟨v, hv, v0, v1⟩ := pick_ev hb (p := p) (n := 2) h0 (by omega) (by omega)
    by_cases hc : (ps.length : Int) < 40 + v
    · obtain ⟨ps', p', hp, a1, a2, a3, a4⟩ := ih (ps ++ [(⟨#[99]⟩ : ByteArray)]) (p + 1) (by omega) (by omega) (by simp; omega) (by
        intro x hx
        rcases List.mem_append.1 hx with hx | hx
        · exact hs x hx
        · rw [List.mem_singleton.1 hx, size_one]; omega)
      simp only [List.length_append, List.length_cons, List.length_nil] at a3
      refine ⟨ps', p', ?_, by omega, by omega, by omega, a4⟩
      refine Ev.step (fun k => by rw [spec_l71Voc.l1]) ?_
      refine Ev.bind hv ?_
      rw [show wrap64 (40 + v) = 40 + v from w64 (by omega) (by omega)]
      refine ifp hc ?_
      refine ifp (by omega) ?_
      exact hp
    · refine ⟨ps, p + 1, ?_, by omega, by omega, by omega, hs⟩
      refine Ev.step (fun k => by rw [spec_l71Voc.l1]) ?_
      refine Ev.bind hv ?_
      rw [show wrap64 (40 + v) = 40 + v from w64 (by omega) (by omega)]
      exact ifn hc (Ev.now _)

theorem voc_j1 {b : List Int} (hb : Bytes b) (ps : List ByteArray) (e p : Int) (h0 : 0 ≤ p) (h1 : p ≤ 1000000) (hl : ps.length ≤ 20) (hl0 : 0 < ps.length) (hs : ∀ x ∈ ps, x.size ≤ 8) (he : -2 ≤ e) (he' : e ≤ 42) :
    ∃ ps' e' p', Ev (fun k => spec_l71Voc.j1 k b p ps e) (ps', e', p') ∧ p ≤ p' ∧ p' ≤ p + 100 ∧ ps'.length ≤ 42 ∧ (∀ x ∈ ps', x.size ≤ 8) ∧ -2 ≤ e' ∧ e' ≤ 42 := by
  obtain ⟨v, hv, v0, v1⟩ := pick_ev hb (p := p) (n := 24) h0 (by omega) (by omega)
  by_cases c0 : v = 0
  · obtain ⟨u, hu, u0, u1⟩ := pick_ev hb (p := p + 1) (n := 2) (by omega) (by omega) (by omega)
    have hu2 : u = 0 ∨ u = 1 := by omega
    refine ⟨ps, rd [(-2), (ps.length : Int)] u, p + 1 + 1, ?_, by omega, by omega, by omega, hs, ?_, ?_⟩
    · refine Ev.step (fun k => by rw [spec_l71Voc.j1]) ?_
      refine Ev.bind hv ?_
      refine ifp c0 ?_
      refine bs ?_
      refine Ev.bind hu ?_
      refine ifp u0 ?_
      refine ifp (by simp; omega) ?_
      exact Ev.now _
    · rcases hu2 with rfl | rfl <;> simp [rd]
    · rcases hu2 with rfl | rfl <;> simp [rd]
      omega
  by_cases c1 : v = 1
  · obtain ⟨u, hu, u0, u1⟩ := pick_ev hb (p := p + 1) (n := 2) (by omega) (by omega) (by omega)
    obtain ⟨t, ht, hts⟩ := many_ev (⟨#[97]⟩ : ByteArray) (6 + u) (by omega) (by omega) (by rw [size_one]; omega)
    have ht8 : t.size ≤ 8 := by rw [hts, size_one]; omega
    refine ⟨ps.set (0 : Int).toNat t, e, p + 1 + 1, ?_, by omega, by omega, by simp; omega, ?_, he, he'⟩
    · refine Ev.step (fun k => by rw [spec_l71Voc.j1]) ?_
      refine Ev.bind hv ?_
      refine ifn c0 ?_
      refine ifp c1 ?_
      refine Ev.bind hu ?_
      rw [show wrap64 (6 + u) = 6 + u from w64 (by omega) (by omega)]
      refine Ev.bind ht ?_
      refine ifp (by omega) ?_
      exact Ev.now _
    · intro x hx
      rcases List.mem_or_eq_of_mem_set hx with hx | hx
      · exact hs x hx
      · rw [hx]; exact ht8
  by_cases c2 : v = 2
  · obtain ⟨ps', p', hp, a1, a2, a3, a4⟩ := voc_l1 hb e (41 - ps.length) ps (p + 1) (by omega) (by omega) rfl hs
    refine ⟨ps', e, p', ?_, by omega, by omega, by omega, a4, he, he'⟩
    refine Ev.step (fun k => by rw [spec_l71Voc.j1]) ?_
    refine Ev.bind hv ?_
    refine ifn c0 ?_
    refine ifn c1 ?_
    refine ifp c2 ?_
    exact hp
  by_cases c3 : v = 3
  · refine ⟨[], e, p + 1, ?_, by omega, by omega, by simp, by simp, he, he'⟩
    refine Ev.step (fun k => by rw [spec_l71Voc.j1]) ?_
    refine Ev.bind hv ?_
    refine ifn c0 ?_
    refine ifn c1 ?_
    refine ifn c2 ?_
    refine ifp c3 ?_
    exact Ev.now _
  · refine ⟨ps, e, p + 1, ?_, by omega, by omega, by omega, hs, he, he'⟩
    refine Ev.step (fun k => by rw [spec_l71Voc.j1]) ?_
    refine Ev.bind hv ?_
    refine ifn c0 ?_
    refine ifn c1 ?_
    refine ifn c2 ?_
    refine ifn c3 ?_
    exact Ev.now _

theorem voc_l0 {b : List Int} (hb : Bytes b) : ∀ (d : Nat) (ps : List ByteArray) (p : Int), 0 ≤ p → p + d * 10 ≤ 100000 → ps.length + d ≤ 15 → (∀ x ∈ ps, x.size ≤ 8) →
    ∃ ps' e' p', Ev (fun k => spec_l71Voc.l0 k (d : Int) b p ps (-1)) (ps', e', p') ∧ p ≤ p' ∧ p' ≤ p + d * 10 + 110 ∧ ps'.length ≤ 42 ∧ (∀ x ∈ ps', x.size ≤ 8) ∧ -2 ≤ e' ∧ e' ≤ 42 := by
  intro d
  induction d with
  | zero =>
    intro ps p h0 h1 hl hs
    obtain ⟨v, hv, v0, v1⟩ := pick_ev hb (p := p) (n := 3) h0 (by omega) (by omega)
    obtain ⟨ys, hys⟩ : ∃ ys, ys = ps ++ ([(⟨#[97]⟩ : ByteArray), (⟨#[98]⟩ : ByteArray), (⟨#[]⟩ : ByteArray), (⟨#[48]⟩ : ByteArray)] : List ByteArray) := ⟨_, rfl⟩
    have hyl : ys.length = ps.length + 4 := by rw [hys]; simp
    have hysz : ∀ x ∈ ys, x.size ≤ 8 := by
      intro x hx
      rw [hys] at hx
      rcases List.mem_append.1 hx with hx | hx
      · exact hs x hx
      · simp only [List.mem_cons, List.not_mem_nil, or_false] at hx
        rcases hx with rfl | rfl | rfl | rfl <;> (first | rw [size_one] | rw [size_nil]) <;> omega
    by_cases hc : v > 0
    · obtain ⟨u, hu, u0, u1⟩ := pick_ev hb (p := p + 1) (n := (ys.length : Int)) (by omega) (by omega) (by omega)
      obtain ⟨ps', e', p', hp, a1, a2, a3, a4, a5, a6⟩ := voc_j1 hb ys u (p + 1 + 1) (by omega) (by omega) (by omega) (by omega) hysz (by omega) (by omega)
      refine ⟨ps', e', p', ?_, by omega, by omega, a3, a4, a5, a6⟩
      refine Ev.step (fun k => by rw [spec_l71Voc.l0]) ?_
      refine ifn (by omega) ?_
      refine bs ?_
      refine ifp (by simp; omega) ?_
      rw [← hys]
      refine bs ?_
      refine Ev.bind hv ?_
      refine ifp hc ?_
      refine Ev.bind hu ?_
      exact hp
    · obtain ⟨ps', e', p', hp, a1, a2, a3, a4, a5, a6⟩ := voc_j1 hb ys (-1) (p + 1) (by omega) (by omega) (by omega) (by omega) hysz (by omega) (by omega)
      refine ⟨ps', e', p', ?_, by omega, by omega, a3, a4, a5, a6⟩
      refine Ev.step (fun k => by rw [spec_l71Voc.l0]) ?_
      refine ifn (by omega) ?_
      refine bs ?_
      refine ifp (by simp; omega) ?_
      rw [← hys]
      refine bs ?_
      refine Ev.bind hv ?_
      refine ifn hc ?_
      exact hp
  | succ d ih =>
    intro ps p h0 h1 hl hs
    obtain ⟨s, p1, hb1, b1, b2, b3, b4⟩ := bytes_ev hb (p := p) (most := 4) h0 (by omega) (by omega) (by omega)
    obtain ⟨ps', e', p', hp, a1, a2, a3, a4, a5, a6⟩ := ih (ps ++ [s]) p1 (by omega) (by omega) (by simp; omega) (by
      intro x hx
      rcases List.mem_append.1 hx with hx | hx
      · exact hs x hx
      · rw [List.mem_singleton.1 hx]; omega)
    refine ⟨ps', e', p', ?_, by omega, by omega, a3, a4, a5, a6⟩
    refine Ev.step (fun k => by rw [spec_l71Voc.l0]) ?_
    refine ifp (by omega) ?_
    refine Ev.bind hb1 ?_
    refine ifp (by omega) ?_
    rw [show wrap64 (((d + 1 : Nat) : Int) - 1) = (d : Int) by rw [w64 (by omega) (by omega)]; omega]
    exact hp

theorem voc_ev {b : List Int} (hb : Bytes b) (p : Int) (h0 : 0 ≤ p) (h1 : p ≤ 10000) :
    ∃ ps e p', Ev (fun k => spec_l71Voc.f k b p) (ps, e, p') ∧ p ≤ p' ∧ p' ≤ p + 300 ∧ ps.length ≤ 42 ∧ (∀ x ∈ ps, x.size ≤ 8) ∧ -2 ≤ e ∧ e ≤ 42 := by
  obtain ⟨v, hv, v0, v1⟩ := pick_ev hb (p := p) (n := 8) h0 (by omega) (by omega)
  obtain ⟨d, hd⟩ : ∃ d : Nat, (d : Int) = 2 + v := ⟨(2 + v).toNat, by omega⟩
  obtain ⟨ps', e', p', hp, a1, a2, a3, a4, a5, a6⟩ := voc_l0 hb d [] (p + 1) (by omega) (by omega) (by simp; omega) (by simp)
  refine ⟨ps', e', p', ?_, by omega, by omega, a3, a4, a5, a6⟩
  unfold spec_l71Voc.f
  refine Ev.bind hv ?_
  rw [show wrap64 (2 + v) = (d : Int) by rw [w64 (by omega) (by omega)]; omega]
  exact hp

/-! ### Are pieces ok? -/
def vocOk (ps : List ByteArray) (e : Int) : Bool := decide (1 ≤ ps.length) && decide (ps.length ≤ 40) && decide (-1 ≤ e) && decide (e < (ps.length : Int)) && ps.all (fun p => decide (p.size ≤ 6))

theorem spec_vocok_l0 (ps : List ByteArray) (e : Int) (hl : ps.length ≤ 1000000000000000) : ∀ (d i : Nat), i + d = ps.length →
    Ev (fun k => spec_VocOk.l0 k (i : Int) ps e) ((ps.drop i).all (fun p => decide (p.size ≤ 6))) := by
  intro d
  induction d with
  | zero =>
    intro i hi
    rw [List.drop_eq_nil_of_le (by omega)]
    refine Ev.step (fun k => by rw [spec_VocOk.l0]) ?_
    exact ifn (by omega) (Ev.now _)
  | succ d ih =>
    intro i hi
    have hlt : i < ps.length := by omega
    rw [List.drop_eq_getElem_cons hlt, List.all_cons]
    refine Ev.step (fun k => by rw [spec_VocOk.l0]) ?_
    refine ifp (by omega) ?_
    refine ifp (by omega) ?_
    rw [rdOf_nat _ _ _ hlt]
    by_cases hs : (ps[i].size : Int) > 6
    · refine ifp hs ?_
      rw [show decide (ps[i].size ≤ 6) = false from decide_eq_false (by omega), Bool.false_and]
      exact Ev.now _
    · refine ifn hs ?_
      rw [show decide (ps[i].size ≤ 6) = true from decide_eq_true (by omega), Bool.true_and, show wrap64 ((i : Int) + 1) = ((i + 1 : Nat) : Int) by rw [w64 (by omega) (by omega)]; omega]
      exact ih (i + 1) (by omega)

theorem spec_vocok_ev (ps : List ByteArray) (e : Int) (hl : ps.length ≤ 1000000000000000) : Ev (fun k => spec_VocOk.f k ps e) (vocOk ps e) := by
  have hj : ∀ c : Bool, Ev (fun k => spec_VocOk.j0 k c ps e) (!c && ps.all (fun p => decide (p.size ≤ 6))) := by
    intro c
    refine Ev.step (fun k => by rw [spec_VocOk.j0]) ?_
    cases c with
    | true => exact ifp rfl (Ev.now _)
    | false =>
      refine ifn (by simp) ?_
      exact spec_vocok_l0 ps e hl ps.length 0 (by omega)
  have hw : wrap64 ((ps.length : Int) - 1) = (ps.length : Int) - 1 := w64 (by omega) (by omega)
  unfold spec_VocOk.f
  by_cases h1 : (ps.length : Int) < 1
  · refine ifp h1 (Ev_eq (hj true) ?_)
    unfold vocOk
    rw [show decide (1 ≤ ps.length) = false from decide_eq_false (by omega)]
    rfl
  by_cases h2 : (ps.length : Int) > 40
  · refine ifn h1 (ifp h2 (Ev_eq (hj true) ?_))
    unfold vocOk
    rw [show decide (ps.length ≤ 40) = false from decide_eq_false (by omega), Bool.and_false]
    rfl
  refine ifn h1 (ifn h2 ?_)
  rw [hw]
  have ha : decide (1 ≤ ps.length) = true := decide_eq_true (by omega)
  have hb : decide (ps.length ≤ 40) = true := decide_eq_true (by omega)
  by_cases h3 : e ≥ -1
  · refine b0 (a := decide (e ≤ (ps.length : Int) - 1)) (by unfold spec_l6In.f; rw [if_pos h3]) (Ev_eq (hj _) ?_)
    unfold vocOk
    rw [ha, hb, show decide (-1 ≤ e) = true from decide_eq_true h3, show decide (e < (ps.length : Int)) = decide (e ≤ (ps.length : Int) - 1) from by rw [decide_eq_decide]; omega]
    simp
  · refine b0 (a := false) (by unfold spec_l6In.f; rw [if_neg h3]) (Ev_eq (hj _) ?_)
    unfold vocOk
    rw [show decide (-1 ≤ e) = false from decide_eq_false h3]
    simp

theorem impl_vocok_l0 (ps : List ByteArray) (e : Int) (hl : ps.length ≤ 1000000000000000) : ∀ (d i : Nat), i + d = ps.length →
    Ev (fun k => impl_VocOk.l0 k ps (ps.length : Int) (i : Int) ps e) ((ps.drop i).all (fun p => decide (p.size ≤ 6)) && (decide (1 ≤ ps.length) && decide (ps.length ≤ 40) && decide (-1 ≤ e) && decide (e < (ps.length : Int)))) := by
  intro d
  induction d with
  | zero =>
    intro i hi
    have hw : wrap64 ((ps.length : Int) - 1) = (ps.length : Int) - 1 := w64 (by omega) (by omega)
    rw [List.drop_eq_nil_of_le (by omega)]
    refine Ev.step (fun k => by rw [impl_VocOk.l0]) ?_
    refine ifn (by omega) ?_
    rw [hw]
    by_cases h1 : (ps.length : Int) ≥ 1
    · refine b0 (a := decide ((ps.length : Int) ≤ 40)) (by unfold impl_within.f; rw [if_pos h1]) ?_
      by_cases h2 : (ps.length : Int) ≤ 40
      · refine ifp (decide_eq_true h2) ?_
        have ha : decide (1 ≤ ps.length) = true := decide_eq_true (by omega)
        have hb : decide (ps.length ≤ 40) = true := decide_eq_true (by omega)
        by_cases h3 : e ≥ -1
        · refine b0 (a := decide (e ≤ (ps.length : Int) - 1)) (by unfold impl_within.f; rw [if_pos h3]) ?_
          refine Ev_eq (Ev.now _) ?_
          rw [ha, hb, show decide (-1 ≤ e) = true from decide_eq_true h3, show decide (e < (ps.length : Int)) = decide (e ≤ (ps.length : Int) - 1) from by rw [decide_eq_decide]; omega]
          simp
        · refine b0 (a := false) (by unfold impl_within.f; rw [if_neg h3]) ?_
          refine Ev_eq (Ev.now _) ?_
          rw [show decide (-1 ≤ e) = false from decide_eq_false h3]
          simp
      · refine ifn (by simpa using h2) ?_
        refine Ev_eq (Ev.now _) ?_
        rw [show decide (ps.length ≤ 40) = false from decide_eq_false (by omega)]
        simp
    · refine b0 (a := false) (by unfold impl_within.f; rw [if_neg h1]) ?_
      refine ifn (by simp) ?_
      refine Ev_eq (Ev.now _) ?_
      rw [show decide (1 ≤ ps.length) = false from decide_eq_false (by omega)]
      simp
  | succ d ih =>
    intro i hi
    have hlt : i < ps.length := by omega
    rw [List.drop_eq_getElem_cons hlt, List.all_cons]
    refine Ev.step (fun k => by rw [impl_VocOk.l0]) ?_
    refine ifp (by omega) ?_
    refine ifp (by omega) ?_
    refine ifp (by omega) ?_
    rw [rdOf_nat _ _ _ hlt]
    by_cases hs : (ps[i].size : Int) > 6
    · refine ifp hs ?_
      rw [show decide (ps[i].size ≤ 6) = false from decide_eq_false (by omega), Bool.false_and, Bool.false_and]
      exact Ev.now _
    · refine ifn hs ?_
      rw [show decide (ps[i].size ≤ 6) = true from decide_eq_true (by omega), Bool.true_and, show wrap64 ((i : Int) + 1) = ((i + 1 : Nat) : Int) by rw [w64 (by omega) (by omega)]; omega]
      exact ih (i + 1) (by omega)

theorem impl_vocok_ev (ps : List ByteArray) (e : Int) (hl : ps.length ≤ 1000000000000000) : Ev (fun k => impl_VocOk.f k ps e) (vocOk ps e) := by
  unfold impl_VocOk.f
  refine Ev_eq (impl_vocok_l0 ps e hl ps.length 0 (by omega)) ?_
  rw [List.drop_zero, Bool.and_comm]
  rfl

theorem vocOk_parts {ps : List ByteArray} {e : Int} (h : vocOk ps e = true) : 1 ≤ ps.length ∧ ps.length ≤ 40 ∧ -1 ≤ e ∧ e < (ps.length : Int) ∧ ∀ p ∈ ps, p.size ≤ 6 := by
  unfold vocOk at h
  simp only [Bool.and_eq_true, decide_eq_true_eq, List.all_eq_true] at h
  obtain ⟨⟨⟨⟨h1, h2⟩, h3⟩, h4⟩, h5⟩ := h
  exact ⟨h1, h2, h3, h4, h5⟩

/-! ### The text of pieces -/
def textGo (ps : List ByteArray) (e : Int) : List Int → ByteArray → Option ByteArray
  | [], acc => some acc
  | i :: r, acc => if 0 ≤ i ∧ i < (ps.length : Int) then (if i = e then textGo ps e r acc else textGo ps e r (acc ++ rdOf ByteArray.empty ps i)) else none

def textEnd : Option ByteArray → ByteArray × Bool
  | some s => (s, true)
  | none => (⟨#[]⟩, false)

def vocText (ps : List ByteArray) (e : Int) (ids : List Int) : ByteArray × Bool :=
  if vocOk ps e = true ∧ ids.length ≤ 60 then textEnd (textGo ps e ids ⟨#[]⟩) else (⟨#[]⟩, false)


theorem impl_voctext_l0 (ps : List ByteArray) (e : Int) (hv : vocOk ps e = true) (ids : List Int) (hids : ids.length ≤ 60) : ∀ (d i : Nat) (acc : ByteArray), i + d = ids.length → acc.size ≤ 6 * i →
    Ev (fun k => impl_VocText.l0 k acc ids (ids.length : Int) (i : Int) ps e) (textEnd (textGo ps e (ids.drop i) acc)) := by
  obtain ⟨g1, g2, g3, g4, g5⟩ := vocOk_parts hv
  have hw : wrap64 ((ps.length : Int) - 1) = (ps.length : Int) - 1 := w64 (by omega) (by omega)
  intro d
  induction d with
  | zero =>
    intro i acc hi ha
    rw [List.drop_eq_nil_of_le (by omega)]
    refine Ev.step (fun k => by rw [impl_VocText.l0]) ?_
    exact ifn (by omega) (Ev.now _)
  | succ d ih =>
    intro i acc hi ha
    have hlt : i < ids.length := by omega
    have hi1 : wrap64 ((i : Int) + 1) = ((i + 1 : Nat) : Int) := by rw [w64 (by omega) (by omega)]; omega
    rw [List.drop_eq_getElem_cons hlt, textGo]
    refine Ev.step (fun k => by rw [impl_VocText.l0]) ?_
    refine ifp (by omega) ?_
    refine ifp (by omega) ?_
    refine ifp (by omega) ?_
    rw [rd_nat _ _ hlt, hw, hi1]
    obtain ⟨x, hx⟩ : ∃ x, x = ids[i] := ⟨_, rfl⟩
    rw [← hx]
    by_cases c1 : 0 ≤ x
    · refine b0 (a := decide (x ≤ (ps.length : Int) - 1)) (by unfold impl_within.f; rw [if_pos c1]) ?_
      by_cases c2 : x < (ps.length : Int)
      · refine ifp (decide_eq_true (by omega)) ?_
        rw [if_pos ⟨c1, c2⟩]
        by_cases c3 : x = e
        · refine ifp c3 ?_
          rw [if_pos c3]
          exact ih (i + 1) acc (by omega) (by omega)
        · have hm := g5 _ (rdOf_mem ByteArray.empty ps x c1 c2)
          refine ifn c3 ?_
          rw [if_neg c3]
          refine ifp c1 (ifp c2 (ifp (by omega) ?_))
          exact ih (i + 1) _ (by omega) (by rw [ByteArray.size_append]; omega)
      · refine ifn (by simp; omega) ?_
        rw [if_neg (by omega)]
        exact Ev.now _
    · refine b0 (a := false) (by unfold impl_within.f; rw [if_neg c1]) ?_
      refine ifn (by simp) ?_
      rw [if_neg (by omega)]
      exact Ev.now _

theorem impl_voctext_ev (ps : List ByteArray) (e : Int) (hl : ps.length ≤ 1000000000000000) (ids : List Int) : Ev (fun k => impl_VocText.f k ps e ids) (vocText ps e ids) := by
  have hj : ∀ c : Bool, (c = false → vocOk ps e = true ∧ ids.length ≤ 60) → (c = true → ¬ (vocOk ps e = true ∧ ids.length ≤ 60)) → Ev (fun k => impl_VocText.j0 k ids c ps e) (vocText ps e ids) := by
    intro c h1 h2
    refine Ev.step (fun k => by rw [impl_VocText.j0]) ?_
    unfold vocText
    cases c with
    | true => rw [if_neg (h2 rfl)]; exact ifp rfl (Ev.now _)
    | false =>
      rw [if_pos (h1 rfl)]
      refine ifn (by simp) ?_
      exact impl_voctext_l0 ps e (h1 rfl).1 ids (h1 rfl).2 ids.length 0 _ (by omega) (by rw [size_nil]; omega)
  unfold impl_VocText.f
  refine Ev.bind (impl_vocok_ev ps e hl) ?_
  by_cases hv : vocOk ps e = true
  · refine ifp hv ?_
    refine hj _ (fun h => ⟨hv, ?_⟩) (fun h hh => ?_)
    · have := of_decide_eq_false h; omega
    · have := of_decide_eq_true h; omega
  · refine ifn hv ?_
    exact hj _ (fun h => by cases h) (fun _ h => hv h.1)

/-! ### The text of pieces: plain laws -/
theorem textGo_bad (ps : List ByteArray) (e : Int) : ∀ (ids : List Int) (acc : ByteArray), (∃ x ∈ ids, ¬ (0 ≤ x ∧ x < (ps.length : Int))) → textGo ps e ids acc = none
  | [], _, ⟨_, hx, _⟩ => by simp at hx
  | i :: r, acc, ⟨x, hx, hb⟩ => by
    rw [textGo]
    by_cases h : 0 ≤ i ∧ i < (ps.length : Int)
    · rw [if_pos h]
      have hr : ∃ x ∈ r, ¬ (0 ≤ x ∧ x < (ps.length : Int)) := by
        rcases List.mem_cons.1 hx with rfl | hx
        · exact absurd h hb
        · exact ⟨x, hx, hb⟩
      split
      · exact textGo_bad ps e r _ hr
      · exact textGo_bad ps e r _ hr
    · rw [if_neg h]

theorem textGo_acc (ps : List ByteArray) (e : Int) : ∀ (ids : List Int) (acc : ByteArray), textGo ps e ids acc = (textGo ps e ids ⟨#[]⟩).map (acc ++ ·)
  | [], acc => by
    rw [textGo, textGo, Option.map_some]
    congr 1
    apply ByteArray.ext
    simp [ByteArray.data_append]
  | i :: r, acc => by
    rw [textGo, textGo]
    by_cases h : 0 ≤ i ∧ i < (ps.length : Int)
    · rw [if_pos h, if_pos h]
      by_cases c : i = e
      · rw [if_pos c, if_pos c]
        exact textGo_acc ps e r acc
      · rw [if_neg c, if_neg c, textGo_acc ps e r (acc ++ _), textGo_acc ps e r (⟨#[]⟩ ++ _), Option.map_map]
        congr 1
        funext s
        apply ByteArray.ext
        simp [ByteArray.data_append]
    · rw [if_neg h, if_neg h, Option.map_none]

theorem textGo_append (ps : List ByteArray) (e : Int) : ∀ (a b : List Int) (acc : ByteArray), textGo ps e (a ++ b) acc = (textGo ps e a acc).bind (textGo ps e b)
  | [], b, acc => by rw [List.nil_append, textGo, Option.bind_some]
  | i :: r, b, acc => by
    rw [List.cons_append, textGo, textGo]
    by_cases h : 0 ≤ i ∧ i < (ps.length : Int)
    · rw [if_pos h, if_pos h]
      by_cases c : i = e
      · rw [if_pos c, if_pos c]
        exact textGo_append ps e r b acc
      · rw [if_neg c, if_neg c]
        exact textGo_append ps e r b _
    · rw [if_neg h, if_neg h, Option.bind_none]

theorem vocText_ok {ps : List ByteArray} {e : Int} {ids : List Int} (h : (vocText ps e ids).2 = true) : vocOk ps e = true ∧ ids.length ≤ 60 ∧ ∃ s, textGo ps e ids ⟨#[]⟩ = some s ∧ vocText ps e ids = (s, true) := by
  unfold vocText at h ⊢
  by_cases c : vocOk ps e = true ∧ ids.length ≤ 60
  · rw [if_pos c] at h ⊢
    cases hg : textGo ps e ids ⟨#[]⟩ with
    | none => rw [hg] at h; cases h
    | some s => exact ⟨c.1, c.2, s, rfl, rfl⟩
  · rw [if_neg c] at h
    cases h

theorem vocText_of {ps : List ByteArray} {e : Int} {ids : List Int} (h1 : vocOk ps e = true) (h2 : ids.length ≤ 60) {s : ByteArray} (h : textGo ps e ids ⟨#[]⟩ = some s) : vocText ps e ids = (s, true) := by
  unfold vocText
  rw [if_pos ⟨h1, h2⟩, h]
  rfl

theorem vocText_no {ps : List ByteArray} {e : Int} {ids : List Int} (h : ∃ x ∈ ids, ¬ (0 ≤ x ∧ x < (ps.length : Int))) : vocText ps e ids = (⟨#[]⟩, false) := by
  unfold vocText
  split
  · rw [textGo_bad ps e ids _ h]; rfl
  · rfl

theorem textGo_size {ps : List ByteArray} {e : Int} (hs : ∀ p ∈ ps, p.size ≤ 6) : ∀ (ids : List Int) (acc s : ByteArray), textGo ps e ids acc = some s → s.size ≤ acc.size + 6 * ids.length
  | [], acc, s, h => by rw [textGo] at h; injection h with h; subst h; simp
  | i :: r, acc, s, h => by
    rw [textGo] at h
    by_cases c : 0 ≤ i ∧ i < (ps.length : Int)
    · rw [if_pos c] at h
      by_cases c2 : i = e
      · rw [if_pos c2] at h
        have := textGo_size hs r acc s h
        simp only [List.length_cons]
        omega
      · rw [if_neg c2] at h
        have := textGo_size hs r _ s h
        have hm := hs _ (rdOf_mem ByteArray.empty ps i c.1 c.2)
        rw [ByteArray.size_append] at this
        simp only [List.length_cons]
        omega
    · rw [if_neg c] at h
      cases h

/-! ### A text that is cut into pieces -/
/-- May piece i be taken from the text t? -/
def fitsAt (ps : List ByteArray) (e : Int) (t : ByteArray) (i : Int) : Prop := i ≠ e ∧ 0 < (rdOf ByteArray.empty ps i).size ∧ (rdOf ByteArray.empty ps i).size ≤ t.size ∧ t.extract 0 (rdOf ByteArray.empty ps i).size = rdOf ByteArray.empty ps i

open Classical in
/-- The scan over the pieces from i on; d are left. -/
noncomputable def bestGo (ps : List ByteArray) (e : Int) (t : ByteArray) : Nat → Int → Int → Int
  | 0, _, b => b
  | d + 1, i, b => if fitsAt ps e t i ∧ (b < 0 ∨ (rdOf ByteArray.empty ps i).size > (rdOf ByteArray.empty ps b).size) then bestGo ps e t d (i + 1) i else bestGo ps e t d (i + 1) b

noncomputable def best (ps : List ByteArray) (e : Int) (t : ByteArray) : Int := bestGo ps e t ps.length 0 (-1)

/-- The cut, with as many rounds as there are bytes. -/
noncomputable def longGo (ps : List ByteArray) (e : Int) : Nat → ByteArray → List Int → List Int × Bool
  | 0, _, _ => ([], false)
  | n + 1, t, out => if t.size = 0 then (out, true) else if best ps e t < 0 ∨ out.length ≥ 60 then ([], false) else longGo ps e n (t.extract (rdOf ByteArray.empty ps (best ps e t)).size t.size) (out ++ [best ps e t])

noncomputable def vocLong (ps : List ByteArray) (e : Int) (t : ByteArray) : List Int × Bool := if vocOk ps e = true then longGo ps e (t.size + 1) t [] else ([], false)

/-- What the scan knows of what it has: it is none, and none fits so far; or it fits, the others so far are no longer, and those ahead of it shorter. -/
def BestInv (ps : List ByteArray) (e : Int) (t : ByteArray) (i b : Int) : Prop :=
  (b = -1 ∧ ∀ j, 0 ≤ j → j < i → ¬ fitsAt ps e t j) ∨
  (0 ≤ b ∧ b < i ∧ fitsAt ps e t b ∧ (∀ j, 0 ≤ j → j < i → fitsAt ps e t j → (rdOf ByteArray.empty ps j).size ≤ (rdOf ByteArray.empty ps b).size) ∧ (∀ j, 0 ≤ j → j < b → fitsAt ps e t j → (rdOf ByteArray.empty ps j).size < (rdOf ByteArray.empty ps b).size))

theorem bestInv_step {ps : List ByteArray} {e : Int} {t : ByteArray} {i b : Int} (hi : 0 ≤ i) (h : BestInv ps e t i b) :
    (fitsAt ps e t i ∧ (b < 0 ∨ (rdOf ByteArray.empty ps i).size > (rdOf ByteArray.empty ps b).size) → BestInv ps e t (i + 1) i) ∧
    (¬ (fitsAt ps e t i ∧ (b < 0 ∨ (rdOf ByteArray.empty ps i).size > (rdOf ByteArray.empty ps b).size)) → BestInv ps e t (i + 1) b) := by
  constructor
  · rintro ⟨hf, hc⟩
    refine Or.inr ⟨hi, by omega, hf, fun j j0 j1 hj => ?_, fun j j0 j1 hj => ?_⟩
    · by_cases hji : j = i
      · subst hji; exact Nat.le_refl _
      · rcases h with ⟨rfl, hn⟩ | ⟨b0, b1, bf, hle, _⟩
        · exact absurd hj (hn j j0 (by omega))
        · have := hle j j0 (by omega) hj
          omega
    · rcases h with ⟨rfl, hn⟩ | ⟨b0, b1, bf, hle, _⟩
      · exact absurd hj (hn j j0 j1)
      · have := hle j j0 j1 hj
        omega
  · intro hc
    rcases h with ⟨rfl, hn⟩ | ⟨b0, b1, bf, hle, hlt⟩
    · refine Or.inl ⟨rfl, fun j j0 j1 hj => ?_⟩
      by_cases hji : j = i
      · subst hji; exact hc ⟨hj, Or.inl (by omega)⟩
      · exact hn j j0 (by omega) hj
    · refine Or.inr ⟨b0, by omega, bf, fun j j0 j1 hj => ?_, hlt⟩
      by_cases hji : j = i
      · subst hji
        by_cases hsz : (rdOf ByteArray.empty ps j).size > (rdOf ByteArray.empty ps b).size
        · exact absurd ⟨hj, Or.inr hsz⟩ hc
        · omega
      · exact hle j j0 (by omega) hj

theorem bestGo_inv (ps : List ByteArray) (e : Int) (t : ByteArray) : ∀ (d : Nat) (i b : Int), 0 ≤ i → BestInv ps e t i b → BestInv ps e t (i + d) (bestGo ps e t d i b)
  | 0, i, b, _, h => by rw [bestGo]; simpa using h
  | d + 1, i, b, hi, h => by
    rw [bestGo, show i + ((d + 1 : Nat) : Int) = i + 1 + (d : Int) by omega]
    split
    · rename_i hc
      exact bestGo_inv ps e t d (i + 1) i (by omega) ((bestInv_step hi h).1 hc)
    · rename_i hc
      exact bestGo_inv ps e t d (i + 1) b (by omega) ((bestInv_step hi h).2 hc)

theorem best_inv (ps : List ByteArray) (e : Int) (t : ByteArray) : BestInv ps e t ps.length (best ps e t) := by
  have := bestGo_inv ps e t ps.length 0 (-1) (by omega) (Or.inl ⟨rfl, fun j j0 j1 => by omega⟩)
  rwa [Int.zero_add] at this

theorem plain_eq (ps : List ByteArray) (e i : Int) (h0 : 0 ≤ i) (h1 : i < (ps.length : Int)) (hl : ps.length ≤ 1000000000000000) :
    spec_l1Plain.f ps e i = some (decide (i ≠ e ∧ 0 < (rdOf ByteArray.empty ps i).size)) ∧ impl_Voc_plain.f ps e i = some (decide (i ≠ e ∧ 0 < (rdOf ByteArray.empty ps i).size)) := by
  have hw : wrap64 ((ps.length : Int) - 1) = (ps.length : Int) - 1 := w64 (by omega) (by omega)
  constructor
  · unfold spec_l1Plain.f spec_l6In.f
    rw [hw, if_pos h0, Option.bind_some, if_pos (decide_eq_true (by omega))]
    by_cases he : i = e
    · rw [if_pos he]; simp [he]
    · rw [if_neg he, if_pos h0, if_pos h1]; simp [he]
  · unfold impl_Voc_plain.f
    by_cases he : i = e
    · rw [if_pos he]; simp [he]
    · rw [if_neg he, if_pos h0, if_pos h1]
      congr 1
      rw [Bool.eq_iff_iff, bne_iff_ne, decide_eq_true_eq, ne_eq, toList_nil]
      omega

theorem begins_eq (t p : ByteArray) (ht : t.size ≤ 1000000000000000) :
    spec_l1Fits.f t p = some (decide (p.size ≤ t.size ∧ t.extract 0 p.size = p)) ∧ strings_HasPrefix.f t p = some (decide (p.size ≤ t.size ∧ t.extract 0 p.size = p)) := by
  constructor
  · unfold spec_l1Fits.f
    by_cases h : (p.size : Int) ≤ (t.size : Int)
    · rw [if_pos h, if_pos (by omega), Int.toNat_natCast]
      congr 1
      rw [Bool.eq_iff_iff, beq_iff_eq, decide_eq_true_eq, toList_inj]
      exact ⟨fun h' => ⟨by omega, h'⟩, fun h' => h'.2⟩
    · rw [if_neg h]
      congr 1
      exact (decide_eq_false (by omega)).symm
  · unfold strings_HasPrefix.f stringslite_HasPrefix.f
    by_cases h : (p.size : Int) ≤ (t.size : Int)
    · rw [if_pos h, if_pos (by omega), if_pos h, Int.toNat_natCast, Option.bind_some]
      congr 1
      rw [Bool.eq_iff_iff, beq_iff_eq, decide_eq_true_eq, toList_inj]
      exact ⟨fun h' => ⟨by omega, h'⟩, fun h' => h'.2⟩
    · rw [if_neg (by omega), Option.bind_some]
      congr 1
      exact (decide_eq_false (by omega)).symm

/-- What stands behind the scan. -/
noncomputable def longNext (ps : List ByteArray) (e : Int) (n : Nat) (t : ByteArray) (out : List Int) (b : Int) : List Int × Bool :=
  if b < 0 ∨ out.length ≥ 60 then ([], false) else longGo ps e n (t.extract (rdOf ByteArray.empty ps b).size t.size) (out ++ [b])

theorem spec_voclong_l1 (ps : List ByteArray) (e : Int) (hl : ps.length ≤ 1000000000000000) (t : ByteArray) (ht : t.size ≤ 1000000000000000) (out : List Int) (ho : out.length ≤ 60) (n : Nat)
    (hnext : ∀ b, 0 ≤ b → b < (ps.length : Int) → fitsAt ps e t b → out.length < 60 → Ev (fun k => spec_VocLong.l0 k (t.extract (rdOf ByteArray.empty ps b).size t.size) (out ++ [b]) ps e) (longGo ps e n (t.extract (rdOf ByteArray.empty ps b).size t.size) (out ++ [b]))) :
    ∀ (d : Nat) (i b : Int), 0 ≤ i → i + d = (ps.length : Int) → (b = -1 ∨ (0 ≤ b ∧ b < i ∧ fitsAt ps e t b)) → Ev (fun k => spec_VocLong.l1 k t out b i ps e) (longNext ps e n t out (bestGo ps e t d i b)) := by
  intro d
  induction d with
  | zero =>
    intro i b hi hd hb
    rw [bestGo]
    unfold longNext
    refine Ev.step (fun k => by rw [spec_VocLong.l1]) ?_
    refine ifn (by omega) ?_
    by_cases hb0 : b < 0
    · refine ifp hb0 ?_
      rw [if_pos (Or.inl hb0)]
      exact Ev.now _
    · refine ifn hb0 ?_
      have hf : fitsAt ps e t b := hb.elim (fun h => by omega) (fun h => h.2.2)
      have hfs := hf.2.2.1
      by_cases ho2 : (out.length : Int) ≥ 60
      · refine ifp ho2 ?_
        rw [if_pos (Or.inr (by omega))]
        exact Ev.now _
      · refine ifn ho2 ?_
        rw [if_neg (by omega)]
        refine ifp (by omega) (ifp (by omega) (ifp (by omega) (ifp (by omega) (ifp (by omega) ?_))))
        rw [Int.toNat_natCast]
        exact hnext b (by omega) (by omega) hf (by omega)
  | succ d ih =>
    intro i b hi hd hb
    have hi1 : wrap64 (i + 1) = i + 1 := w64 (by omega) (by omega)
    have yes : fitsAt ps e t i → Ev (fun k => spec_VocLong.l1 k t out i (i + 1) ps e) (longNext ps e n t out (bestGo ps e t d (i + 1) i)) := fun hf => ih (i + 1) i (by omega) (by omega) (Or.inr ⟨hi, by omega, hf⟩)
    have no : Ev (fun k => spec_VocLong.l1 k t out b (i + 1) ps e) (longNext ps e n t out (bestGo ps e t d (i + 1) b)) := ih (i + 1) b (by omega) (by omega) (hb.imp id fun h => ⟨h.1, by omega, h.2.2⟩)
    refine Ev.step (fun k => by rw [spec_VocLong.l1]) ?_
    refine ifp (by omega) ?_
    rw [hi1, bestGo]
    refine b0 (plain_eq ps e i hi (by omega) hl).1 ?_
    by_cases c1 : i ≠ e ∧ 0 < (rdOf ByteArray.empty ps i).size
    · refine ifp (decide_eq_true c1) ?_
      refine ifp hi ?_
      refine b0 (begins_eq t _ ht).1 ?_
      by_cases c2 : (rdOf ByteArray.empty ps i).size ≤ t.size ∧ t.extract 0 (rdOf ByteArray.empty ps i).size = rdOf ByteArray.empty ps i
      · have hf : fitsAt ps e t i := ⟨c1.1, c1.2, c2.1, c2.2⟩
        refine ifp (decide_eq_true c2) ?_
        by_cases c3 : b < 0
        · refine ifp c3 ?_
          rw [if_pos ⟨hf, Or.inl c3⟩]
          exact yes hf
        · refine ifn c3 ?_
          refine ifp (by omega) (ifp (by omega) ?_)
          by_cases c4 : ((rdOf ByteArray.empty ps i).size : Int) > ((rdOf ByteArray.empty ps b).size : Int)
          · refine ifp c4 ?_
            rw [if_pos ⟨hf, Or.inr (by omega)⟩]
            exact yes hf
          · refine ifn c4 ?_
            rw [if_neg (fun h => by rcases h.2 with h | h <;> omega)]
            exact no
      · refine ifn (by simpa using c2) ?_
        rw [if_neg (fun h => c2 ⟨h.1.2.2.1, h.1.2.2.2⟩)]
        exact no
    · refine ifn (by simpa using c1) ?_
      rw [if_neg (fun h => c1 ⟨h.1.1, h.1.2.1⟩)]
      exact no

theorem impl_voclong_l1 (ps : List ByteArray) (e : Int) (hl : ps.length ≤ 1000000000000000) (t : ByteArray) (ht : t.size ≤ 1000000000000000) (out : List Int) (ho : out.length ≤ 60) (n : Nat)
    (hnext : ∀ b, 0 ≤ b → b < (ps.length : Int) → fitsAt ps e t b → out.length < 60 → Ev (fun k => impl_VocLong.l0 k (t.extract (rdOf ByteArray.empty ps b).size t.size) (out ++ [b]) ps e) (longGo ps e n (t.extract (rdOf ByteArray.empty ps b).size t.size) (out ++ [b]))) :
    ∀ (d : Nat) (i b : Int), 0 ≤ i → i + d = (ps.length : Int) → (b = -1 ∨ (0 ≤ b ∧ b < i ∧ fitsAt ps e t b)) → Ev (fun k => impl_VocLong.l1 k t out b ps (ps.length : Int) i ps e) (longNext ps e n t out (bestGo ps e t d i b)) := by
  intro d
  induction d with
  | zero =>
    intro i b hi hd hb
    rw [bestGo]
    unfold longNext
    refine Ev.step (fun k => by rw [impl_VocLong.l1]) ?_
    refine ifn (by omega) ?_
    by_cases hb0 : b < 0
    · refine ifp hb0 ?_
      rw [if_pos (Or.inl hb0)]
      exact Ev.now _
    · refine ifn hb0 ?_
      have hf : fitsAt ps e t b := hb.elim (fun h => by omega) (fun h => h.2.2)
      have hfs := hf.2.2.1
      by_cases ho2 : (out.length : Int) = 60
      · refine ifp ho2 ?_
        rw [if_pos (Or.inr (by omega))]
        exact Ev.now _
      · refine ifn ho2 ?_
        rw [if_neg (by omega)]
        refine ifp (by omega) (ifp (by omega) (ifp (by omega) (ifp (by omega) (ifp (by omega) ?_))))
        rw [Int.toNat_natCast]
        exact hnext b (by omega) (by omega) hf (by omega)
  | succ d ih =>
    intro i b hi hd hb
    have hi1 : wrap64 (i + 1) = i + 1 := w64 (by omega) (by omega)
    have yes : fitsAt ps e t i → Ev (fun k => impl_VocLong.l1 k t out i ps (ps.length : Int) (i + 1) ps e) (longNext ps e n t out (bestGo ps e t d (i + 1) i)) := fun hf => ih (i + 1) i (by omega) (by omega) (Or.inr ⟨hi, by omega, hf⟩)
    have no : Ev (fun k => impl_VocLong.l1 k t out b ps (ps.length : Int) (i + 1) ps e) (longNext ps e n t out (bestGo ps e t d (i + 1) b)) := ih (i + 1) b (by omega) (by omega) (hb.imp id fun h => ⟨h.1, by omega, h.2.2⟩)
    refine Ev.step (fun k => by rw [impl_VocLong.l1]) ?_
    refine ifp (by omega) ?_
    refine ifp hi ?_
    refine ifp (by omega) ?_
    rw [hi1, bestGo]
    refine b0 (plain_eq ps e i hi (by omega) hl).2 ?_
    by_cases c1 : i ≠ e ∧ 0 < (rdOf ByteArray.empty ps i).size
    · refine ifp (decide_eq_true c1) ?_
      refine b0 (begins_eq t _ ht).2 ?_
      by_cases c2 : (rdOf ByteArray.empty ps i).size ≤ t.size ∧ t.extract 0 (rdOf ByteArray.empty ps i).size = rdOf ByteArray.empty ps i
      · have hf : fitsAt ps e t i := ⟨c1.1, c1.2, c2.1, c2.2⟩
        refine ifp (decide_eq_true c2) ?_
        by_cases c3 : b < 0
        · refine ifp c3 ?_
          rw [if_pos ⟨hf, Or.inl c3⟩]
          exact yes hf
        · refine ifn c3 ?_
          refine ifp (by omega) (ifp (by omega) ?_)
          by_cases c4 : ((rdOf ByteArray.empty ps i).size : Int) > ((rdOf ByteArray.empty ps b).size : Int)
          · refine ifp c4 ?_
            rw [if_pos ⟨hf, Or.inr (by omega)⟩]
            exact yes hf
          · refine ifn c4 ?_
            rw [if_neg (fun h => by rcases h.2 with h | h <;> omega)]
            exact no
      · refine ifn (by simpa using c2) ?_
        rw [if_neg (fun h => c2 ⟨h.1.2.2.1, h.1.2.2.2⟩)]
        exact no
    · refine ifn (by simpa using c1) ?_
      rw [if_neg (fun h => c1 ⟨h.1.1, h.1.2.1⟩)]
      exact no

theorem cut_size {ps : List ByteArray} {e b : Int} {t : ByteArray} (hf : fitsAt ps e t b) : (t.extract (rdOf ByteArray.empty ps b).size t.size).size < t.size := by
  have h1 := hf.2.1
  have h2 := hf.2.2.1
  rw [ByteArray.size_extract]
  omega

theorem spec_voclong_l0 (ps : List ByteArray) (e : Int) (hl : ps.length ≤ 1000000000000000) : ∀ (n : Nat) (t : ByteArray) (out : List Int), t.size < n → t.size ≤ 1000000000000000 → out.length ≤ 60 → Ev (fun k => spec_VocLong.l0 k t out ps e) (longGo ps e n t out) := by
  intro n
  induction n with
  | zero => intro t out h; omega
  | succ n ih =>
    intro t out h ht ho
    rw [longGo]
    refine Ev.step (fun k => by rw [spec_VocLong.l0]) ?_
    by_cases hz : t.size = 0
    · rw [if_pos hz]
      exact ifn (by omega) (Ev.now _)
    · rw [if_neg hz]
      refine ifp (by omega) ?_
      exact spec_voclong_l1 ps e hl t ht out ho n (fun b _ _ hf hlt => ih _ _ (by have := cut_size hf; omega) (by have := cut_size hf; omega) (by simp; omega)) ps.length 0 (-1) (by omega) (by omega) (Or.inl rfl)

theorem impl_voclong_l0 (ps : List ByteArray) (e : Int) (hl : ps.length ≤ 1000000000000000) : ∀ (n : Nat) (t : ByteArray) (out : List Int), t.size < n → t.size ≤ 1000000000000000 → out.length ≤ 60 → Ev (fun k => impl_VocLong.l0 k t out ps e) (longGo ps e n t out) := by
  intro n
  induction n with
  | zero => intro t out h; omega
  | succ n ih =>
    intro t out h ht ho
    rw [longGo]
    refine Ev.step (fun k => by rw [impl_VocLong.l0]) ?_
    by_cases hz : t.size = 0
    · rw [if_pos hz]
      exact ifp (toList_nil.2 hz) (Ev.now _)
    · rw [if_neg hz]
      refine ifn (fun h => hz (toList_nil.1 h)) ?_
      exact impl_voclong_l1 ps e hl t ht out ho n (fun b _ _ hf hlt => ih _ _ (by have := cut_size hf; omega) (by have := cut_size hf; omega) (by simp; omega)) ps.length 0 (-1) (by omega) (by omega) (Or.inl rfl)

theorem spec_voclong_ev (ps : List ByteArray) (e : Int) (hl : ps.length ≤ 1000000000000000) (t : ByteArray) (ht : t.size ≤ 1000000000000000) : Ev (fun k => spec_VocLong.f k ps e t) (vocLong ps e t) := by
  unfold spec_VocLong.f vocLong
  refine bs ?_
  refine Ev.bind (spec_vocok_ev ps e hl) ?_
  by_cases hv : vocOk ps e = true
  · rw [if_pos hv]
    refine ifp hv ?_
    exact spec_voclong_l0 ps e hl (t.size + 1) t [] (by omega) ht (by simp)
  · rw [if_neg hv]
    exact ifn hv (Ev.now _)

theorem impl_voclong_ev (ps : List ByteArray) (e : Int) (hl : ps.length ≤ 1000000000000000) (t : ByteArray) (ht : t.size ≤ 1000000000000000) : Ev (fun k => impl_VocLong.f k ps e t) (vocLong ps e t) := by
  unfold impl_VocLong.f vocLong
  refine bs ?_
  refine Ev.bind (impl_vocok_ev ps e hl) ?_
  by_cases hv : vocOk ps e = true
  · rw [if_pos hv]
    refine ifp hv ?_
    exact impl_voclong_l0 ps e hl (t.size + 1) t [] (by omega) ht (by simp)
  · rw [if_neg hv]
    exact ifn hv (Ev.now _)

/-- What the cut tells: the pieces, each the best of the rest. -/
inductive Cut (ps : List ByteArray) (e : Int) : ByteArray → List Int → Prop
  | done {t : ByteArray} (h : t.size = 0) : Cut ps e t []
  | piece {t : ByteArray} {b : Int} {r : List Int} (h0 : b = best ps e t) (h1 : 0 ≤ b) (h2 : b < (ps.length : Int)) (hf : fitsAt ps e t b) (hr : Cut ps e (t.extract (rdOf ByteArray.empty ps b).size t.size) r) : Cut ps e t (b :: r)

theorem longGo_cut (ps : List ByteArray) (e : Int) : ∀ (n : Nat) (t : ByteArray) (out ids : List Int), longGo ps e n t out = (ids, true) → out.length ≤ 60 → ∃ r, ids = out ++ r ∧ Cut ps e t r ∧ ids.length ≤ 60
  | 0, t, out, ids, h, _ => by rw [longGo] at h; cases h
  | n + 1, t, out, ids, h, ho => by
    rw [longGo] at h
    by_cases hz : t.size = 0
    · rw [if_pos hz] at h
      injection h with h
      exact ⟨[], by simp [h], Cut.done hz, by rw [← h]; exact ho⟩
    · rw [if_neg hz] at h
      by_cases hc : best ps e t < 0 ∨ out.length ≥ 60
      · rw [if_pos hc] at h
        cases h
      · rw [if_neg hc] at h
        obtain ⟨r, h1, h2, h3⟩ := longGo_cut ps e n _ _ ids h (by simp; omega)
        rcases best_inv ps e t with ⟨hb, _⟩ | ⟨b0, b1, bf, _, _⟩
        · omega
        · exact ⟨best ps e t :: r, by rw [h1, List.append_assoc]; rfl, Cut.piece rfl b0 b1 bf h2, h3⟩

theorem longGo_false (ps : List ByteArray) (e : Int) : ∀ (n : Nat) (t : ByteArray) (out : List Int), (longGo ps e n t out).2 = false → (longGo ps e n t out).1 = []
  | 0, t, out, _ => by rw [longGo]
  | n + 1, t, out, h => by
    rw [longGo] at h ⊢
    by_cases hz : t.size = 0
    · rw [if_pos hz] at h; cases h
    · rw [if_neg hz] at h ⊢
      by_cases hc : best ps e t < 0 ∨ out.length ≥ 60
      · rw [if_pos hc]
      · rw [if_neg hc] at h ⊢
        exact longGo_false ps e n _ _ h

theorem vocLong_len (ps : List ByteArray) (e : Int) (t : ByteArray) : (vocLong ps e t).1.length ≤ 60 := by
  unfold vocLong
  split
  · obtain ⟨r, hr⟩ : ∃ r, r = longGo ps e (t.size + 1) t [] := ⟨_, rfl⟩
    rw [← hr]
    obtain ⟨ids, ok⟩ := r
    cases ok with
    | true =>
      obtain ⟨_, _, _, h⟩ := longGo_cut ps e _ t [] ids hr.symm (by simp)
      exact h
    | false =>
      have := longGo_false ps e (t.size + 1) t [] (by rw [← hr])
      rw [← hr] at this
      dsimp only at this
      rw [this]
      simp
  · simp

/-! ### Parts of texts -/
theorem ext_list {s t : ByteArray} (h : s.data.toList = t.data.toList) : s = t := by
  cases s
  cases t
  congr
  exact Array.toList_inj.1 h

theorem drop_list (s : ByteArray) (a : Nat) : (s.extract a s.size).data.toList = s.data.toList.drop a := by
  rw [ByteArray.data_extract, Array.toList_extract, List.extract_eq_take_drop]
  rw [List.take_of_length_le]
  rw [List.length_drop, Array.length_toList]
  exact Nat.le_refl _

theorem take_list (s : ByteArray) (a : Nat) : (s.extract 0 a).data.toList = s.data.toList.take a := by
  rw [ByteArray.data_extract, Array.toList_extract, List.extract_eq_take_drop]
  simp

theorem cut_append {s p : ByteArray} (h : s.extract 0 p.size = p) : p ++ s.extract p.size s.size = s := by
  apply ext_list
  rw [ByteArray.data_append, Array.toList_append, drop_list]
  have : p.data.toList = s.data.toList.take p.size := by rw [← take_list, h]
  rw [this, List.take_append_drop]

theorem cut_cut (s : ByteArray) (a m : Nat) : (s.extract a s.size).extract m (s.extract a s.size).size = s.extract (a + m) s.size := by
  apply ext_list
  rw [drop_list, drop_list, drop_list, List.drop_drop]

/-! ### Cuts: plain laws -/
theorem best_first {ps : List ByteArray} {e : Int} {t : ByteArray} (h0 : 0 ≤ best ps e t) : fitsAt ps e t (best ps e t) ∧ (∀ k, 0 ≤ k → k < (ps.length : Int) → fitsAt ps e t k → (rdOf ByteArray.empty ps k).size ≤ (rdOf ByteArray.empty ps (best ps e t)).size) ∧
    ∀ k, 0 ≤ k → k < best ps e t → k ≠ e → rdOf ByteArray.empty ps k ≠ rdOf ByteArray.empty ps (best ps e t) := by
  rcases best_inv ps e t with ⟨hb, _⟩ | ⟨_, _, bf, hle, hlt⟩
  · omega
  · refine ⟨bf, hle, fun k k0 k1 ke hk => ?_⟩
    have := hlt k k0 k1 ⟨ke, by rw [hk]; exact bf.2.1, by rw [hk]; exact bf.2.2.1, by rw [hk]; exact bf.2.2.2⟩
    rw [hk] at this
    omega

theorem cut_first {ps : List ByteArray} {e : Int} {t : ByteArray} {ids : List Int} (h : Cut ps e t ids) : ∀ b ∈ ids, 0 ≤ b ∧ b < (ps.length : Int) ∧ b ≠ e ∧ 0 < (rdOf ByteArray.empty ps b).size ∧ ∀ k, 0 ≤ k → k < b → k ≠ e → rdOf ByteArray.empty ps k ≠ rdOf ByteArray.empty ps b := by
  induction h with
  | done _ => intro b hb; simp at hb
  | piece h0 h1 h2 hf _ ih =>
    intro b hb
    rcases List.mem_cons.1 hb with rfl | hb
    · subst h0
      exact ⟨h1, h2, hf.1, hf.2.1, (best_first h1).2.2⟩
    · exact ih b hb

theorem cut_text {ps : List ByteArray} {e : Int} {t : ByteArray} {ids : List Int} (h : Cut ps e t ids) : textGo ps e ids ⟨#[]⟩ = some t := by
  induction h with
  | done h =>
    rw [textGo]
    congr 1
    apply ext_list
    exact (List.length_eq_zero_iff.1 (by rw [Array.length_toList]; exact h)).symm
  | @piece t b r h0 h1 h2 hf _ ih =>
    rw [textGo, if_pos ⟨h1, h2⟩, if_neg hf.1, textGo_acc, ih, Option.map_some]
    congr 1
    have e : (⟨#[]⟩ : ByteArray) ++ rdOf ByteArray.empty ps b = rdOf ByteArray.empty ps b := by
      apply ext_list
      rw [ByteArray.data_append]
      simp
    rw [e]
    exact cut_append hf.2.2.2

theorem vocLong_ok {ps : List ByteArray} {e : Int} {t : ByteArray} (h : (vocLong ps e t).2 = true) : vocOk ps e = true ∧ Cut ps e t (vocLong ps e t).1 ∧ (vocLong ps e t).1.length ≤ 60 := by
  unfold vocLong at h ⊢
  by_cases c : vocOk ps e = true
  · rw [if_pos c] at h ⊢
    obtain ⟨r, hr⟩ : ∃ r, r = longGo ps e (t.size + 1) t [] := ⟨_, rfl⟩
    rw [← hr] at h ⊢
    obtain ⟨ids, ok⟩ := r
    cases h
    obtain ⟨r, h1, h2, h3⟩ := longGo_cut ps e _ t [] ids hr.symm (by simp)
    rw [List.nil_append] at h1
    exact ⟨c, h1 ▸ h2, h3⟩
  · rw [if_neg c] at h
    cases h

theorem vocLong_none {ps : List ByteArray} {e : Int} {t : ByteArray} (h : (vocLong ps e t).2 = false) : (vocLong ps e t).1 = [] := by
  unfold vocLong at h ⊢
  by_cases c : vocOk ps e = true
  · rw [if_pos c] at h ⊢
    exact longGo_false ps e _ t [] h
  · rw [if_neg c]

/-! ### Two rows of numbers -/
theorem lfints_l0 (a b : List Int) (ha : a.length ≤ 1000000000000000) (hab : a.length = b.length) : ∀ (d i : Nat), i + d = a.length → Ev (fun k => laws_lfInts.l0 k a b (i : Int)) (decide (a.drop i = b.drop i)) := by
  intro d
  induction d with
  | zero =>
    intro i hi
    rw [List.drop_eq_nil_of_le (by omega), List.drop_eq_nil_of_le (by omega)]
    refine Ev.step (fun k => by rw [laws_lfInts.l0]) ?_
    exact ifn (by omega) (Ev_eq (Ev.now _) (by simp))
  | succ d ih =>
    intro i hi
    have h1 : i < a.length := by omega
    have h2 : i < b.length := by omega
    rw [List.drop_eq_getElem_cons h1, List.drop_eq_getElem_cons h2]
    refine Ev.step (fun k => by rw [laws_lfInts.l0]) ?_
    refine ifp (by omega) (ifp (by omega) (ifp (by omega) ?_))
    rw [rd_nat _ _ h1, rd_nat _ _ h2, show wrap64 ((i : Int) + 1) = ((i + 1 : Nat) : Int) by rw [w64 (by omega) (by omega)]; omega]
    by_cases hc : a[i] = b[i]
    · refine ifp hc ?_
      exact Ev_eq (ih (i + 1) (by omega)) (dec_cons hc)
    · refine ifn hc ?_
      exact Ev_eq (Ev.now _) (dec_ne hc)

theorem lfints_ev (a b : List Int) (ha : a.length ≤ 1000000000000000) : Ev (fun k => laws_lfInts.f k a b) (decide (a = b)) := by
  unfold laws_lfInts.f
  by_cases h : (a.length : Int) = (b.length : Int)
  · refine ifp h ?_
    have := lfints_l0 a b ha (by omega) a.length 0 (by omega)
    simpa using this
  · refine ifn h ?_
    refine Ev_eq (Ev.now _) (decide_eq_false ?_).symm
    intro e
    exact h (by rw [e])

/-! ### Drawn pieces and a text -/
theorem drawvoclong_l0 {b : List Int} (hb : Bytes b) (ps : List ByteArray) (e : Int) : ∀ (d : Nat) (s : ByteArray) (p : Int), 0 ≤ p → p + d * 10 ≤ 100000 → s.size + d * 4 ≤ 100 →
    ∃ t, Ev (fun k => spec_DrawVocLong.l0 k s (d : Int) b p ps e) (ps, e, t) ∧ t.size ≤ 300 := by
  intro d
  induction d with
  | zero =>
    intro s p h0 h1 hs
    obtain ⟨v, hv, v0, v1⟩ := pick_ev hb (p := p) (n := 20) h0 (by omega) (by omega)
    by_cases c0 : v = 0
    · obtain ⟨u, hu, u0, u1⟩ := pick_ev hb (p := p + 1) (n := 200) (by omega) (by omega) (by omega)
      obtain ⟨t, ht, hts⟩ := many_ev (⟨#[97]⟩ : ByteArray) (60 + u) (by omega) (by omega) (by rw [size_one]; omega)
      refine ⟨t, ?_, by rw [hts, size_one]; omega⟩
      refine Ev.step (fun k => by rw [spec_DrawVocLong.l0]) ?_
      refine ifn (by omega) ?_
      refine Ev.bind hv ?_
      refine ifp c0 ?_
      refine Ev.bind hu ?_
      rw [show wrap64 (60 + u) = 60 + u from w64 (by omega) (by omega)]
      refine Ev.bind ht ?_
      exact Ev.now _
    · refine ⟨s, ?_, by omega⟩
      refine Ev.step (fun k => by rw [spec_DrawVocLong.l0]) ?_
      refine ifn (by omega) ?_
      refine Ev.bind hv ?_
      exact ifn c0 (Ev.now _)
  | succ d ih =>
    intro s p h0 h1 hs
    obtain ⟨x, p1, hx, b1, b2, b3, b4⟩ := bytes_ev hb (p := p) (most := 3) h0 (by omega) (by omega) (by omega)
    obtain ⟨t, ht, htz⟩ := ih (s ++ x) p1 (by omega) (by omega) (by rw [ByteArray.size_append]; omega)
    refine ⟨t, ?_, htz⟩
    refine Ev.step (fun k => by rw [spec_DrawVocLong.l0]) ?_
    refine ifp (by omega) ?_
    refine Ev.bind hx ?_
    refine ifp (by dsimp only; omega) ?_
    rw [show wrap64 (((d + 1 : Nat) : Int) - 1) = (d : Int) by rw [w64 (by omega) (by omega)]; omega]
    exact ht

theorem drawvoclong_ev (l : List Int) (hw : ∀ x ∈ l, (Lit.int .u8 x).wf = true) :
    ∃ ps e t, Ev (fun k => spec_DrawVocLong.f k l) (ps, e, t) ∧ ps.length ≤ 42 ∧ (∀ x ∈ ps, x.size ≤ 8) ∧ t.size ≤ 300 := by
  obtain ⟨b, ho, hb⟩ := open_ev l hw
  obtain ⟨ps, e, p, hv, p0, p1, a1, a2, a3, a4⟩ := voc_ev hb 0 (by omega) (by omega)
  obtain ⟨v, hn, v0, v1⟩ := pick_ev hb (p := p) (n := 8) (by omega) (by omega) (by omega)
  obtain ⟨d, hd⟩ : ∃ d : Nat, (d : Int) = v := ⟨v.toNat, by omega⟩
  obtain ⟨t, ht, hz⟩ := drawvoclong_l0 hb ps e d ⟨#[]⟩ (p + 1) (by omega) (by omega) (by rw [size_nil]; omega)
  refine ⟨ps, e, t, ?_, a1, a2, hz⟩
  unfold spec_DrawVocLong.f
  refine b0 ho ?_
  refine Ev.bind hv ?_
  refine Ev.bind hn ?_
  rw [← hd]
  exact ht

theorem lfbegins_eq (t p : ByteArray) (ht : t.size ≤ 1000000000000000) : laws_lfBegins.f t p = some (decide (p.size ≤ t.size ∧ t.extract 0 p.size = p)) := by
  have := (begins_eq t p ht).1
  unfold spec_l1Fits.f at this
  unfold laws_lfBegins.f
  exact this

theorem FnVocLong (l0 : List Int) (gl0 : l0.length ≤ maxLen ∧ ∀ x ∈ l0, (Lit.int .u8 x).wf = true) : ∃ k, laws_FnVocLong.f k l0 = some true := by
  obtain ⟨hm, hw⟩ := gl0
  refine Ev.rounds (g := fun k => laws_FnVocLong.f k l0) ?_
  unfold laws_FnVocLong.f
  by_cases h0 : (l0.length : Int) > 1048576
  · exact ifp h0 (Ev.now _)
  refine ifn h0 ?_
  obtain ⟨ps, e, t, hd, hp, hps, ht⟩ := drawvoclong_ev l0 hw
  refine Ev.bind hd ?_
  refine Ev.bind (spec_voclong_ev ps e (by omega) t (by omega)) ?_
  refine Ev.bind (impl_voclong_ev ps e (by omega) t (by omega)) ?_
  have hlen := vocLong_len ps e t
  refine Ev.bind (lfints_ev _ _ (by omega)) ?_
  refine ifp (by simp) ?_
  refine ifn (by simp) ?_
  refine Ev.step (fun k => by rw [laws_FnVocLong.j0]) ?_
  obtain ⟨L, hL⟩ : ∃ L, L = vocLong ps e t := ⟨_, rfl⟩
  dsimp only
  rw [← hL]
  rw [← hL] at hlen
  cases hok : L.2 with
  | false =>
    have hnil := vocLong_none (hL ▸ hok)
    rw [← hL] at hnil
    refine ifp rfl ?_
    refine Ev.bind (lfints_ev _ _ (by omega)) ?_
    refine ifp (by simp) ?_
    refine ifp (by simp) ?_
    refine ifn (by simp) ?_
    rw [hnil]
    exact Ev_eq (Ev.now _) (by simp)
  | true =>
    refine ifn (by simp) ?_
    obtain ⟨o1, o2, o3⟩ := vocLong_ok (hL ▸ hok)
    rw [← hL] at o2
    obtain ⟨ids, hids⟩ : ∃ ids, ids = L.1 := ⟨_, rfl⟩
    rw [← hids] at o2 hlen ⊢
    have hsz := (vocOk_parts o1).2.2.2.2
    refine Ev.bind (impl_voctext_ev ps e (by omega) ids) ?_
    rw [vocText_of o1 (by omega) (cut_text o2)]
    dsimp only
    have main : ∀ (d i at_ : Nat), i + d = ids.length → at_ ≤ t.size → Cut ps e (t.extract at_ t.size) (ids.drop i) → Ev (fun k => laws_FnVocLong.l0 k t ids t true (at_ : Int) (i : Int) ps e) true := by
      intro d
      induction d with
      | zero =>
        intro i at_ hi ha hc
        refine Ev.step (fun k => by rw [laws_FnVocLong.l0]) ?_
        refine ifn (by omega) (ifp rfl ?_)
        exact Ev_eq (Ev.now _) (by simp)
      | succ d ih =>
        intro i at_ hi ha hc
        have hlt : i < ids.length := by omega
        rw [List.drop_eq_getElem_cons hlt] at hc
        obtain ⟨x, hx⟩ : ∃ x, x = ids[i] := ⟨_, rfl⟩
        rw [← hx] at hc
        cases hc with
        | piece c0 c1 c2 cf cr =>
          have hle := (best_first (c0 ▸ c1)).2.1
          rw [← c0] at hle
          have hxs := cf.2.2.1
          rw [ByteArray.size_extract] at hxs
          rw [cut_cut] at cr
          refine Ev.step (fun k => by rw [laws_FnVocLong.l0]) ?_
          refine ifp (by omega) ?_
          have inner : ∀ (c : Nat) (j : Int), 0 ≤ j → j + c = (ps.length : Int) → Ev (fun k => laws_FnVocLong.l1 k t ids t true (at_ : Int) (i : Int) j ps e) true := by
            intro c
            induction c with
            | zero =>
              intro j j0 hj
              refine Ev.step (fun k => by rw [laws_FnVocLong.l1]) ?_
              refine ifn (by omega) (ifp (by omega) (ifp (by omega) ?_))
              rw [rd_nat _ _ hlt, ← hx]
              refine ifp c1 (ifp c2 ?_)
              rw [show wrap64 ((i : Int) + 1) = ((i + 1 : Nat) : Int) by rw [w64 (by omega) (by omega)]; omega]
              rw [show wrap64 ((at_ : Int) + ((rdOf ByteArray.empty ps x).size : Int)) = ((at_ + (rdOf ByteArray.empty ps x).size : Nat) : Int) by rw [w64 (by omega) (by omega)]; omega]
              exact ih (i + 1) (at_ + (rdOf ByteArray.empty ps x).size) (by omega) (by omega) cr
            | succ c ihc =>
              intro j j0 hj
              have hj1 : wrap64 (j + 1) = j + 1 := w64 (by omega) (by omega)
              refine Ev.step (fun k => by rw [laws_FnVocLong.l1]) ?_
              refine ifp (by omega) ?_
              rw [hj1]
              by_cases hje : j = e
              · refine ifp hje ?_
                exact ihc (j + 1) (by omega) (by omega)
              · refine ifn hje (ifp (by omega) (ifp (by omega) (ifp j0 ?_)))
                rw [Int.toNat_natCast]
                refine b0 (lfbegins_eq _ _ (by rw [ByteArray.size_extract]; omega)) ?_
                by_cases hbg : (rdOf ByteArray.empty ps j).size ≤ (t.extract at_ t.size).size ∧ (t.extract at_ t.size).extract 0 (rdOf ByteArray.empty ps j).size = rdOf ByteArray.empty ps j
                · refine ifp (decide_eq_true hbg) (ifp (by omega) (ifp (by omega) ?_))
                  rw [rd_nat _ _ hlt, ← hx]
                  refine ifp c1 (ifp c2 (ifn ?_ (ihc (j + 1) (by omega) (by omega))))
                  intro hgt
                  have := hle j j0 (by omega) ⟨hje, by omega, hbg.1, hbg.2⟩
                  omega
                · refine ifn (by simpa using hbg) ?_
                  exact ihc (j + 1) (by omega) (by omega)
          exact inner ps.length 0 (by omega) (by omega)
    refine main ids.length 0 0 (by omega) (by omega) ?_
    have e0 : t.extract 0 t.size = t := by apply ext_list; rw [drop_list, List.drop_zero]
    rw [List.drop_zero, e0]
    exact o2

end Go.Proofs.Ytaacknjgfipejaa.Pure
