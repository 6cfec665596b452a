/- The end has no bytes, wherever it stands: for every code, without a condition. -/
import Derived.Test.YtaacknjgfipejaaPx12
import Derived.Test.YtaacknjgfipejaaH
namespace Go.Proofs.Ytaacknjgfipejaa.Pure
open Go.RowKit Go.Proofs.Ytaacknjgfipejaa.P Go.Proofs.YtaacknjgfipejaaW.PrintWords Go.Proofs.YtaacknjgfipejaaW.PrintLast Go.Proofs.Ytaacknjgfipejaa.H
set_option linter.unusedVariables false
set_option linter.unusedSimpArgs false

/-! ### The reader -/
theorem pick_ev {b : List Int} (hb : Bytes b) {p n : Int} (h0 : 0 ≤ p) (h1 : p ≤ 1000000000) (hn1 : n ≤ 1000000000) :
    ∃ v, Ev (fun k => spec_l6Rd_pick.f k b p n) (v, p + 1) ∧ 0 ≤ v ∧ (v < n ∨ v = 0) := by
  have hw : wrap64 (p + 1) = p + 1 := w64 (by omega) (by omega)
  have hw' : wrap64 (p + 1 - 1) = p := by
    rw [show p + 1 - 1 = p by omega]
    exact w64 (by omega) (by omega)
  by_cases hn : n < 1
  · refine ⟨0, ?_, by omega, Or.inr rfl⟩
    refine Ev.congr (g := fun k => spec_l6Rd_pick.f k b p n) (f := fun k => spec_l6Rd_pick.j0 k n true b (p + 1)) (fun k => by unfold spec_l6Rd_pick.f; rw [if_pos hn, hw]) ?_
    exact Ev.step (f := fun _ => some (0, p + 1)) (fun k => by rw [spec_l6Rd_pick.j0, if_pos rfl]) (Ev.now _)
  · by_cases hl : (b.length : Int) = 0
    · refine ⟨0, ?_, by omega, Or.inr rfl⟩
      refine Ev.congr (g := fun k => spec_l6Rd_pick.f k b p n) (f := fun k => spec_l6Rd_pick.j0 k n true b (p + 1)) (fun k => by unfold spec_l6Rd_pick.f; rw [if_neg hn, hw, show ((b.length : Int) == 0) = true from by simpa using hl]) ?_
      exact Ev.step (f := fun _ => some (0, p + 1)) (fun k => by rw [spec_l6Rd_pick.j0, if_pos rfl]) (Ev.now _)
    · have hgo : ∀ k, spec_l6Rd_pick.f k b p n = spec_l6Rd_pick.j0 k n false b (p + 1) := fun k => by
        unfold spec_l6Rd_pick.f
        rw [if_neg hn, hw, show ((b.length : Int) == 0) = false from by simpa using hl]
      by_cases hk : p < (b.length : Int)
      · have hr := hb.at_ p
        have hwr : wrap64 (rd b p) = rd b p := w64 (by omega) (by omega)
        refine ⟨Int.tmod (rd b p) n, ?_, Int.tmod_nonneg _ hr.1, Or.inl (Int.tmod_lt_of_pos _ (by omega))⟩
        refine Ev.congr hgo ?_
        refine Ev.step (f := fun _ => some (Int.tmod (rd b p) n, p + 1)) (fun k => ?_) (Ev.now _)
        rw [spec_l6Rd_pick.j0, if_neg (by simp), hw', if_pos hk, if_pos h0, if_neg (by omega), hwr]
      · have hlen := hb.len
        have hlp : 0 < (b.length : Int) := by omega
        obtain ⟨A, hA⟩ : ∃ A, A = rd b (Int.tmod p (b.length : Int)) := ⟨_, rfl⟩
        obtain ⟨B, hB⟩ : ∃ B, B = rd b (Int.tmod (p * 7 + 3) (b.length : Int)) := ⟨_, rfl⟩
        have rA : 0 ≤ A ∧ A ≤ 255 := hA ▸ hb.at_ _
        have rB : 0 ≤ B ∧ B ≤ 255 := hB ▸ hb.at_ _
        have m1 : 0 ≤ Int.tmod p (b.length : Int) := Int.tmod_nonneg _ h0
        have m2 : Int.tmod p (b.length : Int) < (b.length : Int) := Int.tmod_lt_of_pos _ hlp
        have m3 : 0 ≤ Int.tmod (p * 7 + 3) (b.length : Int) := Int.tmod_nonneg _ (by omega)
        have m4 : Int.tmod (p * 7 + 3) (b.length : Int) < (b.length : Int) := Int.tmod_lt_of_pos _ hlp
        obtain ⟨q, hq⟩ : ∃ q, q = Int.tdiv p (b.length : Int) := ⟨_, rfl⟩
        have q0 : 0 ≤ q := by rw [hq]; exact Int.tdiv_nonneg h0 (by omega)
        have q1 : q ≤ p := by rw [hq, Int.tdiv_eq_ediv_of_nonneg h0]; exact Int.ediv_le_self _ h0
        have w1 : wrap64 (p * 7) = p * 7 := w64 (by omega) (by omega)
        have w2 : wrap64 (p * 7 + 3) = p * 7 + 3 := w64 (by omega) (by omega)
        have w3 : wrap64 A = A := w64 (by omega) (by omega)
        have w4 : wrap64 B = B := w64 (by omega) (by omega)
        have w5 : wrap64 (A * 131) = A * 131 := w64 (by omega) (by omega)
        have w6 : wrap64 (B * 1117) = B * 1117 := w64 (by omega) (by omega)
        have w7 : wrap64 (A * 131 + B * 1117) = A * 131 + B * 1117 := w64 (by omega) (by omega)
        have w8 : wrap64 (p * 29) = p * 29 := w64 (by omega) (by omega)
        have w9 : wrap64 (A * 131 + B * 1117 + p * 29) = A * 131 + B * 1117 + p * 29 := w64 (by omega) (by omega)
        have w10 : wrap64 q = q := w64 (by omega) (by omega)
        have w11 : wrap64 (q * 53) = q * 53 := w64 (by omega) (by omega)
        have w12 : wrap64 (A * 131 + B * 1117 + p * 29 + q * 53) = A * 131 + B * 1117 + p * 29 + q * 53 := w64 (by omega) (by omega)
        obtain ⟨X, hX⟩ : ∃ X, X = A * 131 + B * 1117 + p * 29 + q * 53 := ⟨_, rfl⟩
        have x0 : 0 ≤ X ∧ X < 1000000000000 := by omega
        have d1 : Int.tdiv X 64 = X / 64 := Int.tdiv_eq_ediv_of_nonneg x0.1
        have w13 : wrap64 (X / 64) = X / 64 := w64 (by omega) (by omega)
        refine ⟨Int.tmod (Go.bits .xor .i64 X (X / 64)) n, ?_, Int.tmod_nonneg _ (xor_nonneg (by omega) (by omega) (by omega) (by omega)), Or.inl (Int.tmod_lt_of_pos _ (by omega))⟩
        refine Ev.congr hgo ?_
        refine Ev.step (f := fun _ => some (Int.tmod (Go.bits .xor .i64 X (X / 64)) n, p + 1)) (fun k => ?_) (Ev.now _)
        rw [spec_l6Rd_pick.j0, if_neg (by simp), hw', if_neg hk, if_neg hl, if_pos m1, if_pos m2, w1, w2, if_pos m3, if_pos m4, if_neg (by omega), ← hA, ← hB, ← hq, w3, w4, w5, w6, w7, w8, w9, w10, w11, w12, ← hX, d1, w13]

theorem open_ev (l : List Int) (hw : ∀ x ∈ l, (Lit.int .u8 x).wf = true) : ∃ b, spec_l6Open.f l = some (b, 0) ∧ Bytes b := by
  unfold spec_l6Open.f
  by_cases h : (l.length : Int) > 2000
  · refine ⟨l.take 2000, by rw [if_pos h, if_pos (by omega)], ?_, ?_⟩
    · rw [List.length_take]
      omega
    · exact fun x hx => Go.bounds_u8 (hw x (List.mem_of_mem_take hx))
  · exact ⟨l, by rw [if_neg h], by omega, fun x hx => Go.bounds_u8 (hw x hx)⟩

/-! ### Few bytes -/
theorem bytes_l0 {b : List Int} (hb : Bytes b) : ∀ (d : Nat) (xs : List Int) (p : Int), 0 ≤ p → p + d ≤ 100000000 → xs.length + d ≤ 100 →
    ∃ s p', Ev (fun k => spec_l71Bytes.l0 k xs (d : Int) b p) (s, p') ∧ p ≤ p' ∧ p' ≤ p + d + 2 ∧ xs.length + d ≤ s.size ∧ s.size ≤ xs.length + d + 1 := by
  intro d
  induction d with
  | zero =>
    intro xs p h0 h1 hx
    obtain ⟨v, hv, v0, v1⟩ := pick_ev hb (p := p) (n := 30) h0 (by omega) (by omega)
    by_cases hz : v = 0
    · obtain ⟨c, hc, c0, c1⟩ := pick_ev hb (p := p + 1) (n := 256) (by omega) (by omega) (by omega)
      refine ⟨strOfNums (xs ++ [c % 256]), p + 1 + 1, ?_, by omega, by omega, by rw [strOfNums_size]; simp, by rw [strOfNums_size]; simp⟩
      refine Ev.step (fun k => by rw [spec_l71Bytes.l0]) ?_
      refine ifn (by omega) ?_
      refine Ev.bind hv ?_
      refine ifp hz ?_
      refine Ev.bind hc ?_
      refine ifp (by omega) ?_
      exact Ev.now _
    · refine ⟨strOfNums xs, p + 1, ?_, by omega, by omega, by rw [strOfNums_size]; simp, by rw [strOfNums_size]; simp⟩
      refine Ev.step (fun k => by rw [spec_l71Bytes.l0]) ?_
      refine ifn (by omega) ?_
      refine Ev.bind hv ?_
      refine ifn hz ?_
      exact Ev.now _
  | succ d ih =>
    intro xs p h0 h1 hx
    obtain ⟨v, hv, v0, v1⟩ := pick_ev hb (p := p) (n := 6) h0 (by omega) (by omega)
    obtain ⟨s, p', hs, p0, p1, s0, s1⟩ := ih (xs ++ [bt (⟨#[97, 98, 97, 98, 48, 49]⟩ : ByteArray) v]) (p + 1) (by omega) (by omega) (by simp; omega)
    simp only [List.length_append, List.length_cons, List.length_nil] at s0 s1
    refine ⟨s, p', ?_, by omega, by omega, by omega, by omega⟩
    refine Ev.step (fun k => by rw [spec_l71Bytes.l0]) ?_
    refine ifp (by omega) ?_
    refine Ev.bind hv ?_
    refine ifp v0 ?_
    refine ifp (by dsimp only; omega) ?_
    refine ifp (by omega) ?_
    rw [show wrap64 (((d + 1 : Nat) : Int) - 1) = (d : Int) by rw [w64 (by omega) (by omega)]; omega]
    exact hs

theorem bytes_ev {b : List Int} (hb : Bytes b) {p most : Int} (h0 : 0 ≤ p) (h1 : p ≤ 10000000) (m0 : 1 ≤ most) (m1 : most ≤ 20) :
    ∃ s p', Ev (fun k => spec_l71Bytes.f k b p most) (s, p') ∧ p ≤ p' ∧ p' ≤ p + most + 3 ∧ 1 ≤ s.size ∧ (s.size : Int) ≤ most + 1 := by
  obtain ⟨v, hv, v0, v1⟩ := pick_ev hb (p := p) (n := most) h0 (by omega) (by omega)
  obtain ⟨d, hd⟩ : ∃ d : Nat, (d : Int) = 1 + v := ⟨(1 + v).toNat, by omega⟩
  obtain ⟨s, p', hs, p0, p1, s0, s1⟩ := bytes_l0 hb d [] (p + 1) (by omega) (by omega) (by simp; omega)
  simp only [List.length_nil] at s0 s1
  refine ⟨s, p', ?_, by omega, by omega, by omega, by omega⟩
  unfold spec_l71Bytes.f
  refine Ev.bind hv ?_
  rw [show wrap64 (1 + v) = (d : Int) by rw [w64 (by omega) (by omega)]; omega]
  exact hs

/-! ### A text several times -/
theorem many_l0 : ∀ (n : Nat) (s acc : ByteArray), n ≤ 1000000 → acc.size + s.size * n ≤ 1000000000 →
    ∃ r, Ev (fun k => spec_l6Many.l0 k s (n : Int) acc) r ∧ r.size = acc.size + s.size * n := by
  intro n
  induction n using Nat.strongRecOn with
  | ind n ih =>
    intro s acc h1 h2
    by_cases hn : n = 0
    · subst hn
      refine ⟨acc, ?_, by simp⟩
      refine Ev.step (fun k => by rw [spec_l6Many.l0]) ?_
      exact ifn (by omega) (Ev.now _)
    · obtain ⟨m, c, hm, hc⟩ : ∃ m c, n = 2 * m + c ∧ c < 2 := ⟨n / 2, n % 2, by omega, by omega⟩
      have ht : Int.tmod (n : Int) 2 = (c : Int) := by rw [Int.tmod_eq_emod_of_nonneg (by omega)]; omega
      have hd : wrap64 (Int.tdiv (n : Int) 2) = (m : Int) := by rw [Int.tdiv_eq_ediv_of_nonneg (by omega), w64 (by omega) (by omega)]; omega
      have e : s.size * n = (s ++ s).size * m + s.size * c := by
        rw [ByteArray.size_append, hm, Nat.mul_add, ← Nat.mul_assoc, Nat.mul_comm s.size 2, Nat.two_mul]
      have es : s.size ≤ s.size * n := Nat.le_mul_of_pos_right _ (by omega)
      have hss : (s ++ s).size = s.size + s.size := ByteArray.size_append
      rcases (by omega : c = 0 ∨ c = 1) with rfl | rfl
      · obtain ⟨r, hr, rs⟩ := ih m (by omega) (s ++ s) acc (by omega) (by omega)
        refine ⟨r, ?_, by omega⟩
        refine Ev.step (fun k => by rw [spec_l6Many.l0]) ?_
        refine ifp (by omega) ?_
        refine ifn (by omega) ?_
        refine ifp (by omega) ?_
        rw [hd]
        exact hr
      · have ha : (acc ++ s).size = acc.size + s.size := ByteArray.size_append
        obtain ⟨r, hr, rs⟩ := ih m (by omega) (s ++ s) (acc ++ s) (by omega) (by omega)
        refine ⟨r, ?_, by omega⟩
        refine Ev.step (fun k => by rw [spec_l6Many.l0]) ?_
        refine ifp (by omega) ?_
        refine ifp (by omega) ?_
        refine ifp (by omega) ?_
        refine ifp (by omega) ?_
        rw [hd]
        exact hr

theorem many_ev (s : ByteArray) (n : Int) (h0 : 0 ≤ n) (h1 : n ≤ 1000000) (h : s.size * n.toNat ≤ 1000000) : ∃ r, Ev (fun k => spec_l6Many.f k s n) r ∧ r.size = s.size * n.toNat := by
  obtain ⟨r, hr, rs⟩ := many_l0 n.toNat s ⟨#[]⟩ (by omega) (by rw [size_nil]; omega)
  refine ⟨r, ?_, by rw [rs, size_nil, Nat.zero_add]⟩
  unfold spec_l6Many.f
  rw [show n = ((n.toNat : Nat) : Int) by omega]
  exact hr

/-! ### Drawn pieces -/
theorem voc_l1 {b : List Int} (hb : Bytes b) (e : Int) : ∀ (d : Nat) (ps : List ByteArray) (p : Int), 0 ≤ p → p + d ≤ 100000000 → 41 - ps.length = d → (∀ x ∈ ps, x.size ≤ 8) →
    ∃ ps' p', Ev (fun k => spec_l71Voc.l1 k b p ps e) (ps', e, p') ∧ p ≤ p' ∧ p' ≤ p + d + 1 ∧ ps'.length ≤ ps.length + d ∧ (∀ x ∈ ps', x.size ≤ 8) := by
  intro d
  induction d with
  | zero =>
    intro ps p h0 h1 hd hs
    obtain ⟨v, hv, v0, v1⟩ := pick_ev hb (p := p) (n := 2) h0 (by omega) (by omega)
    refine ⟨ps, p + 1, ?_, by omega, by omega, by omega, hs⟩
    refine Ev.step (fun k => by rw [spec_l71Voc.l1]) ?_
    refine Ev.bind hv ?_
    rw [show wrap64 (40 + v) = 40 + v from w64 (by omega) (by omega)]
    exact ifn (by omega) (Ev.now _)
  | succ d ih =>
    intro ps p h0 h1 hd hs
    obtain ⟨v, hv, v0, v1⟩ := pick_ev hb (p := p) (n := 2) h0 (by omega) (by omega)
    by_cases hc : (ps.length : Int) < 40 + v
    · obtain ⟨ps', p', hp, a1, a2, a3, a4⟩ := ih (ps ++ [(⟨#[99]⟩ : ByteArray)]) (p + 1) (by omega) (by omega) (by simp; omega) (by
        intro x hx
        rcases List.mem_append.1 hx with hx | hx
        · exact hs x hx
        · rw [List.mem_singleton.1 hx, size_one]; omega)
      simp only [List.length_append, List.length_cons, List.length_nil] at a3
      refine ⟨ps', p', ?_, by omega, by omega, by omega, a4⟩
      refine Ev.step (fun k => by rw [spec_l71Voc.l1]) ?_
      refine Ev.bind hv ?_
      rw [show wrap64 (40 + v) = 40 + v from w64 (by omega) (by omega)]
      refine ifp hc ?_
      refine ifp (by omega) ?_
      exact hp
    · refine ⟨ps, p + 1, ?_, by omega, by omega, by omega, hs⟩
      refine Ev.step (fun k => by rw [spec_l71Voc.l1]) ?_
      refine Ev.bind hv ?_
      rw [show wrap64 (40 + v) = 40 + v from w64 (by omega) (by omega)]
      exact ifn hc (Ev.now _)

theorem voc_j1 {b : List Int} (hb : Bytes b) (ps : List ByteArray) (e p : Int) (h0 : 0 ≤ p) (h1 : p ≤ 1000000) (hl : ps.length ≤ 20) (hl0 : 0 < ps.length) (hs : ∀ x ∈ ps, x.size ≤ 8) (he : -2 ≤ e) (he' : e ≤ 42) :
    ∃ ps' e' p', Ev (fun k => spec_l71Voc.j1 k b p ps e) (ps', e', p') ∧ p ≤ p' ∧ p' ≤ p + 100 ∧ ps'.length ≤ 42 ∧ (∀ x ∈ ps', x.size ≤ 8) ∧ -2 ≤ e' ∧ e' ≤ 42 := by
  obtain ⟨v, hv, v0, v1⟩ := pick_ev hb (p := p) (n := 24) h0 (by omega) (by omega)
  by_cases c0 : v = 0
  · obtain ⟨u, hu, u0, u1⟩ := pick_ev hb (p := p + 1) (n := 2) (by omega) (by omega) (by omega)
    have hu2 : u = 0 ∨ u = 1 := by omega
    refine ⟨ps, rd [(-2), (ps.length : Int)] u, p + 1 + 1, ?_, by omega, by omega, by omega, hs, ?_, ?_⟩
    · refine Ev.step (fun k => by rw [spec_l71Voc.j1]) ?_
      refine Ev.bind hv ?_
      refine ifp c0 ?_
      refine bs ?_
      refine Ev.bind hu ?_
      refine ifp u0 ?_
      refine ifp (by simp; omega) ?_
      exact Ev.now _
    · rcases hu2 with rfl | rfl <;> simp [rd]
    · rcases hu2 with rfl | rfl <;> simp [rd]
      omega
  by_cases c1 : v = 1
  · obtain ⟨u, hu, u0, u1⟩ := pick_ev hb (p := p + 1) (n := 2) (by omega) (by omega) (by omega)
    obtain ⟨t, ht, hts⟩ := many_ev (⟨#[97]⟩ : ByteArray) (6 + u) (by omega) (by omega) (by rw [size_one]; omega)
    have ht8 : t.size ≤ 8 := by rw [hts, size_one]; omega
    refine ⟨ps.set (0 : Int).toNat t, e, p + 1 + 1, ?_, by omega, by omega, by simp; omega, ?_, he, he'⟩
    · refine Ev.step (fun k => by rw [spec_l71Voc.j1]) ?_
      refine Ev.bind hv ?_
      refine ifn c0 ?_
      refine ifp c1 ?_
      refine Ev.bind hu ?_
      rw [show wrap64 (6 + u) = 6 + u from w64 (by omega) (by omega)]
      refine Ev.bind ht ?_
      refine ifp (by omega) ?_
      exact Ev.now _
    · intro x hx
      rcases List.mem_or_eq_of_mem_set hx with hx | hx
      · exact hs x hx
      · rw [hx]; exact ht8
  by_cases c2 : v = 2
  · obtain ⟨ps', p', hp, a1, a2, a3, a4⟩ := voc_l1 hb e (41 - ps.length) ps (p + 1) (by omega) (by omega) rfl hs
    refine ⟨ps', e, p', ?_, by omega, by omega, by omega, a4, he, he'⟩
    refine Ev.step (fun k => by rw [spec_l71Voc.j1]) ?_
    refine Ev.bind hv ?_
    refine ifn c0 ?_
    refine ifn c1 ?_
    refine ifp c2 ?_
    exact hp
  by_cases c3 : v = 3
  · refine ⟨[], e, p + 1, ?_, by omega, by omega, by simp, by simp, he, he'⟩
    refine Ev.step (fun k => by rw [spec_l71Voc.j1]) ?_
    refine Ev.bind hv ?_
    refine ifn c0 ?_
    refine ifn c1 ?_
    refine ifn c2 ?_
    refine ifp c3 ?_
    exact Ev.now _
  · refine ⟨ps, e, p + 1, ?_, by omega, by omega, by omega, hs, he, he'⟩
    refine Ev.step (fun k => by rw [spec_l71Voc.j1]) ?_
    refine Ev.bind hv ?_
    refine ifn c0 ?_
    refine ifn c1 ?_
    refine ifn c2 ?_
    refine ifn c3 ?_
    exact Ev.now _

theorem voc_l0 {b : List Int} (hb : Bytes b) : ∀ (d : Nat) (ps : List ByteArray) (p : Int), 0 ≤ p → p + d * 10 ≤ 100000 → ps.length + d ≤ 15 → (∀ x ∈ ps, x.size ≤ 8) →
    ∃ ps' e' p', Ev (fun k => spec_l71Voc.l0 k (d : Int) b p ps (-1)) (ps', e', p') ∧ p ≤ p' ∧ p' ≤ p + d * 10 + 110 ∧ ps'.length ≤ 42 ∧ (∀ x ∈ ps', x.size ≤ 8) ∧ -2 ≤ e' ∧ e' ≤ 42 := by
  intro d
  induction d with
  | zero =>
    intro ps p h0 h1 hl hs
    obtain ⟨v, hv, v0, v1⟩ := pick_ev hb (p := p) (n := 3) h0 (by omega) (by omega)
    obtain ⟨ys, hys⟩ : ∃ ys, ys = ps ++ ([(⟨#[97]⟩ : ByteArray), (⟨#[98]⟩ : ByteArray), (⟨#[]⟩ : ByteArray), (⟨#[48]⟩ : ByteArray)] : List ByteArray) := ⟨_, rfl⟩
    have hyl : ys.length = ps.length + 4 := by rw [hys]; simp
    have hysz : ∀ x ∈ ys, x.size ≤ 8 := by
      intro x hx
      rw [hys] at hx
      rcases List.mem_append.1 hx with hx | hx
      · exact hs x hx
      · simp only [List.mem_cons, List.not_mem_nil, or_false] at hx
        rcases hx with rfl | rfl | rfl | rfl <;> (first | rw [size_one] | rw [size_nil]) <;> omega
    by_cases hc : v > 0
    · obtain ⟨u, hu, u0, u1⟩ := pick_ev hb (p := p + 1) (n := (ys.length : Int)) (by omega) (by omega) (by omega)
      obtain ⟨ps', e', p', hp, a1, a2, a3, a4, a5, a6⟩ := voc_j1 hb ys u (p + 1 + 1) (by omega) (by omega) (by omega) (by omega) hysz (by omega) (by omega)
      refine ⟨ps', e', p', ?_, by omega, by omega, a3, a4, a5, a6⟩
      refine Ev.step (fun k => by rw [spec_l71Voc.l0]) ?_
      refine ifn (by omega) ?_
      refine bs ?_
      refine ifp (by simp; omega) ?_
      rw [← hys]
      refine bs ?_
      refine Ev.bind hv ?_
      refine ifp hc ?_
      refine Ev.bind hu ?_
      exact hp
    · obtain ⟨ps', e', p', hp, a1, a2, a3, a4, a5, a6⟩ := voc_j1 hb ys (-1) (p + 1) (by omega) (by omega) (by omega) (by omega) hysz (by omega) (by omega)
      refine ⟨ps', e', p', ?_, by omega, by omega, a3, a4, a5, a6⟩
      refine Ev.step (fun k => by rw [spec_l71Voc.l0]) ?_
      refine ifn (by omega) ?_
      refine bs ?_
      refine ifp (by simp; omega) ?_
      rw [← hys]
      refine bs ?_
      refine Ev.bind hv ?_
      refine ifn hc ?_
      exact hp
  | succ d ih =>
    intro ps p h0 h1 hl hs
    obtain ⟨s, p1, hb1, b1, b2, b3, b4⟩ := bytes_ev hb (p := p) (most := 4) h0 (by omega) (by omega) (by omega)
    obtain ⟨ps', e', p', hp, a1, a2, a3, a4, a5, a6⟩ := ih (ps ++ [s]) p1 (by omega) (by omega) (by simp; omega) (by
      intro x hx
      rcases List.mem_append.1 hx with hx | hx
      · exact hs x hx
      · rw [List.mem_singleton.1 hx]; omega)
    refine ⟨ps', e', p', ?_, by omega, by omega, a3, a4, a5, a6⟩
    refine Ev.step (fun k => by rw [spec_l71Voc.l0]) ?_
    refine ifp (by omega) ?_
    refine Ev.bind hb1 ?_
    refine ifp (by omega) ?_
    rw [show wrap64 (((d + 1 : Nat) : Int) - 1) = (d : Int) by rw [w64 (by omega) (by omega)]; omega]
    exact hp

theorem voc_ev {b : List Int} (hb : Bytes b) (p : Int) (h0 : 0 ≤ p) (h1 : p ≤ 10000) :
    ∃ ps e p', Ev (fun k => spec_l71Voc.f k b p) (ps, e, p') ∧ p ≤ p' ∧ p' ≤ p + 300 ∧ ps.length ≤ 42 ∧ (∀ x ∈ ps, x.size ≤ 8) ∧ -2 ≤ e ∧ e ≤ 42 := by
  obtain ⟨v, hv, v0, v1⟩ := pick_ev hb (p := p) (n := 8) h0 (by omega) (by omega)
  obtain ⟨d, hd⟩ : ∃ d : Nat, (d : Int) = 2 + v := ⟨(2 + v).toNat, by omega⟩
  obtain ⟨ps', e', p', hp, a1, a2, a3, a4, a5, a6⟩ := voc_l0 hb d [] (p + 1) (by omega) (by omega) (by simp; omega) (by simp)
  refine ⟨ps', e', p', ?_, by omega, by omega, a3, a4, a5, a6⟩
  unfold spec_l71Voc.f
  refine Ev.bind hv ?_
  rw [show wrap64 (2 + v) = (d : Int) by rw [w64 (by omega) (by omega)]; omega]
  exact hp

/-! ### Are pieces ok? -/
def vocOk (ps : List ByteArray) (e : Int) : Bool := decide (1 ≤ ps.length) && decide (ps.length ≤ 40) && decide (-1 ≤ e) && decide (e < (ps.length : Int)) && ps.all (fun p => decide (p.size ≤ 6))

theorem spec_vocok_l0 (ps : List ByteArray) (e : Int) (hl : ps.length ≤ 1000000000000000) : ∀ (d i : Nat), i + d = ps.length →
    Ev (fun k => spec_VocOk.l0 k (i : Int) ps e) ((ps.drop i).all (fun p => decide (p.size ≤ 6))) := by
  intro d
  induction d with
  | zero =>
    intro i hi
    rw [List.drop_eq_nil_of_le (by omega)]
    refine Ev.step (fun k => by rw [spec_VocOk.l0]) ?_
    exact ifn (by omega) (Ev.now _)
  | succ d ih =>
    intro i hi
    have hlt : i < ps.length := by omega
    rw [List.drop_eq_getElem_cons hlt, List.all_cons]
    refine Ev.step (fun k => by rw [spec_VocOk.l0]) ?_
    refine ifp (by omega) ?_
    refine ifp (by omega) ?_
    rw [rdOf_nat _ _ _ hlt]
    by_cases hs : (ps[i].size : Int) > 6
    · refine ifp hs ?_
      rw [show decide (ps[i].size ≤ 6) = false from decide_eq_false (by omega), Bool.false_and]
      exact Ev.now _
    · refine ifn hs ?_
      rw [show decide (ps[i].size ≤ 6) = true from decide_eq_true (by omega), Bool.true_and, show wrap64 ((i : Int) + 1) = ((i + 1 : Nat) : Int) by rw [w64 (by omega) (by omega)]; omega]
      exact ih (i + 1) (by omega)

theorem spec_vocok_ev (ps : List ByteArray) (e : Int) (hl : ps.length ≤ 1000000000000000) : Ev (fun k => spec_VocOk.f k ps e) (vocOk ps e) := by
  have hj : ∀ c : Bool, Ev (fun k => spec_VocOk.j0 k c ps e) (!c && ps.all (fun p => decide (p.size ≤ 6))) := by
    intro c
    refine Ev.step (fun k => by rw [spec_VocOk.j0]) ?_
    cases c with
    | true => exact ifp rfl (Ev.now _)
    | false =>
      refine ifn (by simp) ?_
      exact spec_vocok_l0 ps e hl ps.length 0 (by omega)
  have hw : wrap64 ((ps.length : Int) - 1) = (ps.length : Int) - 1 := w64 (by omega) (by omega)
  unfold spec_VocOk.f
  by_cases h1 : (ps.length : Int) < 1
  · refine ifp h1 (Ev_eq (hj true) ?_)
    unfold vocOk
    rw [show decide (1 ≤ ps.length) = false from decide_eq_false (by omega)]
    rfl
  by_cases h2 : (ps.length : Int) > 40
  · refine ifn h1 (ifp h2 (Ev_eq (hj true) ?_))
    unfold vocOk
    rw [show decide (ps.length ≤ 40) = false from decide_eq_false (by omega), Bool.and_false]
    rfl
  refine ifn h1 (ifn h2 ?_)
  rw [hw]
  have ha : decide (1 ≤ ps.length) = true := decide_eq_true (by omega)
  have hb : decide (ps.length ≤ 40) = true := decide_eq_true (by omega)
  by_cases h3 : e ≥ -1
  · refine b0 (a := decide (e ≤ (ps.length : Int) - 1)) (by unfold spec_l6In.f; rw [if_pos h3]) (Ev_eq (hj _) ?_)
    unfold vocOk
    rw [ha, hb, show decide (-1 ≤ e) = true from decide_eq_true h3, show decide (e < (ps.length : Int)) = decide (e ≤ (ps.length : Int) - 1) from by rw [decide_eq_decide]; omega]
    simp
  · refine b0 (a := false) (by unfold spec_l6In.f; rw [if_neg h3]) (Ev_eq (hj _) ?_)
    unfold vocOk
    rw [show decide (-1 ≤ e) = false from decide_eq_false h3]
    simp

theorem impl_vocok_l0 (ps : List ByteArray) (e : Int) (hl : ps.length ≤ 1000000000000000) : ∀ (d i : Nat), i + d = ps.length →
    Ev (fun k => impl_VocOk.l0 k ps (ps.length : Int) (i : Int) ps e) ((ps.drop i).all (fun p => decide (p.size ≤ 6)) && (decide (1 ≤ ps.length) && decide (ps.length ≤ 40) && decide (-1 ≤ e) && decide (e < (ps.length : Int)))) := by
  intro d
  induction d with
  | zero =>
    intro i hi
    have hw : wrap64 ((ps.length : Int) - 1) = (ps.length : Int) - 1 := w64 (by omega) (by omega)
    rw [List.drop_eq_nil_of_le (by omega)]
    refine Ev.step (fun k => by rw [impl_VocOk.l0]) ?_
    refine ifn (by omega) ?_
    rw [hw]
    by_cases h1 : (ps.length : Int) ≥ 1
    · refine b0 (a := decide ((ps.length : Int) ≤ 40)) (by unfold impl_within.f; rw [if_pos h1]) ?_
      by_cases h2 : (ps.length : Int) ≤ 40
      · refine ifp (decide_eq_true h2) ?_
        have ha : decide (1 ≤ ps.length) = true := decide_eq_true (by omega)
        have hb : decide (ps.length ≤ 40) = true := decide_eq_true (by omega)
        by_cases h3 : e ≥ -1
        · refine b0 (a := decide (e ≤ (ps.length : Int) - 1)) (by unfold impl_within.f; rw [if_pos h3]) ?_
          refine Ev_eq (Ev.now _) ?_
          rw [ha, hb, show decide (-1 ≤ e) = true from decide_eq_true h3, show decide (e < (ps.length : Int)) = decide (e ≤ (ps.length : Int) - 1) from by rw [decide_eq_decide]; omega]
          simp
        · refine b0 (a := false) (by unfold impl_within.f; rw [if_neg h3]) ?_
          refine Ev_eq (Ev.now _) ?_
          rw [show decide (-1 ≤ e) = false from decide_eq_false h3]
          simp
      · refine ifn (by simpa using h2) ?_
        refine Ev_eq (Ev.now _) ?_
        rw [show decide (ps.length ≤ 40) = false from decide_eq_false (by omega)]
        simp
    · refine b0 (a := false) (by unfold impl_within.f; rw [if_neg h1]) ?_
      refine ifn (by simp) ?_
      refine Ev_eq (Ev.now _) ?_
      rw [show decide (1 ≤ ps.length) = false from decide_eq_false (by omega)]
      simp
  | succ d ih =>
    intro i hi
    have hlt : i < ps.length := by omega
    rw [List.drop_eq_getElem_cons hlt, List.all_cons]
    refine Ev.step (fun k => by rw [impl_VocOk.l0]) ?_
    refine ifp (by omega) ?_
    refine ifp (by omega) ?_
    refine ifp (by omega) ?_
    rw [rdOf_nat _ _ _ hlt]
    by_cases hs : (ps[i].size : Int) > 6
    · refine ifp hs ?_
      rw [show decide (ps[i].size ≤ 6) = false from decide_eq_false (by omega), Bool.false_and, Bool.false_and]
      exact Ev.now _
    · refine ifn hs ?_
      rw [show decide (ps[i].size ≤ 6) = true from decide_eq_true (by omega), Bool.true_and, show wrap64 ((i : Int) + 1) = ((i + 1 : Nat) : Int) by rw [w64 (by omega) (by omega)]; omega]
      exact ih (i + 1) (by omega)

theorem impl_vocok_ev (ps : List ByteArray) (e : Int) (hl : ps.length ≤ 1000000000000000) : Ev (fun k => impl_VocOk.f k ps e) (vocOk ps e) := by
  unfold impl_VocOk.f
  refine Ev_eq (impl_vocok_l0 ps e hl ps.length 0 (by omega)) ?_
  rw [List.drop_zero, Bool.and_comm]
  rfl

theorem vocOk_parts {ps : List ByteArray} {e : Int} (h : vocOk ps e = true) : 1 ≤ ps.length ∧ ps.length ≤ 40 ∧ -1 ≤ e ∧ e < (ps.length : Int) ∧ ∀ p ∈ ps, p.size ≤ 6 := by
  unfold vocOk at h
  simp only [Bool.and_eq_true, decide_eq_true_eq, List.all_eq_true] at h
  obtain ⟨⟨⟨⟨h1, h2⟩, h3⟩, h4⟩, h5⟩ := h
  exact ⟨h1, h2, h3, h4, h5⟩

/-! ### The text of pieces -/
def textGo (ps : List ByteArray) (e : Int) : List Int → ByteArray → Option ByteArray
  | [], acc => some acc
  | i :: r, acc => if 0 ≤ i ∧ i < (ps.length : Int) then (if i = e then textGo ps e r acc else textGo ps e r (acc ++ rdOf ByteArray.empty ps i)) else none

def textEnd : Option ByteArray → ByteArray × Bool
  | some s => (s, true)
  | none => (⟨#[]⟩, false)

def vocText (ps : List ByteArray) (e : Int) (ids : List Int) : ByteArray × Bool :=
  if vocOk ps e = true ∧ ids.length ≤ 60 then textEnd (textGo ps e ids ⟨#[]⟩) else (⟨#[]⟩, false)


theorem spec_voctext_l0 (ps : List ByteArray) (e : Int) (hv : vocOk ps e = true) (ids : List Int) (hids : ids.length ≤ 60) : ∀ (d i : Nat) (acc : ByteArray), i + d = ids.length → acc.size ≤ 6 * i →
    Ev (fun k => spec_VocText.l0 k ids acc (i : Int) ps e) (textEnd (textGo ps e (ids.drop i) acc)) := by
  obtain ⟨g1, g2, g3, g4, g5⟩ := vocOk_parts hv
  have hw : wrap64 ((ps.length : Int) - 1) = (ps.length : Int) - 1 := w64 (by omega) (by omega)
  intro d
  induction d with
  | zero =>
    intro i acc hi ha
    rw [List.drop_eq_nil_of_le (by omega)]
    refine Ev.step (fun k => by rw [spec_VocText.l0]) ?_
    exact ifn (by omega) (Ev.now _)
  | succ d ih =>
    intro i acc hi ha
    have hlt : i < ids.length := by omega
    have hi1 : wrap64 ((i : Int) + 1) = ((i + 1 : Nat) : Int) := by rw [w64 (by omega) (by omega)]; omega
    rw [List.drop_eq_getElem_cons hlt, textGo]
    refine Ev.step (fun k => by rw [spec_VocText.l0]) ?_
    refine ifp (by omega) ?_
    refine ifp (by omega) ?_
    rw [rd_nat _ _ hlt, hw, hi1]
    obtain ⟨x, hx⟩ : ∃ x, x = ids[i] := ⟨_, rfl⟩
    rw [← hx]
    by_cases c1 : 0 ≤ x
    · refine b0 (a := decide (x ≤ (ps.length : Int) - 1)) (by unfold spec_l6In.f; rw [if_pos c1]) ?_
      by_cases c2 : x < (ps.length : Int)
      · refine ifp (decide_eq_true (by omega)) ?_
        rw [if_pos ⟨c1, c2⟩]
        by_cases c3 : x = e
        · refine ifp c3 ?_
          rw [if_pos c3]
          exact ih (i + 1) acc (by omega) (by omega)
        · have hm := g5 _ (rdOf_mem ByteArray.empty ps x c1 c2)
          refine ifn c3 ?_
          rw [if_neg c3]
          refine ifp c1 (ifp c2 (ifp (by omega) ?_))
          exact ih (i + 1) _ (by omega) (by rw [ByteArray.size_append]; omega)
      · refine ifn (by simp; omega) ?_
        rw [if_neg (by omega)]
        exact Ev.now _
    · refine b0 (a := false) (by unfold spec_l6In.f; rw [if_neg c1]) ?_
      refine ifn (by simp) ?_
      rw [if_neg (by omega)]
      exact Ev.now _

theorem spec_voctext_ev (ps : List ByteArray) (e : Int) (hl : ps.length ≤ 1000000000000000) (ids : List Int) : Ev (fun k => spec_VocText.f k ps e ids) (vocText ps e ids) := by
  have hj : ∀ c : Bool, (c = false → vocOk ps e = true ∧ ids.length ≤ 60) → (c = true → ¬ (vocOk ps e = true ∧ ids.length ≤ 60)) → Ev (fun k => spec_VocText.j0 k ids c ps e) (vocText ps e ids) := by
    intro c h1 h2
    refine Ev.step (fun k => by rw [spec_VocText.j0]) ?_
    unfold vocText
    cases c with
    | true => rw [if_neg (h2 rfl)]; exact ifp rfl (Ev.now _)
    | false =>
      rw [if_pos (h1 rfl)]
      refine ifn (by simp) ?_
      exact spec_voctext_l0 ps e (h1 rfl).1 ids (h1 rfl).2 ids.length 0 _ (by omega) (by rw [size_nil]; omega)
  unfold spec_VocText.f
  refine Ev.bind (spec_vocok_ev ps e hl) ?_
  by_cases hv : vocOk ps e = true
  · refine ifp hv ?_
    refine hj _ (fun h => ⟨hv, ?_⟩) (fun h hh => ?_)
    · have := of_decide_eq_false h; omega
    · have := of_decide_eq_true h; omega
  · refine ifn hv ?_
    exact hj _ (fun h => by cases h) (fun _ h => hv h.1)


theorem impl_voctext_l0 (ps : List ByteArray) (e : Int) (hv : vocOk ps e = true) (ids : List Int) (hids : ids.length ≤ 60) : ∀ (d i : Nat) (acc : ByteArray), i + d = ids.length → acc.size ≤ 6 * i →
    Ev (fun k => impl_VocText.l0 k acc ids (ids.length : Int) (i : Int) ps e) (textEnd (textGo ps e (ids.drop i) acc)) := by
  obtain ⟨g1, g2, g3, g4, g5⟩ := vocOk_parts hv
  have hw : wrap64 ((ps.length : Int) - 1) = (ps.length : Int) - 1 := w64 (by omega) (by omega)
  intro d
  induction d with
  | zero =>
    intro i acc hi ha
    rw [List.drop_eq_nil_of_le (by omega)]
    refine Ev.step (fun k => by rw [impl_VocText.l0]) ?_
    exact ifn (by omega) (Ev.now _)
  | succ d ih =>
    intro i acc hi ha
    have hlt : i < ids.length := by omega
    have hi1 : wrap64 ((i : Int) + 1) = ((i + 1 : Nat) : Int) := by rw [w64 (by omega) (by omega)]; omega
    rw [List.drop_eq_getElem_cons hlt, textGo]
    refine Ev.step (fun k => by rw [impl_VocText.l0]) ?_
    refine ifp (by omega) ?_
    refine ifp (by omega) ?_
    refine ifp (by omega) ?_
    rw [rd_nat _ _ hlt, hw, hi1]
    obtain ⟨x, hx⟩ : ∃ x, x = ids[i] := ⟨_, rfl⟩
    rw [← hx]
    by_cases c1 : 0 ≤ x
    · refine b0 (a := decide (x ≤ (ps.length : Int) - 1)) (by unfold impl_within.f; rw [if_pos c1]) ?_
      by_cases c2 : x < (ps.length : Int)
      · refine ifp (decide_eq_true (by omega)) ?_
        rw [if_pos ⟨c1, c2⟩]
        by_cases c3 : x = e
        · refine ifp c3 ?_
          rw [if_pos c3]
          exact ih (i + 1) acc (by omega) (by omega)
        · have hm := g5 _ (rdOf_mem ByteArray.empty ps x c1 c2)
          refine ifn c3 ?_
          rw [if_neg c3]
          refine ifp c1 (ifp c2 (ifp (by omega) ?_))
          exact ih (i + 1) _ (by omega) (by rw [ByteArray.size_append]; omega)
      · refine ifn (by simp; omega) ?_
        rw [if_neg (by omega)]
        exact Ev.now _
    · refine b0 (a := false) (by unfold impl_within.f; rw [if_neg c1]) ?_
      refine ifn (by simp) ?_
      rw [if_neg (by omega)]
      exact Ev.now _

theorem impl_voctext_ev (ps : List ByteArray) (e : Int) (hl : ps.length ≤ 1000000000000000) (ids : List Int) : Ev (fun k => impl_VocText.f k ps e ids) (vocText ps e ids) := by
  have hj : ∀ c : Bool, (c = false → vocOk ps e = true ∧ ids.length ≤ 60) → (c = true → ¬ (vocOk ps e = true ∧ ids.length ≤ 60)) → Ev (fun k => impl_VocText.j0 k ids c ps e) (vocText ps e ids) := by
    intro c h1 h2
    refine Ev.step (fun k => by rw [impl_VocText.j0]) ?_
    unfold vocText
    cases c with
    | true => rw [if_neg (h2 rfl)]; exact ifp rfl (Ev.now _)
    | false =>
      rw [if_pos (h1 rfl)]
      refine ifn (by simp) ?_
      exact impl_voctext_l0 ps e (h1 rfl).1 ids (h1 rfl).2 ids.length 0 _ (by omega) (by rw [size_nil]; omega)
  unfold impl_VocText.f
  refine Ev.bind (impl_vocok_ev ps e hl) ?_
  by_cases hv : vocOk ps e = true
  · refine ifp hv ?_
    refine hj _ (fun h => ⟨hv, ?_⟩) (fun h hh => ?_)
    · have := of_decide_eq_false h; omega
    · have := of_decide_eq_true h; omega
  · refine ifn hv ?_
    exact hj _ (fun h => by cases h) (fun _ h => hv h.1)


/-! ### The text of pieces: plain laws -/
theorem textGo_bad (ps : List ByteArray) (e : Int) : ∀ (ids : List Int) (acc : ByteArray), (∃ x ∈ ids, ¬ (0 ≤ x ∧ x < (ps.length : Int))) → textGo ps e ids acc = none
  | [], _, ⟨_, hx, _⟩ => by simp at hx
  | i :: r, acc, ⟨x, hx, hb⟩ => by
    rw [textGo]
    by_cases h : 0 ≤ i ∧ i < (ps.length : Int)
    · rw [if_pos h]
      have hr : ∃ x ∈ r, ¬ (0 ≤ x ∧ x < (ps.length : Int)) := by
        rcases List.mem_cons.1 hx with rfl | hx
        · exact absurd h hb
        · exact ⟨x, hx, hb⟩
      split
      · exact textGo_bad ps e r _ hr
      · exact textGo_bad ps e r _ hr
    · rw [if_neg h]

theorem textGo_acc (ps : List ByteArray) (e : Int) : ∀ (ids : List Int) (acc : ByteArray), textGo ps e ids acc = (textGo ps e ids ⟨#[]⟩).map (acc ++ ·)
  | [], acc => by
    rw [textGo, textGo, Option.map_some]
    congr 1
    apply ByteArray.ext
    simp [ByteArray.data_append]
  | i :: r, acc => by
    rw [textGo, textGo]
    by_cases h : 0 ≤ i ∧ i < (ps.length : Int)
    · rw [if_pos h, if_pos h]
      by_cases c : i = e
      · rw [if_pos c, if_pos c]
        exact textGo_acc ps e r acc
      · rw [if_neg c, if_neg c, textGo_acc ps e r (acc ++ _), textGo_acc ps e r (⟨#[]⟩ ++ _), Option.map_map]
        congr 1
        funext s
        apply ByteArray.ext
        simp [ByteArray.data_append]
    · rw [if_neg h, if_neg h, Option.map_none]

theorem textGo_append (ps : List ByteArray) (e : Int) : ∀ (a b : List Int) (acc : ByteArray), textGo ps e (a ++ b) acc = (textGo ps e a acc).bind (textGo ps e b)
  | [], b, acc => by rw [List.nil_append, textGo, Option.bind_some]
  | i :: r, b, acc => by
    rw [List.cons_append, textGo, textGo]
    by_cases h : 0 ≤ i ∧ i < (ps.length : Int)
    · rw [if_pos h, if_pos h]
      by_cases c : i = e
      · rw [if_pos c, if_pos c]
        exact textGo_append ps e r b acc
      · rw [if_neg c, if_neg c]
        exact textGo_append ps e r b _
    · rw [if_neg h, if_neg h, Option.bind_none]

theorem vocText_ok {ps : List ByteArray} {e : Int} {ids : List Int} (h : (vocText ps e ids).2 = true) : vocOk ps e = true ∧ ids.length ≤ 60 ∧ ∃ s, textGo ps e ids ⟨#[]⟩ = some s ∧ vocText ps e ids = (s, true) := by
  unfold vocText at h ⊢
  by_cases c : vocOk ps e = true ∧ ids.length ≤ 60
  · rw [if_pos c] at h ⊢
    cases hg : textGo ps e ids ⟨#[]⟩ with
    | none => rw [hg] at h; cases h
    | some s => exact ⟨c.1, c.2, s, rfl, rfl⟩
  · rw [if_neg c] at h
    cases h

theorem vocText_of {ps : List ByteArray} {e : Int} {ids : List Int} (h1 : vocOk ps e = true) (h2 : ids.length ≤ 60) {s : ByteArray} (h : textGo ps e ids ⟨#[]⟩ = some s) : vocText ps e ids = (s, true) := by
  unfold vocText
  rw [if_pos ⟨h1, h2⟩, h]
  rfl

theorem vocText_no {ps : List ByteArray} {e : Int} {ids : List Int} (h : ∃ x ∈ ids, ¬ (0 ≤ x ∧ x < (ps.length : Int))) : vocText ps e ids = (⟨#[]⟩, false) := by
  unfold vocText
  split
  · rw [textGo_bad ps e ids _ h]; rfl
  · rfl

theorem textGo_size {ps : List ByteArray} {e : Int} (hs : ∀ p ∈ ps, p.size ≤ 6) : ∀ (ids : List Int) (acc s : ByteArray), textGo ps e ids acc = some s → s.size ≤ acc.size + 6 * ids.length
  | [], acc, s, h => by rw [textGo] at h; injection h with h; subst h; simp
  | i :: r, acc, s, h => by
    rw [textGo] at h
    by_cases c : 0 ≤ i ∧ i < (ps.length : Int)
    · rw [if_pos c] at h
      by_cases c2 : i = e
      · rw [if_pos c2] at h
        have := textGo_size hs r acc s h
        simp only [List.length_cons]
        omega
      · rw [if_neg c2] at h
        have := textGo_size hs r _ s h
        have hm := hs _ (rdOf_mem ByteArray.empty ps i c.1 c.2)
        rw [ByteArray.size_append] at this
        simp only [List.length_cons]
        omega
    · rw [if_neg c] at h
      cases h

/-! ### Drawn pieces, and which of them -/
theorem drawvoctext_l0 {b : List Int} (hb : Bytes b) (ps : List ByteArray) (e : Int) (hl : ps.length ≤ 42) : ∀ (d : Nat) (xs : List Int) (p : Int), 0 ≤ p → p + d ≤ 100000 → xs.length + d ≤ 10 →
    ∃ ids, Ev (fun k => spec_DrawVocText.l0 k xs (d : Int) b p ps e) (ps, e, ids) ∧ ids.length ≤ 61 := by
  intro d
  induction d with
  | zero =>
    intro xs p h0 h1 hx
    obtain ⟨v, hv, v0, v1⟩ := pick_ev hb (p := p) (n := 16) h0 (by omega) (by omega)
    by_cases c0 : v = 0
    · obtain ⟨u, hu, u0, u1⟩ := pick_ev hb (p := p + 1) (n := 2) (by omega) (by omega) (by omega)
      refine ⟨xs ++ [rd [(-1), (ps.length : Int)] u], ?_, by simp; omega⟩
      refine Ev.step (fun k => by rw [spec_DrawVocText.l0]) ?_
      refine ifn (by omega) ?_
      refine Ev.bind hv ?_
      refine ifp c0 ?_
      refine bs ?_
      refine Ev.bind hu ?_
      refine ifp u0 ?_
      refine ifp (by simp; omega) ?_
      refine ifp (by omega) ?_
      exact Ev.now _
    by_cases c1 : v = 1
    · obtain ⟨u, hu, u0, u1⟩ := pick_ev hb (p := p + 1) (n := 2) (by omega) (by omega) (by omega)
      have hw : wrap64 (60 + u) = 60 + u := w64 (by omega) (by omega)
      refine ⟨List.replicate (60 + u : Int).toNat 0, ?_, by simp; omega⟩
      refine Ev.step (fun k => by rw [spec_DrawVocText.l0]) ?_
      refine ifn (by omega) ?_
      refine Ev.bind hv ?_
      refine ifn c0 ?_
      refine ifp c1 ?_
      refine Ev.bind hu ?_
      dsimp only
      rw [hw]
      refine ifp (by omega) ?_
      refine ifp (by omega) ?_
      exact Ev.now _
    · refine ⟨xs, ?_, by omega⟩
      refine Ev.step (fun k => by rw [spec_DrawVocText.l0]) ?_
      refine ifn (by omega) ?_
      refine Ev.bind hv ?_
      refine ifn c0 ?_
      refine ifn c1 ?_
      exact Ev.now _
  | succ d ih =>
    intro xs p h0 h1 hx
    obtain ⟨v, hv, v0, v1⟩ := pick_ev hb (p := p) (n := (ps.length : Int) + 1) h0 (by omega) (by omega)
    obtain ⟨ids, hi, hl2⟩ := ih (xs ++ [v]) (p + 1) (by omega) (by omega) (by simp; omega)
    refine ⟨ids, ?_, hl2⟩
    refine Ev.step (fun k => by rw [spec_DrawVocText.l0]) ?_
    refine ifp (by omega) ?_
    rw [show wrap64 ((ps.length : Int) + 1) = (ps.length : Int) + 1 from w64 (by omega) (by omega)]
    refine Ev.bind hv ?_
    refine ifp (by omega) ?_
    rw [show wrap64 (((d + 1 : Nat) : Int) - 1) = (d : Int) by rw [w64 (by omega) (by omega)]; omega]
    exact hi

theorem drawvoctext_ev (l : List Int) (hw : ∀ x ∈ l, (Lit.int .u8 x).wf = true) :
    ∃ ps e ids, Ev (fun k => spec_DrawVocText.f k l) (ps, e, ids) ∧ ps.length ≤ 42 ∧ (∀ x ∈ ps, x.size ≤ 8) ∧ ids.length ≤ 61 := by
  obtain ⟨b, ho, hb⟩ := open_ev l hw
  obtain ⟨ps, e, p, hv, p0, p1, a1, a2, a3, a4⟩ := voc_ev hb 0 (by omega) (by omega)
  obtain ⟨v, hn, v0, v1⟩ := pick_ev hb (p := p) (n := 9) (by omega) (by omega) (by omega)
  obtain ⟨d, hd⟩ : ∃ d : Nat, (d : Int) = v := ⟨v.toNat, by omega⟩
  obtain ⟨ids, hi, hl⟩ := drawvoctext_l0 hb ps e a1 d [] (p + 1) (by omega) (by omega) (by simp; omega)
  refine ⟨ps, e, ids, ?_, a1, a2, hl⟩
  unfold spec_DrawVocText.f
  refine b0 ho ?_
  refine Ev.bind hv ?_
  refine Ev.bind hn ?_
  rw [← hd]
  exact hi

theorem FnVocEnd (l0 : List Int) (gl0 : l0.length ≤ maxLen ∧ ∀ x ∈ l0, (Lit.int .u8 x).wf = true) : ∃ k, laws_FnVocEnd.f k l0 = some true := by
  obtain ⟨hm, hw⟩ := gl0
  refine Ev.rounds (g := fun k => laws_FnVocEnd.f k l0) ?_
  unfold laws_FnVocEnd.f
  by_cases h0 : (l0.length : Int) > 1048576
  · exact ifp h0 (Ev.now _)
  refine ifn h0 ?_
  obtain ⟨ps, e, ids, hd, hp, hps, hids⟩ := drawvoctext_ev l0 hw
  refine Ev.bind hd ?_
  refine Ev.bind (spec_voctext_ev ps e (by omega) ids) ?_
  refine Ev.bind (impl_voctext_ev ps e (by omega) ids) ?_
  dsimp only
  refine ifp rfl ?_
  refine ifn (by simp) ?_
  obtain ⟨T, hT⟩ : ∃ T, T = vocText ps e ids := ⟨_, rfl⟩
  rw [← hT]
  have early : Ev (fun k => laws_FnVocEnd.j0 k ids T.1 T.2 T.1 T.2 true ps e) true := by
    refine Ev.step (fun k => by rw [laws_FnVocEnd.j0]) ?_
    refine ifp rfl (ifp rfl ?_)
    exact Ev_eq (Ev.now _) (by simp)
  cases hok : T.2 with
  | false => exact ifn (by simp) (hok ▸ early)
  | true =>
    refine ifp rfl ?_
    by_cases he : e < 0
    · exact ifp he (hok ▸ early)
    refine ifn he ?_
    by_cases hl : (ids.length : Int) ≥ 60
    · rw [decide_eq_true hl]
      exact hok ▸ early
    rw [decide_eq_false hl]
    obtain ⟨o1, o2, s, o3, o4⟩ := vocText_ok (hT ▸ hok)
    have h4 := (vocOk_parts o1).2.2.2.1
    have hone : ∀ acc, textGo ps e [e] acc = some acc := by
      intro acc
      rw [textGo, if_pos ⟨by omega, h4⟩, if_pos rfl, textGo]
    have ha : textGo ps e (ids ++ [e]) ⟨#[]⟩ = some s := by rw [textGo_append, o3, Option.bind_some, hone]
    have hb : textGo ps e ([e] ++ ids) ⟨#[]⟩ = some s := by rw [textGo_append, hone, Option.bind_some, o3]
    refine Ev.step (fun k => by rw [laws_FnVocEnd.j0]) ?_
    refine ifn (by simp) ?_
    refine bs ?_
    refine ifp (by (try simp only [List.length_append, List.length_cons, List.length_nil, List.length_set]); omega) ?_
    refine bs ?_
    refine bs ?_
    refine ifp (by (try simp only [List.length_append, List.length_cons, List.length_nil, List.length_set]); omega) ?_
    rw [List.nil_append]
    refine Ev.bind (impl_voctext_ev ps e (by omega) (ids ++ [e])) ?_
    refine bs ?_
    refine ifp (by (try simp only [List.length_append, List.length_cons, List.length_nil, List.length_set]); omega) ?_
    refine Ev.bind (impl_voctext_ev ps e (by omega) ([e] ++ ids)) ?_
    rw [vocText_of o1 (by (try simp only [List.length_append, List.length_cons, List.length_nil, List.length_set]); omega) ha, vocText_of o1 (by (try simp only [List.length_append, List.length_cons, List.length_nil, List.length_set]); omega) hb, hT, o4]
    refine ifp rfl (ifp rfl (ifp rfl ?_))
    exact Ev_eq (Ev.now _) (by simp)

end Go.Proofs.Ytaacknjgfipejaa.Pure
