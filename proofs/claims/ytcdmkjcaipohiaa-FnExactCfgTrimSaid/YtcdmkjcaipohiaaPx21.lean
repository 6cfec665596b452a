-- Laid by a program for this claim (the printer, turned): Lean checks it.
import Derived.Test.YtcdmkjcaipohiaaPx0
import Derived.Test.YtcdmkjcaipohiaaPx1
import Derived.Test.YtcdmkjcaipohiaaPx6
import Derived.Test.YtcdmkjcaipohiaaPx8
import Derived.Test.YtcdmkjcaipohiaaPx14
import Derived.Test.YtcdmkjcaipohiaaPx18
import Derived.Test.YtcdmkjcaipohiaaPx19
import Derived.Test.YtcdmkjcaipohiaaPx20
namespace Go.Proofs.Ytcdmkjcaipohiaa.P
open Go.RowKit Go.Proofs.YtcdmkjcaipohiaaW.PrintWords Go.Proofs.YtcdmkjcaipohiaaW.PrintLast Go.Proofs.YtcdmkjcaipohiaaW.PrintMore
attribute [local go_sem] max2_int min2_int max_two min_two max_three min_three max_four min_four   -- for this text's walks alone
set_option linter.unusedVariables false
set_option linter.unusedSimpArgs false

/-! ### laws_FnExactCfgTrim: function 3 (told by hand) -/
theorem keepC {W W' : World} {p : Addr} {u : Value} (hc : W.cell? p = some u) (hb : Below W.heap.size W W') : W'.cell? p = some u := (hb.cell (World.block_lt_of_cell? W _ hc)).trans hc
theorem keepK {W W' : World} {p : Addr} {u : Value} {S : Nat → Prop} (hc : W.cell? p = some u) (hk : Kept W W' S) (hn : ¬ S p.block) : W'.cell? p = some u := cell_kept hc hk hn

def laws_FnExactCfgTrim.f (k : Nat) (a0_0 : Int) (l0_1 : List (S52)) : Option Bool :=
  (laws_szCfg.f k a0_0 l0_1 1048576).bind fun t => if t < 0 then some true else
  (laws_toCfg.f k a0_0 l0_1).bind fun x => (spec_CfgTrim.f k x.1 x.2).bind fun s => (impl_CfgTrim.f k x.1 x.2).bind fun g =>
  (laws_eqCfg.f k g.1 g.2 s.1 s.2).bind fun b1 => if b1 = true then (laws_eqCfg.f k x.1 x.2 x.1 x.2).bind fun b2 => if b2 = true then
  (laws_markCfg.f k x.1 x.2 1).bind fun y => if 0 ≤ y.1 then (laws_markCfg.f k g.1 g.2 1).bind fun z => (laws_heldCfg.f k g.1 z.2 1).bind fun q =>
  if 0 ≤ q then if q = z.1 then some true else none else none else none else none else none

set_option maxHeartbeats 8000000 in
set_option maxRecDepth 100000 in
theorem laws_FnExactCfgTrim.calls (k : Nat) (a0_0 : Int) (A0_1 : Option Addr) (c0_1 : Nat) (l0_1 : List (S52)) (r : Bool) (w : World) (hr0_1 : Kd.C k52 w A0_1 l0_1.length l0_1) (hc0_1 : l0_1.length ≤ c0_1) (h : laws_FnExactCfgTrim.f k a0_0 l0_1 = some r) :
    Calls Try.prog 3 #[.agg #[.int .i64 a0_0, .slice A0_1 l0_1.length c0_1]] w fun e w' => e = .returned (.bool r) ∧ Below w.heap.size w w' := by
  have huL := Try.underlying24
  have huI := Try.underlying28
  unfold laws_FnExactCfgTrim.f at h
  replace h := Option.bind_eq_some_iff.1 h
  obtain ⟨t, hsz, h⟩ := h
  have HSZ := Aside0.mk hsz
  have HC := Aside0.mk hc0_1
  have HR0 := Aside0.mk hr0_1
  have hb0 : Below w.heap.size w (w.alloc (.cells #[.int .i64 a0_0, .slice A0_1 l0_1.length c0_1] 24)) := below_alloc (Below.refl _ _) _
  have HR1 := Aside0.mk (Kd.C_below hr0_1 hb0)
  have HB1 := Aside0.mk hb0
  clear hsz hc0_1 hr0_1 hb0
  by_cases ht : t < 0
  · rw [if_pos ht] at h
    obtain rfl := Option.some.inj h
    clear h
    have ht' : decide (t < 0) = true := decide_eq_true ht
    go_enter Try.func3, Try.ntmps3
    go_wp2_with (go_at_call 4; (with_reducible refine (laws_szCfg.calls k a0_0 _ _ l0_1 1048576 t _ HR1.out HC.out HSZ.out).mono ?_); rintro e w2 ⟨rfl, hb2⟩)
    go_ret
    exact ⟨rfl, below_step HB1.out hb2⟩
  rw [if_neg ht] at h
  replace h := Option.bind_eq_some_iff.1 h
  obtain ⟨⟨x1, x2⟩, hto, h⟩ := h
  replace h := Option.bind_eq_some_iff.1 h
  obtain ⟨⟨s1, s2⟩, hsp, h⟩ := h
  replace h := Option.bind_eq_some_iff.1 h
  obtain ⟨⟨g1, g2⟩, him, h⟩ := h
  replace h := Option.bind_eq_some_iff.1 h
  obtain ⟨b1, he1, h⟩ := h
  split at h
  case isFalse => cases h
  rename_i hb1t
  subst hb1t
  replace h := Option.bind_eq_some_iff.1 h
  obtain ⟨b2, he2, h⟩ := h
  split at h
  case isFalse => cases h
  rename_i hb2t
  subst hb2t
  replace h := Option.bind_eq_some_iff.1 h
  obtain ⟨⟨y1, y2⟩, hmx, h⟩ := h
  split at h
  case isFalse => cases h
  rename_i hy
  replace h := Option.bind_eq_some_iff.1 h
  obtain ⟨⟨z1, z2⟩, hmg, h⟩ := h
  replace h := Option.bind_eq_some_iff.1 h
  obtain ⟨q, hhe, h⟩ := h
  split at h
  case isFalse => cases h
  rename_i hq0
  split at h
  case isFalse => cases h
  rename_i hqz
  obtain rfl := Option.some.inj h
  simp only at hqz hhe hmg hy hmx he2 he1 him hsp hto
  subst hqz
  have HTO := Aside0.mk hto
  have HSP := Aside0.mk hsp
  have HIM := Aside0.mk him
  have HE1 := Aside0.mk he1
  have HE2 := Aside0.mk he2
  have HMX := Aside0.mk hmx
  have HMG := Aside0.mk hmg
  have HHE := Aside0.mk hhe
  have HW0 := Aside0.mk (Nat.le_refl w.heap.size)
  clear hto hsp him he1 he2 hmx hmg hhe h
  have ht' : decide (t < 0) = false := decide_eq_false ht
  have hy' : decide (y1 < 0) = false := decide_eq_false (by omega)
  have hq' : decide (q < 0) = false := decide_eq_false (by omega)
  clear ht hy hq0
  go_enter Try.func3, Try.ntmps3
  -- point 1 W
  -- point 1 W
  -- point 1 W
  -- point 1 W
  -- point 1 W
  -- point 1 W
  -- point 1 W
  -- point 1 W
  -- point 1 W
  -- point 1 W
  -- point 1 W
  go_wp2_with fail
  -- point 2 behind W
  have ca0 : (w.alloc (.cells #[.int .i64 a0_0, .slice A0_1 l0_1.length c0_1] 24 (0, 0))).cell? ⟨w.heap.size, 0, none⟩ = some (.int .i64 a0_0) := (blk_cell (blk_new w _) 0).trans rfl
  have ca1 : (w.alloc (.cells #[.int .i64 a0_0, .slice A0_1 l0_1.length c0_1] 24 (0, 0))).cell? ⟨w.heap.size, 1, none⟩ = some (.slice A0_1 l0_1.length c0_1) := (blk_cell (blk_new w _) 1).trans rfl
  have Q1 := Aside0.mk (show (w.alloc (.cells #[.int .i64 a0_0, .slice A0_1 l0_1.length c0_1] 24 (0, 0))).heap.size = w.heap.size + 1 by simp)
  generalize w.alloc (.cells #[.int .i64 a0_0, .slice A0_1 l0_1.length c0_1] 24 (0, 0)) = w1 at ca0 ca1 HB1 HR1 Q1 ⊢
  refine (laws_szCfg.calls k a0_0 _ _ l0_1 1048576 t w1 HR1.out HC.out HSZ.out).mono ?_
  rintro e w2 ⟨rfl, hbw2⟩
  clear HR1
  replace ca0 := keepC ca0 hbw2
  replace ca1 := keepC ca1 hbw2
  have Zw2 := Aside0.mk hbw2.size
  replace HB1 := Aside0.mk (below_step HB1.out hbw2)
  clear hbw2
  -- point 3 W
  go_wp2_with fail
  -- point 4 behind W
  refine (laws_toCfg.calls k a0_0 _ _ l0_1 x1 x2 w2 (Kd.C_below HR0.out HB1.out) HC.out HTO.out).mono ?_
  rintro e w3 ⟨v3, rfl, hs3, hbw3⟩
  replace ca0 := keepC ca0 hbw3
  replace ca1 := keepC ca1 hbw3
  have Zw3 := Aside0.mk hbw3.size
  replace HB1 := Aside0.mk (below_step HB1.out hbw3)
  clear hbw3
  obtain ⟨A3, c3, rfl⟩ := Kd.S_slice hs3
  have HT := Aside0.mk (Kd.S_mono (Kd.S_bound hs3) (fun k_ h_ => (⟨h_.2.1, h_.2.2.1⟩ : w2.heap.size ≤ k_ ∧ k_ < w3.heap.size)))
  clear hs3
  -- point 5 W
  go_wp2_with fail
  -- point 6 behind W
  refine (spec_CfgTrim.calls k x1 _ _ x2 s1 s2 w3 (Kd.S_reads' HT.out).2.2 (Kd.S_reads' HT.out).2.1 HSP.out).mono ?_
  rintro e w4 ⟨v4, rfl, hs4, hbw4⟩
  clear HT
  replace ca0 := keepC ca0 hbw4
  replace ca1 := keepC ca1 hbw4
  have Zw4 := Aside0.mk hbw4.size
  replace HB1 := Aside0.mk (below_step HB1.out hbw4)
  clear hbw4
  obtain ⟨A4, c4, rfl⟩ := Kd.S_slice hs4
  have HS := Aside0.mk (Kd.S_mono (Kd.S_bound hs4) (fun k_ h_ => (⟨h_.2.1, h_.2.2.1⟩ : w3.heap.size ≤ k_ ∧ k_ < w4.heap.size)))
  clear hs4
  have ca0a := fun o => keepC ca0 (below_alloc (Below.refl w4.heap.size w4) o)
  have ca1a := fun o => keepC ca1 (below_alloc (Below.refl w4.heap.size w4) o)
  go_wp2_with fail
  clear ca0a
  clear ca1a
  have hbw5 := below_alloc (Below.refl w4.heap.size w4) (.cells #[.int .i64 s1, .slice A4 s2.length c4] 28 (0, 0))
  have cs0 : (w4.alloc (.cells #[.int .i64 s1, .slice A4 s2.length c4] 28 (0, 0))).cell? ⟨w4.heap.size, 0, none⟩ = some (.int .i64 s1) := (blk_cell (blk_new w4 _) 0).trans rfl
  have cs1 : (w4.alloc (.cells #[.int .i64 s1, .slice A4 s2.length c4] 28 (0, 0))).cell? ⟨w4.heap.size, 1, none⟩ = some (.slice A4 s2.length c4) := (blk_cell (blk_new w4 _) 1).trans rfl
  have Qw5 := Aside0.mk (show (w4.alloc (.cells #[.int .i64 s1, .slice A4 s2.length c4] 28 (0, 0))).heap.size = w4.heap.size + 1 by simp)
  generalize w4.alloc (.cells #[.int .i64 s1, .slice A4 s2.length c4] 28 (0, 0)) = w5 at hbw5 cs0 cs1 Qw5 ⊢
  replace ca0 := keepC ca0 hbw5
  replace ca1 := keepC ca1 hbw5
  replace HS := Aside0.mk (Kd.S_below HS.out hbw5)
  have Zw5 := Aside0.mk hbw5.size
  replace HB1 := Aside0.mk (below_step HB1.out hbw5)
  clear hbw5
  refine (laws_toCfg.calls k a0_0 _ _ l0_1 x1 x2 w5 (Kd.C_below HR0.out HB1.out) HC.out HTO.out).mono ?_
  rintro e w6 ⟨v6, rfl, hs6, hbw6⟩
  replace ca0 := keepC ca0 hbw6
  replace ca1 := keepC ca1 hbw6
  replace cs0 := keepC cs0 hbw6
  replace cs1 := keepC cs1 hbw6
  replace HS := Aside0.mk (Kd.S_below HS.out hbw6)
  have Zw6 := Aside0.mk hbw6.size
  replace HB1 := Aside0.mk (below_step HB1.out hbw6)
  clear hbw6
  obtain ⟨A6, c6, rfl⟩ := Kd.S_slice hs6
  have HX := Aside0.mk (Kd.S_mono (Kd.S_bound hs6) (fun k_ h_ => (⟨h_.2.1, h_.2.2.1⟩ : w5.heap.size ≤ k_ ∧ k_ < w6.heap.size)))
  clear hs6
  have ca0a := fun o => keepC ca0 (below_alloc (Below.refl w6.heap.size w6) o)
  have ca1a := fun o => keepC ca1 (below_alloc (Below.refl w6.heap.size w6) o)
  have cs0a := fun o => keepC cs0 (below_alloc (Below.refl w6.heap.size w6) o)
  have cs1a := fun o => keepC cs1 (below_alloc (Below.refl w6.heap.size w6) o)
  go_wp2_with fail
  clear ca0a
  clear ca1a
  clear cs0a
  clear cs1a
  have hbw7 := below_alloc (Below.refl w6.heap.size w6) (.cells #[.int .i64 x1, .slice A6 x2.length c6] 28 (0, 0))
  have cx0 : (w6.alloc (.cells #[.int .i64 x1, .slice A6 x2.length c6] 28 (0, 0))).cell? ⟨w6.heap.size, 0, none⟩ = some (.int .i64 x1) := (blk_cell (blk_new w6 _) 0).trans rfl
  have cx1 : (w6.alloc (.cells #[.int .i64 x1, .slice A6 x2.length c6] 28 (0, 0))).cell? ⟨w6.heap.size, 1, none⟩ = some (.slice A6 x2.length c6) := (blk_cell (blk_new w6 _) 1).trans rfl
  have Qw7 := Aside0.mk (show (w6.alloc (.cells #[.int .i64 x1, .slice A6 x2.length c6] 28 (0, 0))).heap.size = w6.heap.size + 1 by simp)
  generalize w6.alloc (.cells #[.int .i64 x1, .slice A6 x2.length c6] 28 (0, 0)) = w7 at hbw7 cx0 cx1 Qw7 ⊢
  replace ca0 := keepC ca0 hbw7
  replace ca1 := keepC ca1 hbw7
  replace cs0 := keepC cs0 hbw7
  replace cs1 := keepC cs1 hbw7
  replace HS := Aside0.mk (Kd.S_below HS.out hbw7)
  replace HX := Aside0.mk (Kd.S_below HX.out hbw7)
  have Zw7 := Aside0.mk hbw7.size
  replace HB1 := Aside0.mk (below_step HB1.out hbw7)
  clear hbw7
  refine (impl_CfgTrim.calls k x1 _ _ x2 g1 g2 w7 (Kd.S_reads' HX.out).2.2 (Kd.S_reads' HX.out).2.1 HIM.out).mono ?_
  rintro e w8 ⟨v8, rfl, hs8, hbw8⟩
  replace ca0 := keepC ca0 hbw8
  replace ca1 := keepC ca1 hbw8
  replace cs0 := keepC cs0 hbw8
  replace cs1 := keepC cs1 hbw8
  replace cx0 := keepC cx0 hbw8
  replace cx1 := keepC cx1 hbw8
  replace HS := Aside0.mk (Kd.S_below HS.out hbw8)
  replace HX := Aside0.mk (Kd.S_below HX.out hbw8)
  have Zw8 := Aside0.mk hbw8.size
  replace HB1 := Aside0.mk (below_step HB1.out hbw8)
  clear hbw8
  obtain ⟨A8, c8, rfl⟩ := Kd.S_slice hs8
  have HG := Aside0.mk (Kd.S_mono (Kd.S_bound hs8) (fun k_ h_ => (⟨h_.2.1, h_.2.2.1⟩ : w7.heap.size ≤ k_ ∧ k_ < w8.heap.size)))
  clear hs8
  have ca0a := fun o => keepC ca0 (below_alloc (Below.refl w8.heap.size w8) o)
  have ca1a := fun o => keepC ca1 (below_alloc (Below.refl w8.heap.size w8) o)
  have cs0a := fun o => keepC cs0 (below_alloc (Below.refl w8.heap.size w8) o)
  have cs1a := fun o => keepC cs1 (below_alloc (Below.refl w8.heap.size w8) o)
  have cx0a := fun o => keepC cx0 (below_alloc (Below.refl w8.heap.size w8) o)
  have cx1a := fun o => keepC cx1 (below_alloc (Below.refl w8.heap.size w8) o)
  go_wp2_with fail
  clear ca0a
  clear ca1a
  clear cs0a
  clear cs1a
  clear cx0a
  clear cx1a
  have hbw9 := below_alloc (Below.refl w8.heap.size w8) (.cells #[.int .i64 g1, .slice A8 g2.length c8] 28 (0, 0))
  have cg0 : (w8.alloc (.cells #[.int .i64 g1, .slice A8 g2.length c8] 28 (0, 0))).cell? ⟨w8.heap.size, 0, none⟩ = some (.int .i64 g1) := (blk_cell (blk_new w8 _) 0).trans rfl
  have cg1 : (w8.alloc (.cells #[.int .i64 g1, .slice A8 g2.length c8] 28 (0, 0))).cell? ⟨w8.heap.size, 1, none⟩ = some (.slice A8 g2.length c8) := (blk_cell (blk_new w8 _) 1).trans rfl
  have Qw9 := Aside0.mk (show (w8.alloc (.cells #[.int .i64 g1, .slice A8 g2.length c8] 28 (0, 0))).heap.size = w8.heap.size + 1 by simp)
  generalize w8.alloc (.cells #[.int .i64 g1, .slice A8 g2.length c8] 28 (0, 0)) = w9 at hbw9 cg0 cg1 Qw9 ⊢
  replace ca0 := keepC ca0 hbw9
  replace ca1 := keepC ca1 hbw9
  replace cs0 := keepC cs0 hbw9
  replace cs1 := keepC cs1 hbw9
  replace cx0 := keepC cx0 hbw9
  replace cx1 := keepC cx1 hbw9
  replace HS := Aside0.mk (Kd.S_below HS.out hbw9)
  replace HX := Aside0.mk (Kd.S_below HX.out hbw9)
  replace HG := Aside0.mk (Kd.S_below HG.out hbw9)
  have Zw9 := Aside0.mk hbw9.size
  replace HB1 := Aside0.mk (below_step HB1.out hbw9)
  clear hbw9
  refine (laws_eqCfg.calls k g1 _ _ g2 s1 _ _ s2 true w9 (Kd.S_reads' HG.out).2.2 (Kd.S_reads' HG.out).2.1 (Kd.S_reads' HS.out).2.2 (Kd.S_reads' HS.out).2.1 HE1.out).mono ?_
  rintro e w10 ⟨rfl, hbw10⟩
  replace ca0 := keepC ca0 hbw10
  replace ca1 := keepC ca1 hbw10
  replace cs0 := keepC cs0 hbw10
  replace cs1 := keepC cs1 hbw10
  replace cx0 := keepC cx0 hbw10
  replace cx1 := keepC cx1 hbw10
  replace cg0 := keepC cg0 hbw10
  replace cg1 := keepC cg1 hbw10
  replace HS := Aside0.mk (Kd.S_below HS.out hbw10)
  replace HX := Aside0.mk (Kd.S_below HX.out hbw10)
  replace HG := Aside0.mk (Kd.S_below HG.out hbw10)
  have Zw10 := Aside0.mk hbw10.size
  replace HB1 := Aside0.mk (below_step HB1.out hbw10)
  clear hbw10
  -- point 7 W
  go_wp2_with fail
  -- point 8 behind W
  refine start_ (n := 5) (S := fun w' => w'.cell? ⟨w6.heap.size, 0, none⟩ = some (.int .i64 x1) ∧ w'.cell? ⟨w6.heap.size, 1, none⟩ = some (.slice A6 x2.length c6) ∧ w'.cell? ⟨w.heap.size, 0, none⟩ = some (.int .i64 a0_0) ∧ w'.cell? ⟨w.heap.size, 1, none⟩ = some (.slice A0_1 l0_1.length c0_1)) (ds := []) #[false, false, false, false, false] (by kernel_rfl) rfl rfl ⟨cx0, cx1, ca0, ca1⟩ (fun hHeld => ?_)
  have hbw11 := below_drew (Below.refl w10.heap.size w10)
  generalize w10.drew = w11 at hbw11 hHeld ⊢
  replace ca0 := keepC ca0 hbw11
  replace ca1 := keepC ca1 hbw11
  replace cs0 := keepC cs0 hbw11
  replace cs1 := keepC cs1 hbw11
  replace cx0 := keepC cx0 hbw11
  replace cx1 := keepC cx1 hbw11
  replace cg0 := keepC cg0 hbw11
  replace cg1 := keepC cg1 hbw11
  replace HS := Aside0.mk (Kd.S_below HS.out hbw11)
  replace HX := Aside0.mk (Kd.S_below HX.out hbw11)
  replace HG := Aside0.mk (Kd.S_below HG.out hbw11)
  have Zw11 := Aside0.mk hbw11.size
  replace HB1 := Aside0.mk (below_step HB1.out hbw11)
  clear hbw11
  refine take_ (i := 0) (N := some 27) (v := ?_) (a' := ?_) #[true, false, false, false, false] rfl rfl (by kernel_rfl) (fun _ _ _ h => h) (Or.inl ⟨by rfl, ?_⟩) hHeld ?_ ?_
  rotate_left
  · rintro w' ⟨s0, s1, s2, s3⟩
    go_simp
    with_reducible rfl
  rotate_left
  · simp only [Act.put, List.setIfInBounds_toArray, List.set_cons_zero, List.set_cons_succ, i64_w, i32_w]
    rfl
  refine take_ (i := 1) (N := some 28) (v := ?_) (a' := ?_) #[true, true, false, false, false] rfl rfl (by kernel_rfl) (fun _ _ _ h => h) (Or.inl ⟨by rfl, ?_⟩) hHeld ?_ ?_
  rotate_left
  · rintro w' ⟨s0, s1, s2, s3⟩
    go_simp
    with_reducible rfl
  rotate_left
  · simp only [Act.put, List.setIfInBounds_toArray, List.set_cons_zero, List.set_cons_succ, i64_w, i32_w]
    rfl
  refine one_ (i := 2) (N := some 29) #[true, true, true, false, false] rfl rfl (by kernel_rfl) (by decide) (fun K hK => ?_)
  refine goes_ Try.func6 (by kernel_rfl) rfl #[.agg #[.int .i64 a0_0, .slice A0_1 l0_1.length c0_1]] (by rfl) rfl rfl (by (try simp only [List.map_toArray, List.map_cons, List.map_nil]); first | done | rfl) ?_
  refine (laws_toCfg.calls k a0_0 _ _ l0_1 x1 x2 w11 (Kd.C_below HR0.out HB1.out) HC.out HTO.out).mono ?_
  rintro e w12 ⟨v12, rfl, hs12, hbw12⟩
  replace ca0 := keepC ca0 hbw12
  replace ca1 := keepC ca1 hbw12
  replace cs0 := keepC cs0 hbw12
  replace cs1 := keepC cs1 hbw12
  replace cx0 := keepC cx0 hbw12
  replace cx1 := keepC cx1 hbw12
  replace cg0 := keepC cg0 hbw12
  replace cg1 := keepC cg1 hbw12
  replace HS := Aside0.mk (Kd.S_below HS.out hbw12)
  replace HX := Aside0.mk (Kd.S_below HX.out hbw12)
  replace HG := Aside0.mk (Kd.S_below HG.out hbw12)
  have Zw12 := Aside0.mk hbw12.size
  replace HB1 := Aside0.mk (below_step HB1.out hbw12)
  clear hbw12
  obtain ⟨A12, c12, rfl⟩ := Kd.S_slice hs12
  have HT := Aside0.mk (Kd.S_mono (Kd.S_bound hs12) (fun k_ h_ => (⟨h_.2.1, h_.2.2.1⟩ : w11.heap.size ≤ k_ ∧ k_ < w12.heap.size)))
  clear hs12
  refine ⟨_, rfl, ?_⟩
  clear hHeld
  refine hK.out _ _ ⟨cx0, cx1, ca0, ca1⟩ (fun hHeld => ?_)
  clear hK K
  refine norm_ (a' := ?_) ?_ ?_
  rotate_left
  · show Act.put _ (some 29) _ = _
    simp only [Act.put, List.setIfInBounds_toArray, List.set_cons_zero, List.set_cons_succ, i64_w, i32_w]
    rfl
  refine one_ (i := 3) (N := some 30) #[true, true, true, true, false] rfl rfl (by kernel_rfl) (by decide) (fun K hK => ?_)
  refine goes_ Try.func8 (by kernel_rfl) rfl #[.agg #[.int .i64 x1, .slice A6 x2.length c6], .agg #[.int .i64 x1, .slice A12 x2.length c12]] (by rfl) rfl rfl (by (try simp only [List.map_toArray, List.map_cons, List.map_nil]); first | done | rfl) ?_
  refine (laws_eqCfg.calls k x1 _ _ x2 x1 _ _ x2 true w12 (Kd.S_reads' HX.out).2.2 (Kd.S_reads' HX.out).2.1 (Kd.S_reads' HT.out).2.2 (Kd.S_reads' HT.out).2.1 HE2.out).mono ?_
  rintro e w13 ⟨rfl, hbw13⟩
  replace ca0 := keepC ca0 hbw13
  replace ca1 := keepC ca1 hbw13
  replace cs0 := keepC cs0 hbw13
  replace cs1 := keepC cs1 hbw13
  replace cx0 := keepC cx0 hbw13
  replace cx1 := keepC cx1 hbw13
  replace cg0 := keepC cg0 hbw13
  replace cg1 := keepC cg1 hbw13
  replace HS := Aside0.mk (Kd.S_below HS.out hbw13)
  replace HX := Aside0.mk (Kd.S_below HX.out hbw13)
  replace HG := Aside0.mk (Kd.S_below HG.out hbw13)
  replace HT := Aside0.mk (Kd.S_below HT.out hbw13)
  have Zw13 := Aside0.mk hbw13.size
  replace HB1 := Aside0.mk (below_step HB1.out hbw13)
  clear hbw13
  refine ⟨_, rfl, ?_⟩
  clear hHeld
  refine hK.out _ _ ⟨cx0, cx1, ca0, ca1⟩ (fun hHeld => ?_)
  clear hK K
  refine norm_ (a' := ?_) ?_ ?_
  rotate_left
  · show Act.put _ (some 30) _ = _
    simp only [Act.put, List.setIfInBounds_toArray, List.set_cons_zero, List.set_cons_succ, i64_w, i32_w]
    rfl
  refine pure_ (i := 4) (N := some 31) (v := ?_) (a' := ?_) #[true, true, true, true, true] rfl rfl (by kernel_rfl) (fun _ _ _ h => h) (Or.inl ⟨by rfl, ?_⟩) ?_ ?_
  rotate_left
  · intro w'
    go_simp
    with_reducible rfl
  rotate_left
  · simp only [Act.put, List.setIfInBounds_toArray, List.set_cons_zero, List.set_cons_succ, i64_w, i32_w]
    rfl
  refine done_ (by kernel_rfl) ?_
  clear HT hHeld
  -- point 9 W
  go_wp2_with fail
  -- point 10 behind W
  have ZL := Aside0.mk (show w.heap.size ≤ w5.heap.size by have := Q1.out; have := Zw2.out; have := Zw3.out; have := Zw4.out; have := Qw5.out; have := Zw5.out; have := Zw6.out; have := Qw7.out; have := Zw7.out; have := Zw8.out; have := Qw9.out; have := Zw9.out; have := Zw10.out; have := Zw11.out; have := Zw12.out; have := Zw13.out; omega)
  refine (laws_markCfg.calls k (fun k_ => w5.heap.size ≤ k_ ∧ k_ < w6.heap.size) _ x1 x2 1 y1 y2 w w13 HB1.out (Kd.S_lower HX.out ZL.out) HMX.out).mono ?_
  rintro e w14 ⟨rfl, hsw14, hbw14, hkw14⟩
  replace ca0 := keepK ca0 hkw14 (fun h_ => by have a_ : w5.heap.size ≤ w.heap.size ∧ w.heap.size < w6.heap.size := h_; clear h_; have := Q1.out; have := Zw2.out; have := Zw3.out; have := Zw4.out; have := Qw5.out; have := Zw5.out; have := Zw6.out; have := Qw7.out; have := Zw7.out; have := Zw8.out; have := Qw9.out; have := Zw9.out; have := Zw10.out; have := Zw11.out; have := Zw12.out; have := Zw13.out; omega)
  replace ca1 := keepK ca1 hkw14 (fun h_ => by have a_ : w5.heap.size ≤ w.heap.size ∧ w.heap.size < w6.heap.size := h_; clear h_; have := Q1.out; have := Zw2.out; have := Zw3.out; have := Zw4.out; have := Qw5.out; have := Zw5.out; have := Zw6.out; have := Qw7.out; have := Zw7.out; have := Zw8.out; have := Qw9.out; have := Zw9.out; have := Zw10.out; have := Zw11.out; have := Zw12.out; have := Zw13.out; omega)
  replace cs0 := keepK cs0 hkw14 (fun h_ => by have a_ : w5.heap.size ≤ w4.heap.size ∧ w4.heap.size < w6.heap.size := h_; clear h_; have := Q1.out; have := Zw2.out; have := Zw3.out; have := Zw4.out; have := Qw5.out; have := Zw5.out; have := Zw6.out; have := Qw7.out; have := Zw7.out; have := Zw8.out; have := Qw9.out; have := Zw9.out; have := Zw10.out; have := Zw11.out; have := Zw12.out; have := Zw13.out; omega)
  replace cs1 := keepK cs1 hkw14 (fun h_ => by have a_ : w5.heap.size ≤ w4.heap.size ∧ w4.heap.size < w6.heap.size := h_; clear h_; have := Q1.out; have := Zw2.out; have := Zw3.out; have := Zw4.out; have := Qw5.out; have := Zw5.out; have := Zw6.out; have := Qw7.out; have := Zw7.out; have := Zw8.out; have := Qw9.out; have := Zw9.out; have := Zw10.out; have := Zw11.out; have := Zw12.out; have := Zw13.out; omega)
  replace cx0 := keepK cx0 hkw14 (fun h_ => by have a_ : w5.heap.size ≤ w6.heap.size ∧ w6.heap.size < w6.heap.size := h_; clear h_; have := Q1.out; have := Zw2.out; have := Zw3.out; have := Zw4.out; have := Qw5.out; have := Zw5.out; have := Zw6.out; have := Qw7.out; have := Zw7.out; have := Zw8.out; have := Qw9.out; have := Zw9.out; have := Zw10.out; have := Zw11.out; have := Zw12.out; have := Zw13.out; omega)
  replace cx1 := keepK cx1 hkw14 (fun h_ => by have a_ : w5.heap.size ≤ w6.heap.size ∧ w6.heap.size < w6.heap.size := h_; clear h_; have := Q1.out; have := Zw2.out; have := Zw3.out; have := Zw4.out; have := Qw5.out; have := Zw5.out; have := Zw6.out; have := Qw7.out; have := Zw7.out; have := Zw8.out; have := Qw9.out; have := Zw9.out; have := Zw10.out; have := Zw11.out; have := Zw12.out; have := Zw13.out; omega)
  replace cg0 := keepK cg0 hkw14 (fun h_ => by have a_ : w5.heap.size ≤ w8.heap.size ∧ w8.heap.size < w6.heap.size := h_; clear h_; have := Q1.out; have := Zw2.out; have := Zw3.out; have := Zw4.out; have := Qw5.out; have := Zw5.out; have := Zw6.out; have := Qw7.out; have := Zw7.out; have := Zw8.out; have := Qw9.out; have := Zw9.out; have := Zw10.out; have := Zw11.out; have := Zw12.out; have := Zw13.out; omega)
  replace cg1 := keepK cg1 hkw14 (fun h_ => by have a_ : w5.heap.size ≤ w8.heap.size ∧ w8.heap.size < w6.heap.size := h_; clear h_; have := Q1.out; have := Zw2.out; have := Zw3.out; have := Zw4.out; have := Qw5.out; have := Zw5.out; have := Zw6.out; have := Qw7.out; have := Zw7.out; have := Zw8.out; have := Qw9.out; have := Zw9.out; have := Zw10.out; have := Zw11.out; have := Zw12.out; have := Zw13.out; omega)
  replace HS := Aside0.mk (Kd.S_kept HS.out hkw14 (fun k_ h_ hS_ => by have a_ : w3.heap.size ≤ k_ ∧ k_ < w4.heap.size := h_; have b_ : w5.heap.size ≤ k_ ∧ k_ < w6.heap.size := hS_; clear h_ hS_; have := Q1.out; have := Zw2.out; have := Zw3.out; have := Zw4.out; have := Qw5.out; have := Zw5.out; have := Zw6.out; have := Qw7.out; have := Zw7.out; have := Zw8.out; have := Qw9.out; have := Zw9.out; have := Zw10.out; have := Zw11.out; have := Zw12.out; have := Zw13.out; omega))
  replace HG := Aside0.mk (Kd.S_kept HG.out hkw14 (fun k_ h_ hS_ => by have a_ : w7.heap.size ≤ k_ ∧ k_ < w8.heap.size := h_; have b_ : w5.heap.size ≤ k_ ∧ k_ < w6.heap.size := hS_; clear h_ hS_; have := Q1.out; have := Zw2.out; have := Zw3.out; have := Zw4.out; have := Qw5.out; have := Zw5.out; have := Zw6.out; have := Qw7.out; have := Zw7.out; have := Zw8.out; have := Qw9.out; have := Zw9.out; have := Zw10.out; have := Zw11.out; have := Zw12.out; have := Zw13.out; omega))
  have Zw14 := Aside0.mk hkw14.1
  replace HB1 := Aside0.mk hbw14
  clear HX hsw14 hbw14 hkw14 ZL
  -- point 11 W
  go_wp2_with fail
  -- point 12 behind W
  refine (laws_eqCfg.calls k g1 _ _ g2 s1 _ _ s2 true w14 (Kd.S_reads' HG.out).2.2 (Kd.S_reads' HG.out).2.1 (Kd.S_reads' HS.out).2.2 (Kd.S_reads' HS.out).2.1 HE1.out).mono ?_
  rintro e w15 ⟨rfl, hbw15⟩
  replace ca0 := keepC ca0 hbw15
  replace ca1 := keepC ca1 hbw15
  replace cs0 := keepC cs0 hbw15
  replace cs1 := keepC cs1 hbw15
  replace cx0 := keepC cx0 hbw15
  replace cx1 := keepC cx1 hbw15
  replace cg0 := keepC cg0 hbw15
  replace cg1 := keepC cg1 hbw15
  replace HS := Aside0.mk (Kd.S_below HS.out hbw15)
  replace HG := Aside0.mk (Kd.S_below HG.out hbw15)
  have Zw15 := Aside0.mk hbw15.size
  replace HB1 := Aside0.mk (below_step HB1.out hbw15)
  clear hbw15
  -- point 13 W
  go_wp2_with fail
  -- point 14 behind W
  have ZL := Aside0.mk (show w.heap.size ≤ w7.heap.size by have := Q1.out; have := Zw2.out; have := Zw3.out; have := Zw4.out; have := Qw5.out; have := Zw5.out; have := Zw6.out; have := Qw7.out; have := Zw7.out; have := Zw8.out; have := Qw9.out; have := Zw9.out; have := Zw10.out; have := Zw11.out; have := Zw12.out; have := Zw13.out; have := Zw14.out; have := Zw15.out; omega)
  refine (laws_markCfg.calls k (fun k_ => w7.heap.size ≤ k_ ∧ k_ < w8.heap.size) _ g1 g2 1 q z2 w w15 HB1.out (Kd.S_lower HG.out ZL.out) HMG.out).mono ?_
  rintro e w16 ⟨rfl, hsw16, hbw16, hkw16⟩
  replace ca0 := keepK ca0 hkw16 (fun h_ => by have a_ : w7.heap.size ≤ w.heap.size ∧ w.heap.size < w8.heap.size := h_; clear h_; have := Q1.out; have := Zw2.out; have := Zw3.out; have := Zw4.out; have := Qw5.out; have := Zw5.out; have := Zw6.out; have := Qw7.out; have := Zw7.out; have := Zw8.out; have := Qw9.out; have := Zw9.out; have := Zw10.out; have := Zw11.out; have := Zw12.out; have := Zw13.out; have := Zw14.out; have := Zw15.out; omega)
  replace ca1 := keepK ca1 hkw16 (fun h_ => by have a_ : w7.heap.size ≤ w.heap.size ∧ w.heap.size < w8.heap.size := h_; clear h_; have := Q1.out; have := Zw2.out; have := Zw3.out; have := Zw4.out; have := Qw5.out; have := Zw5.out; have := Zw6.out; have := Qw7.out; have := Zw7.out; have := Zw8.out; have := Qw9.out; have := Zw9.out; have := Zw10.out; have := Zw11.out; have := Zw12.out; have := Zw13.out; have := Zw14.out; have := Zw15.out; omega)
  replace cs0 := keepK cs0 hkw16 (fun h_ => by have a_ : w7.heap.size ≤ w4.heap.size ∧ w4.heap.size < w8.heap.size := h_; clear h_; have := Q1.out; have := Zw2.out; have := Zw3.out; have := Zw4.out; have := Qw5.out; have := Zw5.out; have := Zw6.out; have := Qw7.out; have := Zw7.out; have := Zw8.out; have := Qw9.out; have := Zw9.out; have := Zw10.out; have := Zw11.out; have := Zw12.out; have := Zw13.out; have := Zw14.out; have := Zw15.out; omega)
  replace cs1 := keepK cs1 hkw16 (fun h_ => by have a_ : w7.heap.size ≤ w4.heap.size ∧ w4.heap.size < w8.heap.size := h_; clear h_; have := Q1.out; have := Zw2.out; have := Zw3.out; have := Zw4.out; have := Qw5.out; have := Zw5.out; have := Zw6.out; have := Qw7.out; have := Zw7.out; have := Zw8.out; have := Qw9.out; have := Zw9.out; have := Zw10.out; have := Zw11.out; have := Zw12.out; have := Zw13.out; have := Zw14.out; have := Zw15.out; omega)
  replace cx0 := keepK cx0 hkw16 (fun h_ => by have a_ : w7.heap.size ≤ w6.heap.size ∧ w6.heap.size < w8.heap.size := h_; clear h_; have := Q1.out; have := Zw2.out; have := Zw3.out; have := Zw4.out; have := Qw5.out; have := Zw5.out; have := Zw6.out; have := Qw7.out; have := Zw7.out; have := Zw8.out; have := Qw9.out; have := Zw9.out; have := Zw10.out; have := Zw11.out; have := Zw12.out; have := Zw13.out; have := Zw14.out; have := Zw15.out; omega)
  replace cx1 := keepK cx1 hkw16 (fun h_ => by have a_ : w7.heap.size ≤ w6.heap.size ∧ w6.heap.size < w8.heap.size := h_; clear h_; have := Q1.out; have := Zw2.out; have := Zw3.out; have := Zw4.out; have := Qw5.out; have := Zw5.out; have := Zw6.out; have := Qw7.out; have := Zw7.out; have := Zw8.out; have := Qw9.out; have := Zw9.out; have := Zw10.out; have := Zw11.out; have := Zw12.out; have := Zw13.out; have := Zw14.out; have := Zw15.out; omega)
  replace cg0 := keepK cg0 hkw16 (fun h_ => by have a_ : w7.heap.size ≤ w8.heap.size ∧ w8.heap.size < w8.heap.size := h_; clear h_; have := Q1.out; have := Zw2.out; have := Zw3.out; have := Zw4.out; have := Qw5.out; have := Zw5.out; have := Zw6.out; have := Qw7.out; have := Zw7.out; have := Zw8.out; have := Qw9.out; have := Zw9.out; have := Zw10.out; have := Zw11.out; have := Zw12.out; have := Zw13.out; have := Zw14.out; have := Zw15.out; omega)
  replace cg1 := keepK cg1 hkw16 (fun h_ => by have a_ : w7.heap.size ≤ w8.heap.size ∧ w8.heap.size < w8.heap.size := h_; clear h_; have := Q1.out; have := Zw2.out; have := Zw3.out; have := Zw4.out; have := Qw5.out; have := Zw5.out; have := Zw6.out; have := Qw7.out; have := Zw7.out; have := Zw8.out; have := Qw9.out; have := Zw9.out; have := Zw10.out; have := Zw11.out; have := Zw12.out; have := Zw13.out; have := Zw14.out; have := Zw15.out; omega)
  replace HS := Aside0.mk (Kd.S_kept HS.out hkw16 (fun k_ h_ hS_ => by have a_ : w3.heap.size ≤ k_ ∧ k_ < w4.heap.size := h_; have b_ : w7.heap.size ≤ k_ ∧ k_ < w8.heap.size := hS_; clear h_ hS_; have := Q1.out; have := Zw2.out; have := Zw3.out; have := Zw4.out; have := Qw5.out; have := Zw5.out; have := Zw6.out; have := Qw7.out; have := Zw7.out; have := Zw8.out; have := Qw9.out; have := Zw9.out; have := Zw10.out; have := Zw11.out; have := Zw12.out; have := Zw13.out; have := Zw14.out; have := Zw15.out; omega))
  have Zw16 := Aside0.mk hkw16.1
  replace HB1 := Aside0.mk hbw16
  replace HG := Aside0.mk hsw16
  have HLEN := Aside0.mk (Kd.S_reads' hsw16).1
  clear hsw16 hbw16 hkw16 ZL
  -- point 15 W
  go_wp2_with fail
  -- point 16 behind W
  have hcall := laws_heldCfg.calls k g1 _ _ z2 1 q w16 (Kd.S_reads' HG.out).2.2 (by rw [← HLEN.out]; exact (Kd.S_reads' HG.out).2.1) HHE.out
  rw [← HLEN.out] at hcall
  refine (hcall).mono ?_
  rintro e w17 ⟨rfl, hbw17⟩
  clear hcall
  replace ca0 := keepC ca0 hbw17
  replace ca1 := keepC ca1 hbw17
  replace cs0 := keepC cs0 hbw17
  replace cs1 := keepC cs1 hbw17
  replace cx0 := keepC cx0 hbw17
  replace cx1 := keepC cx1 hbw17
  replace cg0 := keepC cg0 hbw17
  replace cg1 := keepC cg1 hbw17
  replace HS := Aside0.mk (Kd.S_below HS.out hbw17)
  replace HG := Aside0.mk (Kd.S_below HG.out hbw17)
  have Zw17 := Aside0.mk hbw17.size
  replace HB1 := Aside0.mk (below_step HB1.out hbw17)
  clear hbw17
  -- point 17 W
  go_wp2_with fail
  -- point 18 behind W
  refine (laws_toCfg.calls k a0_0 _ _ l0_1 x1 x2 w17 (Kd.C_below HR0.out HB1.out) HC.out HTO.out).mono ?_
  rintro e w18 ⟨v18, rfl, hs18, hbw18⟩
  replace ca0 := keepC ca0 hbw18
  replace ca1 := keepC ca1 hbw18
  replace cs0 := keepC cs0 hbw18
  replace cs1 := keepC cs1 hbw18
  replace cx0 := keepC cx0 hbw18
  replace cx1 := keepC cx1 hbw18
  replace cg0 := keepC cg0 hbw18
  replace cg1 := keepC cg1 hbw18
  replace HS := Aside0.mk (Kd.S_below HS.out hbw18)
  replace HG := Aside0.mk (Kd.S_below HG.out hbw18)
  have Zw18 := Aside0.mk hbw18.size
  replace HB1 := Aside0.mk (below_step HB1.out hbw18)
  clear hbw18
  obtain ⟨A18, c18, rfl⟩ := Kd.S_slice hs18
  have HT := Aside0.mk (Kd.S_mono (Kd.S_bound hs18) (fun k_ h_ => (⟨h_.2.1, h_.2.2.1⟩ : w17.heap.size ≤ k_ ∧ k_ < w18.heap.size)))
  clear hs18
  -- point 19 W
  go_wp2_with fail
  -- point 20 behind W
  refine (impl_CfgTrim.calls k x1 _ _ x2 g1 g2 w18 (Kd.S_reads' HT.out).2.2 (Kd.S_reads' HT.out).2.1 HIM.out).mono ?_
  rintro e w19 ⟨v19, rfl, hs19, hbw19⟩
  clear HT
  replace ca0 := keepC ca0 hbw19
  replace ca1 := keepC ca1 hbw19
  replace cs0 := keepC cs0 hbw19
  replace cs1 := keepC cs1 hbw19
  replace cx0 := keepC cx0 hbw19
  replace cx1 := keepC cx1 hbw19
  replace cg0 := keepC cg0 hbw19
  replace cg1 := keepC cg1 hbw19
  replace HS := Aside0.mk (Kd.S_below HS.out hbw19)
  replace HG := Aside0.mk (Kd.S_below HG.out hbw19)
  have Zw19 := Aside0.mk hbw19.size
  replace HB1 := Aside0.mk (below_step HB1.out hbw19)
  clear hbw19
  obtain ⟨A19, c19, rfl⟩ := Kd.S_slice hs19
  have HH := Aside0.mk (Kd.S_mono (Kd.S_bound hs19) (fun k_ h_ => (⟨h_.2.1, h_.2.2.1⟩ : w18.heap.size ≤ k_ ∧ k_ < w19.heap.size)))
  clear hs19
  have ca0a := fun o => keepC ca0 (below_alloc (Below.refl w19.heap.size w19) o)
  have ca1a := fun o => keepC ca1 (below_alloc (Below.refl w19.heap.size w19) o)
  have cs0a := fun o => keepC cs0 (below_alloc (Below.refl w19.heap.size w19) o)
  have cs1a := fun o => keepC cs1 (below_alloc (Below.refl w19.heap.size w19) o)
  have cx0a := fun o => keepC cx0 (below_alloc (Below.refl w19.heap.size w19) o)
  have cx1a := fun o => keepC cx1 (below_alloc (Below.refl w19.heap.size w19) o)
  have cg0a := fun o => keepC cg0 (below_alloc (Below.refl w19.heap.size w19) o)
  have cg1a := fun o => keepC cg1 (below_alloc (Below.refl w19.heap.size w19) o)
  go_wp2_with fail
  clear ca0a
  clear ca1a
  clear cs0a
  clear cs1a
  clear cx0a
  clear cx1a
  clear cg0a
  clear cg1a
  have hbw20 := below_alloc (Below.refl w19.heap.size w19) (.cells #[.int .i64 g1, .slice A19 g2.length c19] 28 (0, 0))
  have ch0 : (w19.alloc (.cells #[.int .i64 g1, .slice A19 g2.length c19] 28 (0, 0))).cell? ⟨w19.heap.size, 0, none⟩ = some (.int .i64 g1) := (blk_cell (blk_new w19 _) 0).trans rfl
  have ch1 : (w19.alloc (.cells #[.int .i64 g1, .slice A19 g2.length c19] 28 (0, 0))).cell? ⟨w19.heap.size, 1, none⟩ = some (.slice A19 g2.length c19) := (blk_cell (blk_new w19 _) 1).trans rfl
  have Qw20 := Aside0.mk (show (w19.alloc (.cells #[.int .i64 g1, .slice A19 g2.length c19] 28 (0, 0))).heap.size = w19.heap.size + 1 by simp)
  generalize w19.alloc (.cells #[.int .i64 g1, .slice A19 g2.length c19] 28 (0, 0)) = w20 at hbw20 ch0 ch1 Qw20 ⊢
  replace ca0 := keepC ca0 hbw20
  replace ca1 := keepC ca1 hbw20
  replace cs0 := keepC cs0 hbw20
  replace cs1 := keepC cs1 hbw20
  replace cx0 := keepC cx0 hbw20
  replace cx1 := keepC cx1 hbw20
  replace cg0 := keepC cg0 hbw20
  replace cg1 := keepC cg1 hbw20
  replace HS := Aside0.mk (Kd.S_below HS.out hbw20)
  replace HG := Aside0.mk (Kd.S_below HG.out hbw20)
  replace HH := Aside0.mk (Kd.S_below HH.out hbw20)
  have Zw20 := Aside0.mk hbw20.size
  replace HB1 := Aside0.mk (below_step HB1.out hbw20)
  clear hbw20
  refine (laws_eqCfg.calls k g1 _ _ g2 s1 _ _ s2 true w20 (Kd.S_reads' HH.out).2.2 (Kd.S_reads' HH.out).2.1 (Kd.S_reads' HS.out).2.2 (Kd.S_reads' HS.out).2.1 HE1.out).mono ?_
  rintro e w21 ⟨rfl, hbw21⟩
  replace ca0 := keepC ca0 hbw21
  replace ca1 := keepC ca1 hbw21
  replace cs0 := keepC cs0 hbw21
  replace cs1 := keepC cs1 hbw21
  replace cx0 := keepC cx0 hbw21
  replace cx1 := keepC cx1 hbw21
  replace cg0 := keepC cg0 hbw21
  replace cg1 := keepC cg1 hbw21
  replace ch0 := keepC ch0 hbw21
  replace ch1 := keepC ch1 hbw21
  replace HS := Aside0.mk (Kd.S_below HS.out hbw21)
  replace HG := Aside0.mk (Kd.S_below HG.out hbw21)
  replace HH := Aside0.mk (Kd.S_below HH.out hbw21)
  have Zw21 := Aside0.mk hbw21.size
  replace HB1 := Aside0.mk (below_step HB1.out hbw21)
  clear hbw21
  -- point 21 W
  go_wp2_with fail
  -- point 22 behind W
  have hcall := laws_heldCfg.calls k g1 _ _ z2 1 q w21 (Kd.S_reads' HG.out).2.2 (by rw [← HLEN.out]; exact (Kd.S_reads' HG.out).2.1) HHE.out
  rw [← HLEN.out] at hcall
  refine (hcall).mono ?_
  rintro e w22 ⟨rfl, hbw22⟩
  clear hcall
  replace ca0 := keepC ca0 hbw22
  replace ca1 := keepC ca1 hbw22
  replace cs0 := keepC cs0 hbw22
  replace cs1 := keepC cs1 hbw22
  replace cx0 := keepC cx0 hbw22
  replace cx1 := keepC cx1 hbw22
  replace cg0 := keepC cg0 hbw22
  replace cg1 := keepC cg1 hbw22
  replace ch0 := keepC ch0 hbw22
  replace ch1 := keepC ch1 hbw22
  replace HS := Aside0.mk (Kd.S_below HS.out hbw22)
  replace HG := Aside0.mk (Kd.S_below HG.out hbw22)
  replace HH := Aside0.mk (Kd.S_below HH.out hbw22)
  have Zw22 := Aside0.mk hbw22.size
  replace HB1 := Aside0.mk (below_step HB1.out hbw22)
  clear hbw22
  -- point 23 W
  go_wp2_with fail
  -- point 24 behind W
  go_ret
  exact ⟨rfl, HB1.out⟩

end Go.Proofs.Ytcdmkjcaipohiaa.P
