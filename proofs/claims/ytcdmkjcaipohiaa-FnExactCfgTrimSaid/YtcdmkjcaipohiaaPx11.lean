-- Laid by a program for this claim (the printer, turned): Lean checks it.
import Derived.Test.YtcdmkjcaipohiaaPx0
import Derived.Test.YtcdmkjcaipohiaaPx10
namespace Go.Proofs.Ytcdmkjcaipohiaa.P
open Go.RowKit Go.Proofs.YtcdmkjcaipohiaaW.PrintWords Go.Proofs.YtcdmkjcaipohiaaW.PrintLast Go.Proofs.YtcdmkjcaipohiaaW.PrintMore
attribute [local go_sem] max2_int min2_int max_two min_two max_three min_three max_four min_four   -- for this text's walks alone
set_option linter.unusedVariables false
set_option linter.unusedSimpArgs false

/-! ### slices_Repeat_int_int: function 33 (told by hand) -/
theorem slices_Repeat.wu {n : Int} (h0 : 0 ≤ n) (h1 : n < 4294967296) : IntKind.u64.wrap n = n := by
  simp [IntKind.wrap, IntKind.bits, IntKind.signed]; omega
theorem slices_Repeat.mask {n : Int} (h0 : 0 ≤ n) (h1 : n < 4294967296) : Go.bits .and .u64 n 4294967295 = n := by
  have h := Go.bits_mask .u64 33 (by decide) (fun m h0 h1 => by simp [IntKind.wrap, IntKind.bits, IntKind.signed]; omega) 32 (by decide) n h0 (by omega)
  have e : ((2 : Int) ^ 32 - 1) = 4294967295 := by decide
  have e2 : ((2 : Int) ^ 32) = 4294967296 := by decide
  rw [e, e2] at h
  rw [h]
  omega
theorem slices_Repeat.mul {n : Int} (h0 : 0 ≤ n) (h1 : n < 4294967296) : bits_Mul.f 1 n = some (0, n) := by
  have d0 : n / 4294967296 = 0 := by omega
  have d1 : (1 : Int) / 4294967296 = 0 := by decide
  have w0 : IntKind.u64.wrap 0 = 0 := by decide
  have m1 : Go.bits .and .u64 1 4294967295 = 1 := slices_Repeat.mask (by decide) (by decide)
  have m0 : Go.bits .and .u64 0 4294967295 = 0 := slices_Repeat.mask (by decide) (by decide)
  unfold bits_Mul.f bits_Mul64.f
  simp only [d0, d1, m0, m1, slices_Repeat.mask h0 h1, Int.zero_mul, Int.mul_zero, Int.one_mul, slices_Repeat.wu h0 h1, w0, Int.add_zero, Int.zero_add, Option.bind_some]
  rfl



/-- The made row when m of its n numbers are filled. -/
def slices_Repeat.half (x : Int) (m n : Nat) : List Value := List.replicate m (.int .i64 x) ++ List.replicate (n - m) (.int .i64 0)
theorem slices_Repeat.half_len (x : Int) (m n : Nat) (h : m ≤ n) : (slices_Repeat.half x m n).length = n := by simp [slices_Repeat.half]; omega
theorem slices_Repeat.half_step (x : Int) (m q n : Nat) (h : m + q ≤ n) : splice (slices_Repeat.half x m n) m (List.replicate q (.int .i64 x)) = slices_Repeat.half x (m + q) n := by
  unfold splice slices_Repeat.half
  have e1 : (List.replicate m (Value.int .i64 x) ++ List.replicate (n - m) (Value.int .i64 0)).take m = List.replicate m (Value.int .i64 x) := by
    rw [List.take_append_of_le_length (by simp)]; simp
  have e2 : (List.replicate m (Value.int .i64 x) ++ List.replicate (n - m) (Value.int .i64 0)).drop (m + (List.replicate q (Value.int .i64 x)).length) = List.replicate (n - (m + q)) (Value.int .i64 0) := by
    rw [List.drop_append]; simp; omega
  rw [e1, e2]
  rw [← List.append_assoc, List.replicate_append_replicate]
theorem slices_Repeat.half_zero (x : Int) (n : Nat) : (madeCells #[Value.int .i64 0] n) = (slices_Repeat.half x 0 n).toArray := by
  have h : (madeCells #[Value.int .i64 0] n).toList = slices_Repeat.half x 0 n := by
    apply List.ext_getElem
    · simp [slices_Repeat.half, madeCells]
    · intro i h1 h2
      simp [slices_Repeat.half, madeCells, Nat.mod_one]
  rw [← h]
theorem slices_Repeat.half_get (x : Int) (m n j : Nat) (v : Value) (h : (List.replicate m (Value.int .i64 x))[j]? = some v) : (slices_Repeat.half x m n)[j]? = some v := by
  unfold slices_Repeat.half
  have hj : j < m := by have := (List.getElem?_eq_some_iff.1 h).1; simpa using this
  rw [List.getElem?_append_left (by simpa using hj)]
  exact h
theorem slices_Repeat.half_full (x : Int) (n : Nat) : slices_Repeat.half x n n = nums .i64 (List.replicate n x) := by
  simp [slices_Repeat.half, nums]

def slices_Repeat_int_int.f (l0 : List Int) (a1 : Int) : Option (List Int) := if l0.length = 1 ∧ 0 ≤ a1 ∧ a1 ≤ 1000000 then some (List.replicate a1.toNat (rd l0 0)) else none

set_option maxHeartbeats 1000000 in
set_option maxRecDepth 100000 in
theorem slices_Repeat_int_int.calls (A0 : Option Addr) (c0 : Nat) (l0 : List Int) (a1 : Int) (r : List Int) (w : World) (hr0 : Kd.C (Kd.int .i64) w A0 l0.length l0) (hc0 : l0.length ≤ c0) (h : slices_Repeat_int_int.f l0 a1 = some r) :
    Calls Try.prog 33 #[.slice A0 l0.length c0, .int .i64 a1] w fun e w' => ∃ v0_ : Value, e = .returned (v0_) ∧ Kd.R (Kd.int .i64) 3 w' w.heap.size (fun _ => True) v0_ r ∧ Below w.heap.size w w' := by
  unfold slices_Repeat_int_int.f at h
  split at h
  case isFalse => cases h
  rename_i hc
  obtain ⟨h1, h2, h3⟩ := hc
  obtain rfl := Option.some.inj h
  clear h
  obtain ⟨x, rfl⟩ := List.length_eq_one_iff.1 h1
  clear h1
  obtain ⟨ad, ea, hx⟩ := Kd.at_int hr0 0 (by omega) (by simp)
  cases ea
  rw [show ((0 : Int)).toNat = 0 from rfl, show rd [x] 0 = x from rfl, Addr.add_zero'] at hx
  have HMUL := Aside0.mk (slices_Repeat.mul h2 (by omega))
  have wn : IntKind.u64.wrap a1 = a1 := slices_Repeat.wu h2 (by omega)
  have wi : IntKind.i64.wrap a1 = a1 := by simp [IntKind.wrap, IntKind.bits, IntKind.signed]; omega
  obtain ⟨n, rfl⟩ := Int.eq_ofNat_of_zero_le h2
  have hmk := print_make_int (P := Try.prog) 36 3 (.int .i64 0) 8 Try.underlying36 info3 rfl (by decide) (n : Int) h2 (by simp; omega)
  rw [slices_Repeat.half_zero x] at hmk
  simp only [Int.toNat_natCast] at hmk
  have hlt : decide ((n : Int) < 0) = false := decide_eq_false (by omega)
  have HX := Aside0.mk hx
  have HLT := Aside0.mk (World.block_lt_of_cell? w _ hx)
  have hn3 : n ≤ 1000000 := by omega
  have HRET := Aside0.mk (show rd [x] 0 = x from rfl)
  clear hr0 hx h2 h3
  have HLEN0 := Aside0.mk (slices_Repeat.half_len x 0 n (Nat.zero_le _))
  have hsrc : ∀ (W : World), Below w.heap.size w W → ∀ (q j : Nat) (v : Value), q ≤ 1 → (List.replicate q (Value.int .i64 x))[j]? = some v → W.cell? (ad.add j) = some v := fun W hb q j v hq h => by
    have hj : j < q := by have := (List.getElem?_eq_some_iff.1 h).1; simpa using this
    obtain rfl : j = 0 := by omega
    rw [List.getElem?_replicate, if_pos hj] at h
    rw [← Option.some.inj h, Addr.add_zero']
    exact (hb.cell HLT.out).trans HX.out
  have HSRC := Aside0.mk hsrc
  clear hsrc
  go_enter Try.func33, Try.ntmps33
  go_wp2_with (first | (go_at_call 36; (with_reducible refine (bits_Mul.calls 1 _ 0 _ _ HMUL.out).mono ?_); rintro e w' ⟨rfl, ⟨nd, rfl⟩⟩) | ((with_reducible refine gate_builtin (b := .copy) (xs := #[.tmp 31, .tmp 32]) rfl ?_); refine wpList_copy_splice rfl (.tmp 31) (.tmp 32) 36 36 rfl 3 Try.underlying36 (by kernel_rfl) (some ⟨w.heap.size, 0, none⟩) (some ad) n n 1 c0 rfl rfl w.heap.size 0 (slices_Repeat.half x 0 n) 3 ?hg (List.replicate (min 1 n) (.int .i64 x)) ?hn ?hpos ?hfit ?h1 w.heap.size w ?hb (Nat.le_refl _) ?_; (case hg => simpa using blk_new (w.drewN nd) _); (case hn => simp); (case hpos => exact fun _ => ⟨rfl, ad, rfl, fun j v h => HSRC.out _ (below_alloc (pw_below_drewN (Below.refl _ _) _) _) _ j v (by omega) h⟩); (case hfit => rw [HLEN0.out]; simp; omega); (case h1 => intro v hv; rw [(List.mem_replicate.1 hv).2]; rfl); (case hb => exact below_alloc (pw_below_drewN (Below.refl _ _) _) _); intro w2 hg2 hb2; have HG := Aside0.mk hg2.out; have HB := Aside0.mk hb2; clear hg2 hb2; simp only [List.length_replicate]))
  rw [slices_Repeat.half_step x 0 (min 1 n) n (by omega), Nat.zero_add] at HG
  have hm0 : (n = 0 ∨ 1 ≤ min 1 n) := by omega
  have hm1 : min 1 n ≤ n := by omega
  generalize min 1 n = m0 at HG hm0 hm1 ⊢
  go_loopg [8] n (fun gg v8 wr => ∃ m : Nat, m ≤ n ∧ (n = 0 ∨ 1 ≤ m) ∧ n - m ≤ gg ∧ v8 = .int .i64 m ∧ Aside0 (wr.heap[w.heap.size]? = some (.cells (slices_Repeat.half x m n).toArray 3 (0, 0))) ∧ Aside0 (Below w.heap.size w wr))
  case atStart => exact ⟨m0, hm1, hm0, by omega, rfl, HG, HB⟩
  case round =>
    clear HG HB hm0 hm1
    obtain ⟨m, hm1, hm0, hg, rfl, HG, HB⟩ := hrel
    by_cases hlt : m < n
    · have hltz : (m : Int) < (n : Int) := by omega
      have hpos : 0 < m := by omega
      have HQ := Aside0.mk (slices_Repeat.half_step x m (min m (n - m)) n (by omega))
      have HL := Aside0.mk (slices_Repeat.half_len x m n hm1)
      have hcell : ∀ j v, (List.replicate (min m (n - m)) (Value.int .i64 x))[j]? = some v → wr.cell? ⟨w.heap.size, 0 + j, none⟩ = some v := fun j v h => by
        have hj : j < min m (n - m) := by have := (List.getElem?_eq_some_iff.1 h).1; simpa using this
        rw [List.getElem?_replicate, if_pos hj] at h
        have h2 := slices_Repeat.half_get x m n j v (by rw [List.getElem?_replicate, if_pos (by omega)]; exact h)
        rw [Nat.zero_add]
        exact (blk_cell HG.out j).trans (by simpa using h2)
      have HC := Aside0.mk hcell
      clear hcell
      have d1 : decide ((m : Int) < (n : Int)) = true := decide_eq_true hltz
      obtain ⟨i0, hi0, hzz⟩ := Option.map_eq_some_iff.1 info3
      have hi1 : i0.size = 1 := by simp only [Prod.mk.injEq] at hzz; exact hzz.2.1
      have hcA := cut_from (P := Try.prog) 36 3 .i64 Try.underlying36 hi0 1 hi1 (some ⟨w.heap.size, 0, none⟩) n n (m : Int) (by omega) (by omega)
      have hcB := cut_to (P := Try.prog) 36 3 .i64 Try.underlying36 hi0 (some ⟨w.heap.size, 0, none⟩) n n (m : Int) (by omega) (by omega) (Nat.le_refl _)
      simp only [Int.toNat_natCast] at hcA hcB
      rw [if_neg (by omega), show (some (⟨w.heap.size, 0, none⟩ : Addr)).map (·.add (m * 1)) = some ⟨w.heap.size, m, none⟩ from by rw [Nat.mul_one]; show some (Addr.add _ _) = _; rw [Addr.add_lit, Nat.zero_add]] at hcA
      clear hi0 hzz hi1
      have e0 : (0 : Int) ≤ (m : Int) := by omega
      have e1 : (m : Int) ≤ (n : Int) := by omega
      go_wp2
      go_region_law (refine step_copy_splice rfl (.tmp 41) (.tmp 44) 36 36 rfl 3 Try.underlying36 (by kernel_rfl) (some ⟨w.heap.size, m, none⟩) (some ⟨w.heap.size, 0, none⟩) (n - m) (n - m) m n (by go_simp) (by go_simp) w.heap.size m (slices_Repeat.half x m n) 3 ?hg (List.replicate (min m (n - m)) (.int .i64 x)) ?hn ?hpos ?hfit ?h1 w.heap.size w ?hb (Nat.le_refl _) ?_; (case hg => (with_reducible repeat (first | refine blk_drewN ?_ _ | refine blk_drew ?_)); exact HG.out); (case hn => simp); (case hpos => exact fun _ => ⟨rfl, _, rfl, fun j v h => by rw [Addr.add_lit]; simpa using HC.out j v h⟩); (case hfit => rw [HL.out]; simp; omega); (case h1 => intro v hv; rw [(List.mem_replicate.1 hv).2]; rfl); (case hb => repeat (first | exact HB.out | apply below_drew1 | apply pw_below_drewN)); intro w3 hg3 hb3)
      all_goals
        have HG3 := Aside0.mk (hg3.out.trans (by rw [HQ.out]))
        clear hg3
        have hq1 : m + min m (n - m) ≤ n := by omega
        have hq0 : (n = 0 ∨ 1 ≤ m + min m (n - m)) := by omega
        have hqm : n - (m + min m (n - m)) < gk := by omega
        go_wp2
        go_roundg (n - (m + min m (n - m)))
        case measure => exact hqm
        case rel =>
          exact ⟨m + min m (n - m), hq1, hq0, Nat.le_refl _, (by rw [Int.natCast_add]; exact congrArg (Value.int .i64) (by rw [IntKind.wrap_i64]; omega)), HG3, ⟨hb3⟩⟩
    · have : m = n := by omega
      subst this
      have hltz : ¬ (m : Int) < (m : Int) := by omega
      have HG2 := Aside0.mk (HG.out.trans (by rw [slices_Repeat.half_full]))
      clear HG
      go_wp2
      go_ret
      refine ⟨_, rfl, ?_, HB.out⟩
      refine Kd.R_of_own ?_ (fun _ _ => trivial)
      refine ⟨by simp [encs], Or.inr ⟨w.heap.size, m, (nums .i64 (List.replicate m x)).toArray, ?_, Nat.le_refl _, HG2.out, ?_, by unfold maxLen; omega, by simp [nums], ?_⟩⟩
      · simp
      · simp
      · simp [nums, encs, HRET.out]

end Go.Proofs.Ytcdmkjcaipohiaa.P
