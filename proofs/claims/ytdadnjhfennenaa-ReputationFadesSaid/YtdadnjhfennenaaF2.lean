/- ReputationFades: the plain law. -/
import Derived.Test.YtdadnjhfennenaaB10
set_option linter.unusedVariables false
set_option linter.unusedSimpArgs false
set_option maxHeartbeats 4000000
namespace Go.DL

theorem lv_mono {a b d : Int} (h : a ≤ b) : lv a d ≤ lv b d := by
  have p : (0:Int) < 2 ^ d.toNat := by exact_mod_cast Nat.pos_of_ne_zero (by simp)
  exact Int.ediv_le_ediv p h
theorem lv_zero {n d : Int} (h : 0 ≤ n) (h2 : n ≤ 1000000) (hd : 20 ≤ d) : lv n d = 0 := by
  unfold lv
  apply Int.ediv_eq_zero_of_lt h
  have : (2:Int) ^ 20 ≤ 2 ^ d.toNat := by exact_mod_cast Nat.pow_le_pow_right (by decide) (by omega)
  omega
theorem lv_add {n d e : Int} (hd : 0 ≤ d) (he : 0 ≤ e) : lv n (d + e) = lv (lv n d) e := by
  unfold lv
  have p : (0:Int) ≤ 2 ^ d.toNat := by exact_mod_cast Nat.zero_le (2 ^ d.toNat)
  rw [Int.ediv_ediv_of_nonneg p, ← Int.pow_add]
  congr 2; omega
theorem day_add (now days : Int) : dayOf (now + 86400 * days) = dayOf now + days := by unfold dayOf; omega
theorem score_pos {x : Sd} {now : Int} (h : 0 < scoreOf x now) (hg : 0 ≤ lv x.g (dayOf now - x.d) + lv x.b (dayOf now - x.d) + 1000) : lv x.b (dayOf now - x.d) < lv x.g (dayOf now - x.d) := by
  rcases Int.lt_or_le (lv x.b (dayOf now - x.d)) (lv x.g (dayOf now - x.d)) with h' | h'
  · exact h'
  · exfalso
    have : scoreOf x now ≤ 0 := by
      unfold scoreOf
      rw [show 1000 * (lv x.g (dayOf now - x.d) - lv x.b (dayOf now - x.d)) = -(1000 * (lv x.b (dayOf now - x.d) - lv x.g (dayOf now - x.d))) by omega, Int.neg_tdiv]
      have := Int.tdiv_nonneg (a := 1000 * (lv x.b (dayOf now - x.d) - lv x.g (dayOf now - x.d))) (by omega) hg
      omega
    omega
theorem score_neg {x : Sd} {now : Int} (h : scoreOf x now < 0) (hg : 0 ≤ lv x.g (dayOf now - x.d) + lv x.b (dayOf now - x.d) + 1000) : lv x.g (dayOf now - x.d) < lv x.b (dayOf now - x.d) := by
  rcases Int.lt_or_le (lv x.g (dayOf now - x.d)) (lv x.b (dayOf now - x.d)) with h' | h'
  · exact h'
  · exfalso
    have : 0 ≤ scoreOf x now := Int.tdiv_nonneg (by omega) hg
    omega
theorem fades {x : Sd} {now days : Int} (hr : rOk x) (hd : x.d ≤ dayOf now) (h0 : 0 ≤ days) :
    (30 ≤ days → scoreOf x (now + 86400 * days) = 0) ∧ (0 < scoreOf x now → 0 ≤ scoreOf x (now + 86400 * days)) ∧ (scoreOf x now < 0 → scoreOf x (now + 86400 * days) ≤ 0) := by
  unfold rOk at hr
  have e : dayOf (now + 86400 * days) - x.d = (dayOf now - x.d) + days := by rw [day_add]; omega
  have g0 := lv_le (n := x.g) (d := dayOf now - x.d) (by omega)
  have b0 := lv_le (n := x.b) (d := dayOf now - x.d) (by omega)
  have eg : lv x.g (dayOf (now + 86400 * days) - x.d) = lv (lv x.g (dayOf now - x.d)) days := by rw [e, lv_add (by omega) h0]
  have eb : lv x.b (dayOf (now + 86400 * days) - x.d) = lv (lv x.b (dayOf now - x.d)) days := by rw [e, lv_add (by omega) h0]
  have g1 := lv_le (n := lv x.g (dayOf now - x.d)) (d := days) (by omega)
  have b1 := lv_le (n := lv x.b (dayOf now - x.d)) (d := days) (by omega)
  refine ⟨fun h => ?_, fun h => ?_, fun h => ?_⟩
  · unfold scoreOf
    rw [eg, eb, lv_zero (by omega) (by omega) (by omega), lv_zero (by omega) (by omega) (by omega)]; rfl
  · have := lv_mono (d := days) (Int.le_of_lt (score_pos h (by omega)))
    unfold scoreOf
    rw [eg, eb]
    exact Int.tdiv_nonneg (by omega) (by omega)
  · have := lv_mono (d := days) (Int.le_of_lt (score_neg h (by omega)))
    unfold scoreOf
    rw [eg, eb, show 1000 * (lv (lv x.g (dayOf now - x.d)) days - lv (lv x.b (dayOf now - x.d)) days) = -(1000 * (lv (lv x.b (dayOf now - x.d)) days - lv (lv x.g (dayOf now - x.d)) days)) by omega, Int.neg_tdiv]
    have := Int.tdiv_nonneg (a := 1000 * (lv (lv x.b (dayOf now - x.d)) days - lv (lv x.g (dayOf now - x.d)) days)) (b := lv (lv x.g (dayOf now - x.d)) days + lv (lv x.b (dayOf now - x.d)) days + 1000) (by omega) (by omega)
    omega
theorem fadesF {l : List Sd} {s : ByteArray} {now days : Int} (ha : aFault l s now = (0, 0)) (h0 : 0 ≤ days) :
    (30 ≤ days → scoreF l s (now + 86400 * days) = 0) ∧ (0 < scoreF l s now → 0 ≤ scoreF l s (now + 86400 * days)) ∧ (scoreF l s now < 0 → scoreF l s (now + 86400 * days) ≤ 0) := by
  cases hh : hasF s l with
  | true =>
    have hl := has_lt hh
    obtain ⟨x, hx⟩ : ∃ x, l[posF s l]? = some x := ⟨l[posF s l]'(by simpa using hl), by simp at hl; simp [hl]⟩
    obtain ⟨t1, t2, t3, t4, t5⟩ := there ha hh hx
    have e : ∀ n, scoreF l s n = scoreOf x n := fun n => by unfold scoreF; rw [hx]; simp [has_n hh hx]
    rw [e, e]
    exact fades t1 t3 h0
  | false =>
    have e : ∀ n, scoreF l s n = 0 := fun n => by
      unfold scoreF
      unfold hasF at hh
      split
      · rename_i x hx; rw [hx] at hh; simp at hh; simp [hh]
      · rfl
    rw [e, e]; omega
theorem later_day {l : List Sd} {s : ByteArray} {now days : Int} (ha : aFault l s now = (0, 0)) (h0 : 0 ≤ days) (hb : aFault l s (now + 86400 * days) ≠ (0, 0)) : aFault l s (now + 86400 * days) = (3, -2) := by
  obtain ⟨hs, hn, hi⟩ := cF_ok (aF_ok ha).1
  have hc : cFault l s (now + 86400 * days) = if ¬ instOk (now + 86400 * days) then (3, -2) else (0, 0) := by unfold cFault; rw [if_neg (by simp [hs]), if_neg (by simp [hn])]
  by_cases hI : instOk (now + 86400 * days)
  · exfalso
    apply hb
    rw [if_neg (by simpa using hI)] at hc
    unfold aFault
    rw [if_neg (by simp [hc])]
    have : later l s (now + 86400 * days) = false := by
      cases hh : hasF s l with
      | false => exact later_not hh
      | true =>
        have hl := has_lt hh
        obtain ⟨x, hx⟩ : ∃ x, l[posF s l]? = some x := ⟨l[posF s l]'(by simpa using hl), by simp at hl; simp [hl]⟩
        obtain ⟨t1, t2, t3, t4, t5⟩ := there ha hh hx
        rw [later_of hh hx, day_add]
        simp; omega
    rw [this]; rfl
  · rw [if_pos hI] at hc
    exact aF_ne hc (by simp)
open Go.Proofs
theorem c_law7 (z : Bool) (l : List Sd) (s : ByteArray) (now days : Int) : CallV tab 7 [sds z l, .str s, .int .i64 now, .int .i64 days] (· = .bool true) := by
  have h1 := c_Score z l s now
  by_cases ha : aFault l s now = (0, 0)
  · rw [ha, if_pos rfl] at h1
    by_cases hd : 0 ≤ days ∧ days ≤ 100
    · have hi := (cF_ok (aF_ok ha).1).2.2
      unfold instOk at hi
      have w : IntKind.wrap .i64 (now + IntKind.wrap .i64 (86400 * days)) = now + 86400 * days := by rw [wr (x := 86400 * days) (by omega) (by omega), wr (by omega) (by omega)]
      have hin : (decide (0 ≤ days) && decide (days ≤ 100)) = true := by simp [hd]
      have hin' : (!(decide (0 ≤ days) && decide (days ≤ 100))) = false := by rw [hin]; rfl
      have h2 := c_Score z l s (now + 86400 * days)
      rw [← w] at h2
      by_cases hb : aFault l s (now + 86400 * days) = (0, 0)
      · obtain ⟨f1, f2, f3⟩ := fadesF ha hd.1
        rw [w, hb, if_pos rfl] at h2
        generalize scoreF l s (now + 86400 * days) = B at h2 f1 f2 f3
        generalize scoreF l s now = A at h1 f2 f3
        rw [← w] at h2
        refine callV_of Try.func7 rfl (Nat.le_of_ble_eq_true rfl) (by kernel_rfl) ?_
        repeat' first
          | (refine call_pure1 (h1) rfl rfl rfl rfl rfl ?_; conv => whnf)
          | (refine call_pureD (h1) rfl rfl rfl rfl rfl ?_; conv => whnf)
          | (refine call_pure1 (h2) rfl rfl rfl rfl rfl ?_; conv => whnf)
          | (refine call_pureD (h2) rfl rfl rfl rfl rfl ?_; conv => whnf)
          | (refine call_pure1 (c_In _ _ _) rfl rfl rfl rfl rfl ?_; conv => whnf)
          | (refine call_pureD (c_In _ _ _) rfl rfl rfl rfl rfl ?_; conv => whnf)
          | (refine call_pure1 (c_At _ _) rfl rfl rfl rfl rfl ?_; conv => whnf)
          | (refine call_pureD (c_At _ _) rfl rfl rfl rfl rfl ?_; conv => whnf)
          | (refine call_pure1 (c_reputed) rfl rfl rfl rfl rfl ?_; conv => whnf)
          | (refine call_pureD (c_reputed) rfl rfl rfl rfl rfl ?_; conv => whnf)
          | (refine idxMap (by (first | decide | exact trivial | omega | exact Nat.le_refl _ | (((try simp only [decide_eq_true_eq, decide_eq_false_iff_not, cond_true, cond_false, beq_iff_eq, beq_eq_false_iff_ne, bne_iff_ne, bne_eq_false_iff_eq, ne_eq, Bool.not_eq_true', Bool.not_eq_false', Bool.not_eq_eq_eq_not, Bool.not_true, Bool.not_false, sLe_eq, Bool.and_eq_true, Bool.and_eq_false_iff, List.length_map, List.length_append, List.length_take, List.length_drop, List.length_replicate, List.length_cons, List.length_nil, lenMax, capMax, Int.toNat_natCast, gt_iff_lt, ge_iff_le] at *); (try simp (disch := omega) only [wr, wru, shr1, Int.tdiv_eq_ediv_of_nonneg] at *)); omega) | (((try simp only [decide_eq_true_eq, decide_eq_false_iff_not, cond_true, cond_false, beq_iff_eq, beq_eq_false_iff_ne, bne_iff_ne, bne_eq_false_iff_eq, ne_eq, Bool.not_eq_true', Bool.not_eq_false', Bool.not_eq_eq_eq_not, Bool.not_true, Bool.not_false, sLe_eq, Bool.and_eq_true, Bool.and_eq_false_iff, List.length_map, List.length_append, List.length_take, List.length_drop, List.length_replicate, List.length_cons, List.length_nil, lenMax, capMax, Int.toNat_natCast, gt_iff_lt, ge_iff_le] at *); (try simp (disch := omega) only [wr, wru, shr1, Int.tdiv_eq_ediv_of_nonneg] at *)); assumption))) (fun _ _ => ?_); conv => whnf)
          | refine WpD.seq ?_
          | (refine WpD.region ?_; conv => whnf)
          | (refine WpD.draw ?_; conv => whnf)
          | refine WpD.block ?_
          | (refine WpD.exit ?_; conv => whnf)
          | (refine WpD.skip ?_; conv => whnf)
          | (refine WpD.ret ?_; conv => whnf)
          | refine WpD.cond rfl ?_
          | (refine Br.tt ?_; try conv => whnf)
          | (refine Br.ff ?_; try conv => whnf)
          | (refine Br.of_t (by assumption) ?_; conv => whnf)
          | (refine Br.of_f (by assumption) ?_; conv => whnf)
          | (refine Br.mk (fun _ => ?_) (fun _ => ?_) <;> try conv => whnf)
          | refine Exists.intro _ (And.intro (DV_toV rfl) ?_)
          | (refine CallOp.std ?_; (conv => whnf); fail_if_success refine (?_ : False))
          | (refine CallDet.std ?_; (conv => whnf); fail_if_success refine (?_ : False))
          | (refine And.intro (by (first | decide | exact trivial | omega | exact Nat.le_refl _ | (((try simp only [decide_eq_true_eq, decide_eq_false_iff_not, cond_true, cond_false, beq_iff_eq, beq_eq_false_iff_ne, bne_iff_ne, bne_eq_false_iff_eq, ne_eq, Bool.not_eq_true', Bool.not_eq_false', Bool.not_eq_eq_eq_not, Bool.not_true, Bool.not_false, sLe_eq, Bool.and_eq_true, Bool.and_eq_false_iff, List.length_map, List.length_append, List.length_take, List.length_drop, List.length_replicate, List.length_cons, List.length_nil, lenMax, capMax, Int.toNat_natCast, gt_iff_lt, ge_iff_le] at *); (try simp (disch := omega) only [wr, wru, shr1, Int.tdiv_eq_ediv_of_nonneg] at *)); omega) | (((try simp only [decide_eq_true_eq, decide_eq_false_iff_not, cond_true, cond_false, beq_iff_eq, beq_eq_false_iff_ne, bne_iff_ne, bne_eq_false_iff_eq, ne_eq, Bool.not_eq_true', Bool.not_eq_false', Bool.not_eq_eq_eq_not, Bool.not_true, Bool.not_false, sLe_eq, Bool.and_eq_true, Bool.and_eq_false_iff, List.length_map, List.length_append, List.length_take, List.length_drop, List.length_replicate, List.length_cons, List.length_nil, lenMax, capMax, Int.toNat_natCast, gt_iff_lt, ge_iff_le] at *); (try simp (disch := omega) only [wr, wru, shr1, Int.tdiv_eq_ediv_of_nonneg] at *)); assumption))) ?_; conv => whnf)
        all_goals ((try simp only [decide_eq_true_eq, decide_eq_false_iff_not, cond_true, cond_false, beq_iff_eq, beq_eq_false_iff_ne, bne_iff_ne, bne_eq_false_iff_eq, ne_eq, Bool.not_eq_true', Bool.not_eq_false', Bool.not_eq_eq_eq_not, Bool.not_true, Bool.not_false, sLe_eq, Bool.and_eq_true, Bool.and_eq_false_iff, List.length_map, List.length_append, List.length_take, List.length_drop, List.length_replicate, List.length_cons, List.length_nil, lenMax, capMax, Int.toNat_natCast, gt_iff_lt, ge_iff_le] at *); (try simp (disch := omega) only [wr, wru, shr1, Int.tdiv_eq_ediv_of_nonneg] at *))
        all_goals first | rfl | omega | (simp_all; done) | (simp_all; omega) | trace_state
      · have hb2 : aFault l s (now + 86400 * days) = (3, -2) := later_day ha hd.1 hb
        rw [w, hb2, if_neg (by simp)] at h2
        rw [← w] at h2
        refine callV_of Try.func7 rfl (Nat.le_of_ble_eq_true rfl) (by kernel_rfl) ?_
        repeat' first
          | (refine call_pure1 (h1) rfl rfl rfl rfl rfl ?_; conv => whnf)
          | (refine call_pureD (h1) rfl rfl rfl rfl rfl ?_; conv => whnf)
          | (refine call_pure1 (h2) rfl rfl rfl rfl rfl ?_; conv => whnf)
          | (refine call_pureD (h2) rfl rfl rfl rfl rfl ?_; conv => whnf)
          | (refine call_pure1 (c_In _ _ _) rfl rfl rfl rfl rfl ?_; conv => whnf)
          | (refine call_pureD (c_In _ _ _) rfl rfl rfl rfl rfl ?_; conv => whnf)
          | (refine call_pure1 (c_At _ _) rfl rfl rfl rfl rfl ?_; conv => whnf)
          | (refine call_pureD (c_At _ _) rfl rfl rfl rfl rfl ?_; conv => whnf)
          | (refine call_pure1 (c_reputed) rfl rfl rfl rfl rfl ?_; conv => whnf)
          | (refine call_pureD (c_reputed) rfl rfl rfl rfl rfl ?_; conv => whnf)
          | (refine idxMap (by (first | decide | exact trivial | omega | exact Nat.le_refl _ | (((try simp only [decide_eq_true_eq, decide_eq_false_iff_not, cond_true, cond_false, beq_iff_eq, beq_eq_false_iff_ne, bne_iff_ne, bne_eq_false_iff_eq, ne_eq, Bool.not_eq_true', Bool.not_eq_false', Bool.not_eq_eq_eq_not, Bool.not_true, Bool.not_false, sLe_eq, Bool.and_eq_true, Bool.and_eq_false_iff, List.length_map, List.length_append, List.length_take, List.length_drop, List.length_replicate, List.length_cons, List.length_nil, lenMax, capMax, Int.toNat_natCast, gt_iff_lt, ge_iff_le] at *); (try simp (disch := omega) only [wr, wru, shr1, Int.tdiv_eq_ediv_of_nonneg] at *)); omega) | (((try simp only [decide_eq_true_eq, decide_eq_false_iff_not, cond_true, cond_false, beq_iff_eq, beq_eq_false_iff_ne, bne_iff_ne, bne_eq_false_iff_eq, ne_eq, Bool.not_eq_true', Bool.not_eq_false', Bool.not_eq_eq_eq_not, Bool.not_true, Bool.not_false, sLe_eq, Bool.and_eq_true, Bool.and_eq_false_iff, List.length_map, List.length_append, List.length_take, List.length_drop, List.length_replicate, List.length_cons, List.length_nil, lenMax, capMax, Int.toNat_natCast, gt_iff_lt, ge_iff_le] at *); (try simp (disch := omega) only [wr, wru, shr1, Int.tdiv_eq_ediv_of_nonneg] at *)); assumption))) (fun _ _ => ?_); conv => whnf)
          | refine WpD.seq ?_
          | (refine WpD.region ?_; conv => whnf)
          | (refine WpD.draw ?_; conv => whnf)
          | refine WpD.block ?_
          | (refine WpD.exit ?_; conv => whnf)
          | (refine WpD.skip ?_; conv => whnf)
          | (refine WpD.ret ?_; conv => whnf)
          | refine WpD.cond rfl ?_
          | (refine Br.tt ?_; try conv => whnf)
          | (refine Br.ff ?_; try conv => whnf)
          | (refine Br.of_t (by assumption) ?_; conv => whnf)
          | (refine Br.of_f (by assumption) ?_; conv => whnf)
          | (refine Br.mk (fun _ => ?_) (fun _ => ?_) <;> try conv => whnf)
          | refine Exists.intro _ (And.intro (DV_toV rfl) ?_)
          | (refine CallOp.std ?_; (conv => whnf); fail_if_success refine (?_ : False))
          | (refine CallDet.std ?_; (conv => whnf); fail_if_success refine (?_ : False))
          | (refine And.intro (by (first | decide | exact trivial | omega | exact Nat.le_refl _ | (((try simp only [decide_eq_true_eq, decide_eq_false_iff_not, cond_true, cond_false, beq_iff_eq, beq_eq_false_iff_ne, bne_iff_ne, bne_eq_false_iff_eq, ne_eq, Bool.not_eq_true', Bool.not_eq_false', Bool.not_eq_eq_eq_not, Bool.not_true, Bool.not_false, sLe_eq, Bool.and_eq_true, Bool.and_eq_false_iff, List.length_map, List.length_append, List.length_take, List.length_drop, List.length_replicate, List.length_cons, List.length_nil, lenMax, capMax, Int.toNat_natCast, gt_iff_lt, ge_iff_le] at *); (try simp (disch := omega) only [wr, wru, shr1, Int.tdiv_eq_ediv_of_nonneg] at *)); omega) | (((try simp only [decide_eq_true_eq, decide_eq_false_iff_not, cond_true, cond_false, beq_iff_eq, beq_eq_false_iff_ne, bne_iff_ne, bne_eq_false_iff_eq, ne_eq, Bool.not_eq_true', Bool.not_eq_false', Bool.not_eq_eq_eq_not, Bool.not_true, Bool.not_false, sLe_eq, Bool.and_eq_true, Bool.and_eq_false_iff, List.length_map, List.length_append, List.length_take, List.length_drop, List.length_replicate, List.length_cons, List.length_nil, lenMax, capMax, Int.toNat_natCast, gt_iff_lt, ge_iff_le] at *); (try simp (disch := omega) only [wr, wru, shr1, Int.tdiv_eq_ediv_of_nonneg] at *)); assumption))) ?_; conv => whnf)
        all_goals first | rfl | (rename_i h; simp at h)
    · have hin' : (!(decide (0 ≤ days) && decide (days ≤ 100))) = true := by
        simp; omega
      refine callV_of Try.func7 rfl (Nat.le_of_ble_eq_true rfl) (by kernel_rfl) ?_
      repeat' first
        | (refine call_pure1 (h1) rfl rfl rfl rfl rfl ?_; conv => whnf)
        | (refine call_pureD (h1) rfl rfl rfl rfl rfl ?_; conv => whnf)
        | (refine call_pure1 (c_In _ _ _) rfl rfl rfl rfl rfl ?_; conv => whnf)
        | (refine call_pureD (c_In _ _ _) rfl rfl rfl rfl rfl ?_; conv => whnf)
        | (refine call_pure1 (c_reputed) rfl rfl rfl rfl rfl ?_; conv => whnf)
        | (refine call_pureD (c_reputed) rfl rfl rfl rfl rfl ?_; conv => whnf)
        | (refine idxMap (by (first | decide | exact trivial | omega | exact Nat.le_refl _ | (((try simp only [decide_eq_true_eq, decide_eq_false_iff_not, cond_true, cond_false, beq_iff_eq, beq_eq_false_iff_ne, bne_iff_ne, bne_eq_false_iff_eq, ne_eq, Bool.not_eq_true', Bool.not_eq_false', Bool.not_eq_eq_eq_not, Bool.not_true, Bool.not_false, sLe_eq, Bool.and_eq_true, Bool.and_eq_false_iff, List.length_map, List.length_append, List.length_take, List.length_drop, List.length_replicate, List.length_cons, List.length_nil, lenMax, capMax, Int.toNat_natCast, gt_iff_lt, ge_iff_le] at *); (try simp (disch := omega) only [wr, wru, shr1, Int.tdiv_eq_ediv_of_nonneg] at *)); omega) | (((try simp only [decide_eq_true_eq, decide_eq_false_iff_not, cond_true, cond_false, beq_iff_eq, beq_eq_false_iff_ne, bne_iff_ne, bne_eq_false_iff_eq, ne_eq, Bool.not_eq_true', Bool.not_eq_false', Bool.not_eq_eq_eq_not, Bool.not_true, Bool.not_false, sLe_eq, Bool.and_eq_true, Bool.and_eq_false_iff, List.length_map, List.length_append, List.length_take, List.length_drop, List.length_replicate, List.length_cons, List.length_nil, lenMax, capMax, Int.toNat_natCast, gt_iff_lt, ge_iff_le] at *); (try simp (disch := omega) only [wr, wru, shr1, Int.tdiv_eq_ediv_of_nonneg] at *)); assumption))) (fun _ _ => ?_); conv => whnf)
        | refine WpD.seq ?_
        | (refine WpD.region ?_; conv => whnf)
        | (refine WpD.draw ?_; conv => whnf)
        | refine WpD.block ?_
        | (refine WpD.exit ?_; conv => whnf)
        | (refine WpD.skip ?_; conv => whnf)
        | (refine WpD.ret ?_; conv => whnf)
        | refine WpD.cond rfl ?_
        | (refine Br.tt ?_; try conv => whnf)
        | (refine Br.ff ?_; try conv => whnf)
        | (refine Br.of_t (by assumption) ?_; conv => whnf)
        | (refine Br.of_f (by assumption) ?_; conv => whnf)
        | (refine Br.mk (fun _ => ?_) (fun _ => ?_) <;> try conv => whnf)
        | refine Exists.intro _ (And.intro (DV_toV rfl) ?_)
        | (refine CallOp.std ?_; (conv => whnf); fail_if_success refine (?_ : False))
        | (refine CallDet.std ?_; (conv => whnf); fail_if_success refine (?_ : False))
        | (refine And.intro (by (first | decide | exact trivial | omega | exact Nat.le_refl _ | (((try simp only [decide_eq_true_eq, decide_eq_false_iff_not, cond_true, cond_false, beq_iff_eq, beq_eq_false_iff_ne, bne_iff_ne, bne_eq_false_iff_eq, ne_eq, Bool.not_eq_true', Bool.not_eq_false', Bool.not_eq_eq_eq_not, Bool.not_true, Bool.not_false, sLe_eq, Bool.and_eq_true, Bool.and_eq_false_iff, List.length_map, List.length_append, List.length_take, List.length_drop, List.length_replicate, List.length_cons, List.length_nil, lenMax, capMax, Int.toNat_natCast, gt_iff_lt, ge_iff_le] at *); (try simp (disch := omega) only [wr, wru, shr1, Int.tdiv_eq_ediv_of_nonneg] at *)); omega) | (((try simp only [decide_eq_true_eq, decide_eq_false_iff_not, cond_true, cond_false, beq_iff_eq, beq_eq_false_iff_ne, bne_iff_ne, bne_eq_false_iff_eq, ne_eq, Bool.not_eq_true', Bool.not_eq_false', Bool.not_eq_eq_eq_not, Bool.not_true, Bool.not_false, sLe_eq, Bool.and_eq_true, Bool.and_eq_false_iff, List.length_map, List.length_append, List.length_take, List.length_drop, List.length_replicate, List.length_cons, List.length_nil, lenMax, capMax, Int.toNat_natCast, gt_iff_lt, ge_iff_le] at *); (try simp (disch := omega) only [wr, wru, shr1, Int.tdiv_eq_ediv_of_nonneg] at *)); assumption))) ?_; conv => whnf)
      all_goals first | rfl | (rename_i h; simp at h)
  · rw [if_neg ha] at h1
    have hn : ¬ (aFault l s now).1 = 0 := fun h => ha (aF_z h)
    have hn' : ((aFault l s now).1 != 0) = true := by simpa using hn
    refine callV_of Try.func7 rfl (Nat.le_of_ble_eq_true rfl) (by kernel_rfl) ?_
    repeat' first
      | (refine call_pure1 (h1) rfl rfl rfl rfl rfl ?_; conv => whnf)
      | (refine call_pureD (h1) rfl rfl rfl rfl rfl ?_; conv => whnf)
      | (refine call_pure1 (c_In _ _ _) rfl rfl rfl rfl rfl ?_; conv => whnf)
      | (refine call_pureD (c_In _ _ _) rfl rfl rfl rfl rfl ?_; conv => whnf)
      | (refine call_pure1 (c_reputed) rfl rfl rfl rfl rfl ?_; conv => whnf)
      | (refine call_pureD (c_reputed) rfl rfl rfl rfl rfl ?_; conv => whnf)
      | (refine idxMap (by (first | decide | exact trivial | omega | exact Nat.le_refl _ | (((try simp only [decide_eq_true_eq, decide_eq_false_iff_not, cond_true, cond_false, beq_iff_eq, beq_eq_false_iff_ne, bne_iff_ne, bne_eq_false_iff_eq, ne_eq, Bool.not_eq_true', Bool.not_eq_false', Bool.not_eq_eq_eq_not, Bool.not_true, Bool.not_false, sLe_eq, Bool.and_eq_true, Bool.and_eq_false_iff, List.length_map, List.length_append, List.length_take, List.length_drop, List.length_replicate, List.length_cons, List.length_nil, lenMax, capMax, Int.toNat_natCast, gt_iff_lt, ge_iff_le] at *); (try simp (disch := omega) only [wr, wru, shr1, Int.tdiv_eq_ediv_of_nonneg] at *)); omega) | (((try simp only [decide_eq_true_eq, decide_eq_false_iff_not, cond_true, cond_false, beq_iff_eq, beq_eq_false_iff_ne, bne_iff_ne, bne_eq_false_iff_eq, ne_eq, Bool.not_eq_true', Bool.not_eq_false', Bool.not_eq_eq_eq_not, Bool.not_true, Bool.not_false, sLe_eq, Bool.and_eq_true, Bool.and_eq_false_iff, List.length_map, List.length_append, List.length_take, List.length_drop, List.length_replicate, List.length_cons, List.length_nil, lenMax, capMax, Int.toNat_natCast, gt_iff_lt, ge_iff_le] at *); (try simp (disch := omega) only [wr, wru, shr1, Int.tdiv_eq_ediv_of_nonneg] at *)); assumption))) (fun _ _ => ?_); conv => whnf)
      | refine WpD.seq ?_
      | (refine WpD.region ?_; conv => whnf)
      | (refine WpD.draw ?_; conv => whnf)
      | refine WpD.block ?_
      | (refine WpD.exit ?_; conv => whnf)
      | (refine WpD.skip ?_; conv => whnf)
      | (refine WpD.ret ?_; conv => whnf)
      | refine WpD.cond rfl ?_
      | (refine Br.tt ?_; try conv => whnf)
      | (refine Br.ff ?_; try conv => whnf)
      | (refine Br.of_t (by assumption) ?_; conv => whnf)
      | (refine Br.of_f (by assumption) ?_; conv => whnf)
      | (refine Br.mk (fun _ => ?_) (fun _ => ?_) <;> try conv => whnf)
      | refine Exists.intro _ (And.intro (DV_toV rfl) ?_)
      | (refine CallOp.std ?_; (conv => whnf); fail_if_success refine (?_ : False))
      | (refine CallDet.std ?_; (conv => whnf); fail_if_success refine (?_ : False))
      | (refine And.intro (by (first | decide | exact trivial | omega | exact Nat.le_refl _ | (((try simp only [decide_eq_true_eq, decide_eq_false_iff_not, cond_true, cond_false, beq_iff_eq, beq_eq_false_iff_ne, bne_iff_ne, bne_eq_false_iff_eq, ne_eq, Bool.not_eq_true', Bool.not_eq_false', Bool.not_eq_eq_eq_not, Bool.not_true, Bool.not_false, sLe_eq, Bool.and_eq_true, Bool.and_eq_false_iff, List.length_map, List.length_append, List.length_take, List.length_drop, List.length_replicate, List.length_cons, List.length_nil, lenMax, capMax, Int.toNat_natCast, gt_iff_lt, ge_iff_le] at *); (try simp (disch := omega) only [wr, wru, shr1, Int.tdiv_eq_ediv_of_nonneg] at *)); omega) | (((try simp only [decide_eq_true_eq, decide_eq_false_iff_not, cond_true, cond_false, beq_iff_eq, beq_eq_false_iff_ne, bne_iff_ne, bne_eq_false_iff_eq, ne_eq, Bool.not_eq_true', Bool.not_eq_false', Bool.not_eq_eq_eq_not, Bool.not_true, Bool.not_false, sLe_eq, Bool.and_eq_true, Bool.and_eq_false_iff, List.length_map, List.length_append, List.length_take, List.length_drop, List.length_replicate, List.length_cons, List.length_nil, lenMax, capMax, Int.toNat_natCast, gt_iff_lt, ge_iff_le] at *); (try simp (disch := omega) only [wr, wru, shr1, Int.tdiv_eq_ediv_of_nonneg] at *)); assumption))) ?_; conv => whnf)
    all_goals first | rfl | (rename_i h; simp at h)
end Go.DL
