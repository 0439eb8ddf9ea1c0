/- Rates: the reference's Allowed. No condition. -/
import Derived.Test.YtmeaagnamlilgaaQ5
set_option linter.unusedVariables false
set_option linter.unusedSimpArgs false
set_option maxHeartbeats 4000000
namespace Go.DL
open Go.Proofs

theorem c_Allowed_bad (r : Rt) (key : ByteArray) (n now : Int) (h : alF r key n now ≠ (0, 0)) : CallV tab 20 [.agg r.row, .str key, .int .i64 n, .int .i64 now] (· = .tup [.agg rt0.row, .bool false, fv (alF r key n now)]) := by
  have h1 := c_RatesFault r
  have h2 := c_In (key.size : Int) 1 4000
  have h3 := c_In n 1 1000000
  have h4 := c_Instant now
  by_cases a : ratF r = (0, 0)
  · rw [a] at h1
    by_cases b : nSz key
    · rw [show (decide ((1 : Int) ≤ (key.size : Int)) && decide ((key.size : Int) ≤ 4000)) = true by unfold nSz at b; simp; omega] at h2
      by_cases c : 1 ≤ n ∧ n ≤ 1000000
      · rw [show (decide ((1 : Int) ≤ n) && decide (n ≤ 1000000)) = true by simp; omega] at h3
        have d : ¬ (-68719476736 ≤ now ∧ now ≤ 68719476736) := fun d => h (by rw [alF, if_neg (by simpa using a), if_neg (by simpa using b), if_neg (by simpa using c), if_neg (by simpa using d)])
        rw [show (decide (-68719476736 ≤ now) && decide (now ≤ 68719476736)) = false by simp; omega] at h4
        have e : alF r key n now = (3, -2) := by rw [alF, if_neg (by simpa using a), if_neg (by simpa using b), if_neg (by simpa using c), if_pos d]
        rw [e]
        refine callV_of Try.func20 rfl (Nat.le_of_ble_eq_true rfl) (by kernel_rfl) ?_
        repeat' first
          | (apply Br.id; first
      | (apply Br.tt; try conv => whnf)
      | (apply Br.ff; try conv => whnf)
      | (refine Br.of_t (by assumption) ?_; conv => whnf)
      | (refine Br.of_f (by assumption) ?_; conv => whnf)
      | (refine Br.mk (fun _ => ?_) (fun _ => ?_) <;> try conv => whnf))
          | (apply CallOp.id; first
      | (refine call_at rfl rfl rfl rfl rfl ?_)
      | (refine call_rd rfl rfl rfl rfl rfl ?_)
      | (refine CallOp.std ?_; (conv => whnf); fail_if_success refine (?_ : False)))
          | (apply CallDet.id; first
      | (refine call_atD rfl rfl rfl rfl rfl ?_)
      | (refine call_rdD rfl rfl rfl rfl rfl ?_)
      | (refine CallDet.std ?_; (conv => whnf); fail_if_success refine (?_ : False)))
          | (apply CallAt.id; first
      | (apply CallAt.mk1 (h1); conv => whnf)
      | (apply CallAt.mk1 (h2); conv => whnf)
      | (apply CallAt.mk1 (h3); conv => whnf)
      | (apply CallAt.mk1 (h4); conv => whnf)
      | (apply CallAt.mk1 (c_At _ _); conv => whnf))
          | (apply CallRd.id; first
      | (apply CallRd.mk1 (h1); (· rfl); conv => whnf)
      | (apply CallRd.mk1 (h2); (· rfl); conv => whnf)
      | (apply CallRd.mk1 (h3); (· rfl); conv => whnf)
      | (apply CallRd.mk1 (h4); (· rfl); conv => whnf)
      | (apply CallRd.mk1 (c_At _ _); (· rfl); conv => whnf))
          | (refine EndOk.mk (by kernel_rfl) ?_; conv => whnf)
          | (refine And.intro (by (first | decide | exact trivial | omega | exact Nat.le_refl _ | (((try simp only [decide_eq_true_eq, decide_eq_false_iff_not, cond_true, cond_false, beq_iff_eq, beq_eq_false_iff_ne, bne_iff_ne, bne_eq_false_iff_eq, ne_eq, Bool.not_eq_true', Bool.not_eq_false', Bool.not_eq_eq_eq_not, Bool.not_true, Bool.not_false, sLe_eq, Bool.and_eq_true, Bool.and_eq_false_iff, List.length_map, List.length_set, List.length_append, List.length_take, List.length_drop, List.length_replicate, List.length_cons, List.length_nil, lenMax, capMax, Int.toNat_natCast, gt_iff_lt, ge_iff_le] at *); (try simp (disch := omega) only [wr, wru, shr1, Int.tdiv_eq_ediv_of_nonneg] at *)); omega) | (((try simp only [decide_eq_true_eq, decide_eq_false_iff_not, cond_true, cond_false, beq_iff_eq, beq_eq_false_iff_ne, bne_iff_ne, bne_eq_false_iff_eq, ne_eq, Bool.not_eq_true', Bool.not_eq_false', Bool.not_eq_eq_eq_not, Bool.not_true, Bool.not_false, sLe_eq, Bool.and_eq_true, Bool.and_eq_false_iff, List.length_map, List.length_set, List.length_append, List.length_take, List.length_drop, List.length_replicate, List.length_cons, List.length_nil, lenMax, capMax, Int.toNat_natCast, gt_iff_lt, ge_iff_le] at *); (try simp (disch := omega) only [wr, wru, shr1, Int.tdiv_eq_ediv_of_nonneg] at *)); assumption))) ?_; conv => whnf)
          | (refine idxOld (by assumption) ?_; conv => whnf)
          | (refine idxMap (by (first | decide | exact trivial | omega | exact Nat.le_refl _ | (((try simp only [decide_eq_true_eq, decide_eq_false_iff_not, cond_true, cond_false, beq_iff_eq, beq_eq_false_iff_ne, bne_iff_ne, bne_eq_false_iff_eq, ne_eq, Bool.not_eq_true', Bool.not_eq_false', Bool.not_eq_eq_eq_not, Bool.not_true, Bool.not_false, sLe_eq, Bool.and_eq_true, Bool.and_eq_false_iff, List.length_map, List.length_set, List.length_append, List.length_take, List.length_drop, List.length_replicate, List.length_cons, List.length_nil, lenMax, capMax, Int.toNat_natCast, gt_iff_lt, ge_iff_le] at *); (try simp (disch := omega) only [wr, wru, shr1, Int.tdiv_eq_ediv_of_nonneg] at *)); omega) | (((try simp only [decide_eq_true_eq, decide_eq_false_iff_not, cond_true, cond_false, beq_iff_eq, beq_eq_false_iff_ne, bne_iff_ne, bne_eq_false_iff_eq, ne_eq, Bool.not_eq_true', Bool.not_eq_false', Bool.not_eq_eq_eq_not, Bool.not_true, Bool.not_false, sLe_eq, Bool.and_eq_true, Bool.and_eq_false_iff, List.length_map, List.length_set, List.length_append, List.length_take, List.length_drop, List.length_replicate, List.length_cons, List.length_nil, lenMax, capMax, Int.toNat_natCast, gt_iff_lt, ge_iff_le] at *); (try simp (disch := omega) only [wr, wru, shr1, Int.tdiv_eq_ediv_of_nonneg] at *)); assumption))) (fun _ _ => ?_); conv => whnf)
          | refine Exists.intro _ (And.intro (DV_toV rfl) ?_)
          | (refine rowSet (by (first | decide | exact trivial | omega | exact Nat.le_refl _ | (((try simp only [decide_eq_true_eq, decide_eq_false_iff_not, cond_true, cond_false, beq_iff_eq, beq_eq_false_iff_ne, bne_iff_ne, bne_eq_false_iff_eq, ne_eq, Bool.not_eq_true', Bool.not_eq_false', Bool.not_eq_eq_eq_not, Bool.not_true, Bool.not_false, sLe_eq, Bool.and_eq_true, Bool.and_eq_false_iff, List.length_map, List.length_set, List.length_append, List.length_take, List.length_drop, List.length_replicate, List.length_cons, List.length_nil, lenMax, capMax, Int.toNat_natCast, gt_iff_lt, ge_iff_le] at *); (try simp (disch := omega) only [wr, wru, shr1, Int.tdiv_eq_ediv_of_nonneg] at *)); omega) | (((try simp only [decide_eq_true_eq, decide_eq_false_iff_not, cond_true, cond_false, beq_iff_eq, beq_eq_false_iff_ne, bne_iff_ne, bne_eq_false_iff_eq, ne_eq, Bool.not_eq_true', Bool.not_eq_false', Bool.not_eq_eq_eq_not, Bool.not_true, Bool.not_false, sLe_eq, Bool.and_eq_true, Bool.and_eq_false_iff, List.length_map, List.length_set, List.length_append, List.length_take, List.length_drop, List.length_replicate, List.length_cons, List.length_nil, lenMax, capMax, Int.toNat_natCast, gt_iff_lt, ge_iff_le] at *); (try simp (disch := omega) only [wr, wru, shr1, Int.tdiv_eq_ediv_of_nonneg] at *)); assumption))) ?_; conv => whnf)
          | (refine rowOld (by assumption) ?_; conv => whnf)
          | (refine rowNew (by (first | decide | exact trivial | omega | exact Nat.le_refl _ | (((try simp only [decide_eq_true_eq, decide_eq_false_iff_not, cond_true, cond_false, beq_iff_eq, beq_eq_false_iff_ne, bne_iff_ne, bne_eq_false_iff_eq, ne_eq, Bool.not_eq_true', Bool.not_eq_false', Bool.not_eq_eq_eq_not, Bool.not_true, Bool.not_false, sLe_eq, Bool.and_eq_true, Bool.and_eq_false_iff, List.length_map, List.length_set, List.length_append, List.length_take, List.length_drop, List.length_replicate, List.length_cons, List.length_nil, lenMax, capMax, Int.toNat_natCast, gt_iff_lt, ge_iff_le] at *); (try simp (disch := omega) only [wr, wru, shr1, Int.tdiv_eq_ediv_of_nonneg] at *)); omega) | (((try simp only [decide_eq_true_eq, decide_eq_false_iff_not, cond_true, cond_false, beq_iff_eq, beq_eq_false_iff_ne, bne_iff_ne, bne_eq_false_iff_eq, ne_eq, Bool.not_eq_true', Bool.not_eq_false', Bool.not_eq_eq_eq_not, Bool.not_true, Bool.not_false, sLe_eq, Bool.and_eq_true, Bool.and_eq_false_iff, List.length_map, List.length_set, List.length_append, List.length_take, List.length_drop, List.length_replicate, List.length_cons, List.length_nil, lenMax, capMax, Int.toNat_natCast, gt_iff_lt, ge_iff_le] at *); (try simp (disch := omega) only [wr, wru, shr1, Int.tdiv_eq_ediv_of_nonneg] at *)); assumption))) (fun _ _ => ?_); conv => whnf)
          | (apply WpD.id; first
      | (refine WpD.walk rfl ?_; conv => whnf))
        all_goals rfl
      · rw [show (decide ((1 : Int) ≤ n) && decide (n ≤ 1000000)) = false by simp; omega] at h3
        have e : alF r key n now = (3, -5) := by rw [alF, if_neg (by simpa using a), if_neg (by simpa using b), if_pos c]
        rw [e]
        refine callV_of Try.func20 rfl (Nat.le_of_ble_eq_true rfl) (by kernel_rfl) ?_
        repeat' first
          | (apply Br.id; first
      | (apply Br.tt; try conv => whnf)
      | (apply Br.ff; try conv => whnf)
      | (refine Br.of_t (by assumption) ?_; conv => whnf)
      | (refine Br.of_f (by assumption) ?_; conv => whnf)
      | (refine Br.mk (fun _ => ?_) (fun _ => ?_) <;> try conv => whnf))
          | (apply CallOp.id; first
      | (refine call_at rfl rfl rfl rfl rfl ?_)
      | (refine call_rd rfl rfl rfl rfl rfl ?_)
      | (refine CallOp.std ?_; (conv => whnf); fail_if_success refine (?_ : False)))
          | (apply CallDet.id; first
      | (refine call_atD rfl rfl rfl rfl rfl ?_)
      | (refine call_rdD rfl rfl rfl rfl rfl ?_)
      | (refine CallDet.std ?_; (conv => whnf); fail_if_success refine (?_ : False)))
          | (apply CallAt.id; first
      | (apply CallAt.mk1 (h1); conv => whnf)
      | (apply CallAt.mk1 (h2); conv => whnf)
      | (apply CallAt.mk1 (h3); conv => whnf)
      | (apply CallAt.mk1 (h4); conv => whnf)
      | (apply CallAt.mk1 (c_At _ _); conv => whnf))
          | (apply CallRd.id; first
      | (apply CallRd.mk1 (h1); (· rfl); conv => whnf)
      | (apply CallRd.mk1 (h2); (· rfl); conv => whnf)
      | (apply CallRd.mk1 (h3); (· rfl); conv => whnf)
      | (apply CallRd.mk1 (h4); (· rfl); conv => whnf)
      | (apply CallRd.mk1 (c_At _ _); (· rfl); conv => whnf))
          | (refine EndOk.mk (by kernel_rfl) ?_; conv => whnf)
          | (refine And.intro (by (first | decide | exact trivial | omega | exact Nat.le_refl _ | (((try simp only [decide_eq_true_eq, decide_eq_false_iff_not, cond_true, cond_false, beq_iff_eq, beq_eq_false_iff_ne, bne_iff_ne, bne_eq_false_iff_eq, ne_eq, Bool.not_eq_true', Bool.not_eq_false', Bool.not_eq_eq_eq_not, Bool.not_true, Bool.not_false, sLe_eq, Bool.and_eq_true, Bool.and_eq_false_iff, List.length_map, List.length_set, List.length_append, List.length_take, List.length_drop, List.length_replicate, List.length_cons, List.length_nil, lenMax, capMax, Int.toNat_natCast, gt_iff_lt, ge_iff_le] at *); (try simp (disch := omega) only [wr, wru, shr1, Int.tdiv_eq_ediv_of_nonneg] at *)); omega) | (((try simp only [decide_eq_true_eq, decide_eq_false_iff_not, cond_true, cond_false, beq_iff_eq, beq_eq_false_iff_ne, bne_iff_ne, bne_eq_false_iff_eq, ne_eq, Bool.not_eq_true', Bool.not_eq_false', Bool.not_eq_eq_eq_not, Bool.not_true, Bool.not_false, sLe_eq, Bool.and_eq_true, Bool.and_eq_false_iff, List.length_map, List.length_set, List.length_append, List.length_take, List.length_drop, List.length_replicate, List.length_cons, List.length_nil, lenMax, capMax, Int.toNat_natCast, gt_iff_lt, ge_iff_le] at *); (try simp (disch := omega) only [wr, wru, shr1, Int.tdiv_eq_ediv_of_nonneg] at *)); assumption))) ?_; conv => whnf)
          | (refine idxOld (by assumption) ?_; conv => whnf)
          | (refine idxMap (by (first | decide | exact trivial | omega | exact Nat.le_refl _ | (((try simp only [decide_eq_true_eq, decide_eq_false_iff_not, cond_true, cond_false, beq_iff_eq, beq_eq_false_iff_ne, bne_iff_ne, bne_eq_false_iff_eq, ne_eq, Bool.not_eq_true', Bool.not_eq_false', Bool.not_eq_eq_eq_not, Bool.not_true, Bool.not_false, sLe_eq, Bool.and_eq_true, Bool.and_eq_false_iff, List.length_map, List.length_set, List.length_append, List.length_take, List.length_drop, List.length_replicate, List.length_cons, List.length_nil, lenMax, capMax, Int.toNat_natCast, gt_iff_lt, ge_iff_le] at *); (try simp (disch := omega) only [wr, wru, shr1, Int.tdiv_eq_ediv_of_nonneg] at *)); omega) | (((try simp only [decide_eq_true_eq, decide_eq_false_iff_not, cond_true, cond_false, beq_iff_eq, beq_eq_false_iff_ne, bne_iff_ne, bne_eq_false_iff_eq, ne_eq, Bool.not_eq_true', Bool.not_eq_false', Bool.not_eq_eq_eq_not, Bool.not_true, Bool.not_false, sLe_eq, Bool.and_eq_true, Bool.and_eq_false_iff, List.length_map, List.length_set, List.length_append, List.length_take, List.length_drop, List.length_replicate, List.length_cons, List.length_nil, lenMax, capMax, Int.toNat_natCast, gt_iff_lt, ge_iff_le] at *); (try simp (disch := omega) only [wr, wru, shr1, Int.tdiv_eq_ediv_of_nonneg] at *)); assumption))) (fun _ _ => ?_); conv => whnf)
          | refine Exists.intro _ (And.intro (DV_toV rfl) ?_)
          | (refine rowSet (by (first | decide | exact trivial | omega | exact Nat.le_refl _ | (((try simp only [decide_eq_true_eq, decide_eq_false_iff_not, cond_true, cond_false, beq_iff_eq, beq_eq_false_iff_ne, bne_iff_ne, bne_eq_false_iff_eq, ne_eq, Bool.not_eq_true', Bool.not_eq_false', Bool.not_eq_eq_eq_not, Bool.not_true, Bool.not_false, sLe_eq, Bool.and_eq_true, Bool.and_eq_false_iff, List.length_map, List.length_set, List.length_append, List.length_take, List.length_drop, List.length_replicate, List.length_cons, List.length_nil, lenMax, capMax, Int.toNat_natCast, gt_iff_lt, ge_iff_le] at *); (try simp (disch := omega) only [wr, wru, shr1, Int.tdiv_eq_ediv_of_nonneg] at *)); omega) | (((try simp only [decide_eq_true_eq, decide_eq_false_iff_not, cond_true, cond_false, beq_iff_eq, beq_eq_false_iff_ne, bne_iff_ne, bne_eq_false_iff_eq, ne_eq, Bool.not_eq_true', Bool.not_eq_false', Bool.not_eq_eq_eq_not, Bool.not_true, Bool.not_false, sLe_eq, Bool.and_eq_true, Bool.and_eq_false_iff, List.length_map, List.length_set, List.length_append, List.length_take, List.length_drop, List.length_replicate, List.length_cons, List.length_nil, lenMax, capMax, Int.toNat_natCast, gt_iff_lt, ge_iff_le] at *); (try simp (disch := omega) only [wr, wru, shr1, Int.tdiv_eq_ediv_of_nonneg] at *)); assumption))) ?_; conv => whnf)
          | (refine rowOld (by assumption) ?_; conv => whnf)
          | (refine rowNew (by (first | decide | exact trivial | omega | exact Nat.le_refl _ | (((try simp only [decide_eq_true_eq, decide_eq_false_iff_not, cond_true, cond_false, beq_iff_eq, beq_eq_false_iff_ne, bne_iff_ne, bne_eq_false_iff_eq, ne_eq, Bool.not_eq_true', Bool.not_eq_false', Bool.not_eq_eq_eq_not, Bool.not_true, Bool.not_false, sLe_eq, Bool.and_eq_true, Bool.and_eq_false_iff, List.length_map, List.length_set, List.length_append, List.length_take, List.length_drop, List.length_replicate, List.length_cons, List.length_nil, lenMax, capMax, Int.toNat_natCast, gt_iff_lt, ge_iff_le] at *); (try simp (disch := omega) only [wr, wru, shr1, Int.tdiv_eq_ediv_of_nonneg] at *)); omega) | (((try simp only [decide_eq_true_eq, decide_eq_false_iff_not, cond_true, cond_false, beq_iff_eq, beq_eq_false_iff_ne, bne_iff_ne, bne_eq_false_iff_eq, ne_eq, Bool.not_eq_true', Bool.not_eq_false', Bool.not_eq_eq_eq_not, Bool.not_true, Bool.not_false, sLe_eq, Bool.and_eq_true, Bool.and_eq_false_iff, List.length_map, List.length_set, List.length_append, List.length_take, List.length_drop, List.length_replicate, List.length_cons, List.length_nil, lenMax, capMax, Int.toNat_natCast, gt_iff_lt, ge_iff_le] at *); (try simp (disch := omega) only [wr, wru, shr1, Int.tdiv_eq_ediv_of_nonneg] at *)); assumption))) (fun _ _ => ?_); conv => whnf)
          | (apply WpD.id; first
      | (refine WpD.walk rfl ?_; conv => whnf))
        all_goals rfl
    · rw [show (decide ((1 : Int) ≤ (key.size : Int)) && decide ((key.size : Int) ≤ 4000)) = false by unfold nSz at b; simp; omega] at h2
      have e : alF r key n now = (10, -4) := by rw [alF, if_neg (by simpa using a), if_pos b]
      rw [e]
      refine callV_of Try.func20 rfl (Nat.le_of_ble_eq_true rfl) (by kernel_rfl) ?_
      repeat' first
        | (apply Br.id; first
      | (apply Br.tt; try conv => whnf)
      | (apply Br.ff; try conv => whnf)
      | (refine Br.of_t (by assumption) ?_; conv => whnf)
      | (refine Br.of_f (by assumption) ?_; conv => whnf)
      | (refine Br.mk (fun _ => ?_) (fun _ => ?_) <;> try conv => whnf))
        | (apply CallOp.id; first
      | (refine call_at rfl rfl rfl rfl rfl ?_)
      | (refine call_rd rfl rfl rfl rfl rfl ?_)
      | (refine CallOp.std ?_; (conv => whnf); fail_if_success refine (?_ : False)))
        | (apply CallDet.id; first
      | (refine call_atD rfl rfl rfl rfl rfl ?_)
      | (refine call_rdD rfl rfl rfl rfl rfl ?_)
      | (refine CallDet.std ?_; (conv => whnf); fail_if_success refine (?_ : False)))
        | (apply CallAt.id; first
      | (apply CallAt.mk1 (h1); conv => whnf)
      | (apply CallAt.mk1 (h2); conv => whnf)
      | (apply CallAt.mk1 (h3); conv => whnf)
      | (apply CallAt.mk1 (h4); conv => whnf)
      | (apply CallAt.mk1 (c_At _ _); conv => whnf))
        | (apply CallRd.id; first
      | (apply CallRd.mk1 (h1); (· rfl); conv => whnf)
      | (apply CallRd.mk1 (h2); (· rfl); conv => whnf)
      | (apply CallRd.mk1 (h3); (· rfl); conv => whnf)
      | (apply CallRd.mk1 (h4); (· rfl); conv => whnf)
      | (apply CallRd.mk1 (c_At _ _); (· rfl); conv => whnf))
        | (refine EndOk.mk (by kernel_rfl) ?_; conv => whnf)
        | (refine And.intro (by (first | decide | exact trivial | omega | exact Nat.le_refl _ | (((try simp only [decide_eq_true_eq, decide_eq_false_iff_not, cond_true, cond_false, beq_iff_eq, beq_eq_false_iff_ne, bne_iff_ne, bne_eq_false_iff_eq, ne_eq, Bool.not_eq_true', Bool.not_eq_false', Bool.not_eq_eq_eq_not, Bool.not_true, Bool.not_false, sLe_eq, Bool.and_eq_true, Bool.and_eq_false_iff, List.length_map, List.length_set, List.length_append, List.length_take, List.length_drop, List.length_replicate, List.length_cons, List.length_nil, lenMax, capMax, Int.toNat_natCast, gt_iff_lt, ge_iff_le] at *); (try simp (disch := omega) only [wr, wru, shr1, Int.tdiv_eq_ediv_of_nonneg] at *)); omega) | (((try simp only [decide_eq_true_eq, decide_eq_false_iff_not, cond_true, cond_false, beq_iff_eq, beq_eq_false_iff_ne, bne_iff_ne, bne_eq_false_iff_eq, ne_eq, Bool.not_eq_true', Bool.not_eq_false', Bool.not_eq_eq_eq_not, Bool.not_true, Bool.not_false, sLe_eq, Bool.and_eq_true, Bool.and_eq_false_iff, List.length_map, List.length_set, List.length_append, List.length_take, List.length_drop, List.length_replicate, List.length_cons, List.length_nil, lenMax, capMax, Int.toNat_natCast, gt_iff_lt, ge_iff_le] at *); (try simp (disch := omega) only [wr, wru, shr1, Int.tdiv_eq_ediv_of_nonneg] at *)); assumption))) ?_; conv => whnf)
        | (refine idxOld (by assumption) ?_; conv => whnf)
        | (refine idxMap (by (first | decide | exact trivial | omega | exact Nat.le_refl _ | (((try simp only [decide_eq_true_eq, decide_eq_false_iff_not, cond_true, cond_false, beq_iff_eq, beq_eq_false_iff_ne, bne_iff_ne, bne_eq_false_iff_eq, ne_eq, Bool.not_eq_true', Bool.not_eq_false', Bool.not_eq_eq_eq_not, Bool.not_true, Bool.not_false, sLe_eq, Bool.and_eq_true, Bool.and_eq_false_iff, List.length_map, List.length_set, List.length_append, List.length_take, List.length_drop, List.length_replicate, List.length_cons, List.length_nil, lenMax, capMax, Int.toNat_natCast, gt_iff_lt, ge_iff_le] at *); (try simp (disch := omega) only [wr, wru, shr1, Int.tdiv_eq_ediv_of_nonneg] at *)); omega) | (((try simp only [decide_eq_true_eq, decide_eq_false_iff_not, cond_true, cond_false, beq_iff_eq, beq_eq_false_iff_ne, bne_iff_ne, bne_eq_false_iff_eq, ne_eq, Bool.not_eq_true', Bool.not_eq_false', Bool.not_eq_eq_eq_not, Bool.not_true, Bool.not_false, sLe_eq, Bool.and_eq_true, Bool.and_eq_false_iff, List.length_map, List.length_set, List.length_append, List.length_take, List.length_drop, List.length_replicate, List.length_cons, List.length_nil, lenMax, capMax, Int.toNat_natCast, gt_iff_lt, ge_iff_le] at *); (try simp (disch := omega) only [wr, wru, shr1, Int.tdiv_eq_ediv_of_nonneg] at *)); assumption))) (fun _ _ => ?_); conv => whnf)
        | refine Exists.intro _ (And.intro (DV_toV rfl) ?_)
        | (refine rowSet (by (first | decide | exact trivial | omega | exact Nat.le_refl _ | (((try simp only [decide_eq_true_eq, decide_eq_false_iff_not, cond_true, cond_false, beq_iff_eq, beq_eq_false_iff_ne, bne_iff_ne, bne_eq_false_iff_eq, ne_eq, Bool.not_eq_true', Bool.not_eq_false', Bool.not_eq_eq_eq_not, Bool.not_true, Bool.not_false, sLe_eq, Bool.and_eq_true, Bool.and_eq_false_iff, List.length_map, List.length_set, List.length_append, List.length_take, List.length_drop, List.length_replicate, List.length_cons, List.length_nil, lenMax, capMax, Int.toNat_natCast, gt_iff_lt, ge_iff_le] at *); (try simp (disch := omega) only [wr, wru, shr1, Int.tdiv_eq_ediv_of_nonneg] at *)); omega) | (((try simp only [decide_eq_true_eq, decide_eq_false_iff_not, cond_true, cond_false, beq_iff_eq, beq_eq_false_iff_ne, bne_iff_ne, bne_eq_false_iff_eq, ne_eq, Bool.not_eq_true', Bool.not_eq_false', Bool.not_eq_eq_eq_not, Bool.not_true, Bool.not_false, sLe_eq, Bool.and_eq_true, Bool.and_eq_false_iff, List.length_map, List.length_set, List.length_append, List.length_take, List.length_drop, List.length_replicate, List.length_cons, List.length_nil, lenMax, capMax, Int.toNat_natCast, gt_iff_lt, ge_iff_le] at *); (try simp (disch := omega) only [wr, wru, shr1, Int.tdiv_eq_ediv_of_nonneg] at *)); assumption))) ?_; conv => whnf)
        | (refine rowOld (by assumption) ?_; conv => whnf)
        | (refine rowNew (by (first | decide | exact trivial | omega | exact Nat.le_refl _ | (((try simp only [decide_eq_true_eq, decide_eq_false_iff_not, cond_true, cond_false, beq_iff_eq, beq_eq_false_iff_ne, bne_iff_ne, bne_eq_false_iff_eq, ne_eq, Bool.not_eq_true', Bool.not_eq_false', Bool.not_eq_eq_eq_not, Bool.not_true, Bool.not_false, sLe_eq, Bool.and_eq_true, Bool.and_eq_false_iff, List.length_map, List.length_set, List.length_append, List.length_take, List.length_drop, List.length_replicate, List.length_cons, List.length_nil, lenMax, capMax, Int.toNat_natCast, gt_iff_lt, ge_iff_le] at *); (try simp (disch := omega) only [wr, wru, shr1, Int.tdiv_eq_ediv_of_nonneg] at *)); omega) | (((try simp only [decide_eq_true_eq, decide_eq_false_iff_not, cond_true, cond_false, beq_iff_eq, beq_eq_false_iff_ne, bne_iff_ne, bne_eq_false_iff_eq, ne_eq, Bool.not_eq_true', Bool.not_eq_false', Bool.not_eq_eq_eq_not, Bool.not_true, Bool.not_false, sLe_eq, Bool.and_eq_true, Bool.and_eq_false_iff, List.length_map, List.length_set, List.length_append, List.length_take, List.length_drop, List.length_replicate, List.length_cons, List.length_nil, lenMax, capMax, Int.toNat_natCast, gt_iff_lt, ge_iff_le] at *); (try simp (disch := omega) only [wr, wru, shr1, Int.tdiv_eq_ediv_of_nonneg] at *)); assumption))) (fun _ _ => ?_); conv => whnf)
        | (apply WpD.id; first
      | (refine WpD.walk rfl ?_; conv => whnf))
      all_goals rfl
  · have e : alF r key n now = ratF r := by rw [alF, if_pos a]
    have hf : ((ratF r).1 != 0) = true := by simpa using fun e => a (ratF_0 e)
    rw [e]
    refine callV_of Try.func20 rfl (Nat.le_of_ble_eq_true rfl) (by kernel_rfl) ?_
    repeat' first
      | (apply Br.id; first
      | (apply Br.tt; try conv => whnf)
      | (apply Br.ff; try conv => whnf)
      | (refine Br.of_t (by assumption) ?_; conv => whnf)
      | (refine Br.of_f (by assumption) ?_; conv => whnf)
      | (refine Br.mk (fun _ => ?_) (fun _ => ?_) <;> try conv => whnf))
      | (apply CallOp.id; first
      | (refine call_at rfl rfl rfl rfl rfl ?_)
      | (refine call_rd rfl rfl rfl rfl rfl ?_)
      | (refine CallOp.std ?_; (conv => whnf); fail_if_success refine (?_ : False)))
      | (apply CallDet.id; first
      | (refine call_atD rfl rfl rfl rfl rfl ?_)
      | (refine call_rdD rfl rfl rfl rfl rfl ?_)
      | (refine CallDet.std ?_; (conv => whnf); fail_if_success refine (?_ : False)))
      | (apply CallAt.id; first
      | (apply CallAt.mk1 (h1); conv => whnf)
      | (apply CallAt.mk1 (h2); conv => whnf)
      | (apply CallAt.mk1 (h3); conv => whnf)
      | (apply CallAt.mk1 (h4); conv => whnf)
      | (apply CallAt.mk1 (c_At _ _); conv => whnf))
      | (apply CallRd.id; first
      | (apply CallRd.mk1 (h1); (· rfl); conv => whnf)
      | (apply CallRd.mk1 (h2); (· rfl); conv => whnf)
      | (apply CallRd.mk1 (h3); (· rfl); conv => whnf)
      | (apply CallRd.mk1 (h4); (· rfl); conv => whnf)
      | (apply CallRd.mk1 (c_At _ _); (· rfl); conv => whnf))
      | (refine EndOk.mk (by kernel_rfl) ?_; conv => whnf)
      | (refine And.intro (by (first | decide | exact trivial | omega | exact Nat.le_refl _ | (((try simp only [decide_eq_true_eq, decide_eq_false_iff_not, cond_true, cond_false, beq_iff_eq, beq_eq_false_iff_ne, bne_iff_ne, bne_eq_false_iff_eq, ne_eq, Bool.not_eq_true', Bool.not_eq_false', Bool.not_eq_eq_eq_not, Bool.not_true, Bool.not_false, sLe_eq, Bool.and_eq_true, Bool.and_eq_false_iff, List.length_map, List.length_set, List.length_append, List.length_take, List.length_drop, List.length_replicate, List.length_cons, List.length_nil, lenMax, capMax, Int.toNat_natCast, gt_iff_lt, ge_iff_le] at *); (try simp (disch := omega) only [wr, wru, shr1, Int.tdiv_eq_ediv_of_nonneg] at *)); omega) | (((try simp only [decide_eq_true_eq, decide_eq_false_iff_not, cond_true, cond_false, beq_iff_eq, beq_eq_false_iff_ne, bne_iff_ne, bne_eq_false_iff_eq, ne_eq, Bool.not_eq_true', Bool.not_eq_false', Bool.not_eq_eq_eq_not, Bool.not_true, Bool.not_false, sLe_eq, Bool.and_eq_true, Bool.and_eq_false_iff, List.length_map, List.length_set, List.length_append, List.length_take, List.length_drop, List.length_replicate, List.length_cons, List.length_nil, lenMax, capMax, Int.toNat_natCast, gt_iff_lt, ge_iff_le] at *); (try simp (disch := omega) only [wr, wru, shr1, Int.tdiv_eq_ediv_of_nonneg] at *)); assumption))) ?_; conv => whnf)
      | (refine idxOld (by assumption) ?_; conv => whnf)
      | (refine idxMap (by (first | decide | exact trivial | omega | exact Nat.le_refl _ | (((try simp only [decide_eq_true_eq, decide_eq_false_iff_not, cond_true, cond_false, beq_iff_eq, beq_eq_false_iff_ne, bne_iff_ne, bne_eq_false_iff_eq, ne_eq, Bool.not_eq_true', Bool.not_eq_false', Bool.not_eq_eq_eq_not, Bool.not_true, Bool.not_false, sLe_eq, Bool.and_eq_true, Bool.and_eq_false_iff, List.length_map, List.length_set, List.length_append, List.length_take, List.length_drop, List.length_replicate, List.length_cons, List.length_nil, lenMax, capMax, Int.toNat_natCast, gt_iff_lt, ge_iff_le] at *); (try simp (disch := omega) only [wr, wru, shr1, Int.tdiv_eq_ediv_of_nonneg] at *)); omega) | (((try simp only [decide_eq_true_eq, decide_eq_false_iff_not, cond_true, cond_false, beq_iff_eq, beq_eq_false_iff_ne, bne_iff_ne, bne_eq_false_iff_eq, ne_eq, Bool.not_eq_true', Bool.not_eq_false', Bool.not_eq_eq_eq_not, Bool.not_true, Bool.not_false, sLe_eq, Bool.and_eq_true, Bool.and_eq_false_iff, List.length_map, List.length_set, List.length_append, List.length_take, List.length_drop, List.length_replicate, List.length_cons, List.length_nil, lenMax, capMax, Int.toNat_natCast, gt_iff_lt, ge_iff_le] at *); (try simp (disch := omega) only [wr, wru, shr1, Int.tdiv_eq_ediv_of_nonneg] at *)); assumption))) (fun _ _ => ?_); conv => whnf)
      | refine Exists.intro _ (And.intro (DV_toV rfl) ?_)
      | (refine rowSet (by (first | decide | exact trivial | omega | exact Nat.le_refl _ | (((try simp only [decide_eq_true_eq, decide_eq_false_iff_not, cond_true, cond_false, beq_iff_eq, beq_eq_false_iff_ne, bne_iff_ne, bne_eq_false_iff_eq, ne_eq, Bool.not_eq_true', Bool.not_eq_false', Bool.not_eq_eq_eq_not, Bool.not_true, Bool.not_false, sLe_eq, Bool.and_eq_true, Bool.and_eq_false_iff, List.length_map, List.length_set, List.length_append, List.length_take, List.length_drop, List.length_replicate, List.length_cons, List.length_nil, lenMax, capMax, Int.toNat_natCast, gt_iff_lt, ge_iff_le] at *); (try simp (disch := omega) only [wr, wru, shr1, Int.tdiv_eq_ediv_of_nonneg] at *)); omega) | (((try simp only [decide_eq_true_eq, decide_eq_false_iff_not, cond_true, cond_false, beq_iff_eq, beq_eq_false_iff_ne, bne_iff_ne, bne_eq_false_iff_eq, ne_eq, Bool.not_eq_true', Bool.not_eq_false', Bool.not_eq_eq_eq_not, Bool.not_true, Bool.not_false, sLe_eq, Bool.and_eq_true, Bool.and_eq_false_iff, List.length_map, List.length_set, List.length_append, List.length_take, List.length_drop, List.length_replicate, List.length_cons, List.length_nil, lenMax, capMax, Int.toNat_natCast, gt_iff_lt, ge_iff_le] at *); (try simp (disch := omega) only [wr, wru, shr1, Int.tdiv_eq_ediv_of_nonneg] at *)); assumption))) ?_; conv => whnf)
      | (refine rowOld (by assumption) ?_; conv => whnf)
      | (refine rowNew (by (first | decide | exact trivial | omega | exact Nat.le_refl _ | (((try simp only [decide_eq_true_eq, decide_eq_false_iff_not, cond_true, cond_false, beq_iff_eq, beq_eq_false_iff_ne, bne_iff_ne, bne_eq_false_iff_eq, ne_eq, Bool.not_eq_true', Bool.not_eq_false', Bool.not_eq_eq_eq_not, Bool.not_true, Bool.not_false, sLe_eq, Bool.and_eq_true, Bool.and_eq_false_iff, List.length_map, List.length_set, List.length_append, List.length_take, List.length_drop, List.length_replicate, List.length_cons, List.length_nil, lenMax, capMax, Int.toNat_natCast, gt_iff_lt, ge_iff_le] at *); (try simp (disch := omega) only [wr, wru, shr1, Int.tdiv_eq_ediv_of_nonneg] at *)); omega) | (((try simp only [decide_eq_true_eq, decide_eq_false_iff_not, cond_true, cond_false, beq_iff_eq, beq_eq_false_iff_ne, bne_iff_ne, bne_eq_false_iff_eq, ne_eq, Bool.not_eq_true', Bool.not_eq_false', Bool.not_eq_eq_eq_not, Bool.not_true, Bool.not_false, sLe_eq, Bool.and_eq_true, Bool.and_eq_false_iff, List.length_map, List.length_set, List.length_append, List.length_take, List.length_drop, List.length_replicate, List.length_cons, List.length_nil, lenMax, capMax, Int.toNat_natCast, gt_iff_lt, ge_iff_le] at *); (try simp (disch := omega) only [wr, wru, shr1, Int.tdiv_eq_ediv_of_nonneg] at *)); assumption))) (fun _ _ => ?_); conv => whnf)
      | (apply WpD.id; first
      | (refine WpD.walk rfl ?_; conv => whnf))
    all_goals rfl
theorem c_Allowed_full (r : Rt) (key : ByteArray) (n now : Int) (h : alF r key n now = (0, 0)) (hU : CallV tab 48 [.agg r.row, .str key] (· = .tup [uss true [], .int .i64 (-1)])) (h300 : r.l.length = 300) : CallV tab 20 [.agg r.row, .str key, .int .i64 n, .int .i64 now] (· = .tup [.agg rt0.row, .bool false, fv (2, -1)]) := by
  obtain ⟨ho, ⟨k1, k2⟩, hn, hw⟩ := alF_ok h
  have h1 := c_RatesFault r
  rw [ok_ratF ho] at h1
  have h2 := c_In (key.size : Int) 1 4000
  have h3 := c_In n 1 1000000
  have h4 := c_Instant now
  rw [show (decide ((1 : Int) ≤ (key.size : Int)) && decide ((key.size : Int) ≤ 4000)) = true by simp; omega] at h2
  rw [show (decide ((1 : Int) ≤ n) && decide (n ≤ 1000000)) = true by simp; omega] at h3
  rw [show (decide (-68719476736 ≤ now) && decide (now ≤ 68719476736)) = true by simp; omega] at h4
  refine callV_of Try.func20 rfl (Nat.le_of_ble_eq_true rfl) (by kernel_rfl) ?_
  repeat' first
    | (apply Br.id; first
      | (apply Br.tt; try conv => whnf)
      | (apply Br.ff; try conv => whnf)
      | (refine Br.of_t (by assumption) ?_; conv => whnf)
      | (refine Br.of_f (by assumption) ?_; conv => whnf)
      | (refine Br.mk (fun _ => ?_) (fun _ => ?_) <;> try conv => whnf))
    | (apply CallOp.id; first
      | (refine call_at rfl rfl rfl rfl rfl ?_)
      | (refine call_rd rfl rfl rfl rfl rfl ?_)
      | (refine CallOp.std ?_; (conv => whnf); fail_if_success refine (?_ : False)))
    | (apply CallDet.id; first
      | (refine call_atD rfl rfl rfl rfl rfl ?_)
      | (refine call_rdD rfl rfl rfl rfl rfl ?_)
      | (refine CallDet.std ?_; (conv => whnf); fail_if_success refine (?_ : False)))
    | (apply CallAt.id; first
      | (apply CallAt.mk1 (h1); conv => whnf)
      | (apply CallAt.mk1 (h2); conv => whnf)
      | (apply CallAt.mk1 (h3); conv => whnf)
      | (apply CallAt.mk1 (h4); conv => whnf)
      | (apply CallAt.mk1 (c_At _ _); conv => whnf)
      | (apply CallAt.mk1 (hU); conv => whnf))
    | (apply CallRd.id; first
      | (apply CallRd.mk1 (h1); (· rfl); conv => whnf)
      | (apply CallRd.mk1 (h2); (· rfl); conv => whnf)
      | (apply CallRd.mk1 (h3); (· rfl); conv => whnf)
      | (apply CallRd.mk1 (h4); (· rfl); conv => whnf)
      | (apply CallRd.mk1 (c_At _ _); (· rfl); conv => whnf)
      | (apply CallRd.mk1 (hU); (· rfl); conv => whnf))
    | (refine EndOk.mk (by kernel_rfl) ?_; conv => whnf)
    | (refine And.intro (by (first | decide | exact trivial | omega | exact Nat.le_refl _ | (((try simp only [decide_eq_true_eq, decide_eq_false_iff_not, cond_true, cond_false, beq_iff_eq, beq_eq_false_iff_ne, bne_iff_ne, bne_eq_false_iff_eq, ne_eq, Bool.not_eq_true', Bool.not_eq_false', Bool.not_eq_eq_eq_not, Bool.not_true, Bool.not_false, sLe_eq, Bool.and_eq_true, Bool.and_eq_false_iff, List.length_map, List.length_set, List.length_append, List.length_take, List.length_drop, List.length_replicate, List.length_cons, List.length_nil, lenMax, capMax, Int.toNat_natCast, gt_iff_lt, ge_iff_le] at *); (try simp (disch := omega) only [wr, wru, shr1, Int.tdiv_eq_ediv_of_nonneg] at *)); omega) | (((try simp only [decide_eq_true_eq, decide_eq_false_iff_not, cond_true, cond_false, beq_iff_eq, beq_eq_false_iff_ne, bne_iff_ne, bne_eq_false_iff_eq, ne_eq, Bool.not_eq_true', Bool.not_eq_false', Bool.not_eq_eq_eq_not, Bool.not_true, Bool.not_false, sLe_eq, Bool.and_eq_true, Bool.and_eq_false_iff, List.length_map, List.length_set, List.length_append, List.length_take, List.length_drop, List.length_replicate, List.length_cons, List.length_nil, lenMax, capMax, Int.toNat_natCast, gt_iff_lt, ge_iff_le] at *); (try simp (disch := omega) only [wr, wru, shr1, Int.tdiv_eq_ediv_of_nonneg] at *)); assumption))) ?_; conv => whnf)
    | (refine idxOld (by assumption) ?_; conv => whnf)
    | (refine idxMap (by (first | decide | exact trivial | omega | exact Nat.le_refl _ | (((try simp only [decide_eq_true_eq, decide_eq_false_iff_not, cond_true, cond_false, beq_iff_eq, beq_eq_false_iff_ne, bne_iff_ne, bne_eq_false_iff_eq, ne_eq, Bool.not_eq_true', Bool.not_eq_false', Bool.not_eq_eq_eq_not, Bool.not_true, Bool.not_false, sLe_eq, Bool.and_eq_true, Bool.and_eq_false_iff, List.length_map, List.length_set, List.length_append, List.length_take, List.length_drop, List.length_replicate, List.length_cons, List.length_nil, lenMax, capMax, Int.toNat_natCast, gt_iff_lt, ge_iff_le] at *); (try simp (disch := omega) only [wr, wru, shr1, Int.tdiv_eq_ediv_of_nonneg] at *)); omega) | (((try simp only [decide_eq_true_eq, decide_eq_false_iff_not, cond_true, cond_false, beq_iff_eq, beq_eq_false_iff_ne, bne_iff_ne, bne_eq_false_iff_eq, ne_eq, Bool.not_eq_true', Bool.not_eq_false', Bool.not_eq_eq_eq_not, Bool.not_true, Bool.not_false, sLe_eq, Bool.and_eq_true, Bool.and_eq_false_iff, List.length_map, List.length_set, List.length_append, List.length_take, List.length_drop, List.length_replicate, List.length_cons, List.length_nil, lenMax, capMax, Int.toNat_natCast, gt_iff_lt, ge_iff_le] at *); (try simp (disch := omega) only [wr, wru, shr1, Int.tdiv_eq_ediv_of_nonneg] at *)); assumption))) (fun _ _ => ?_); conv => whnf)
    | refine Exists.intro _ (And.intro (DV_toV rfl) ?_)
    | (refine rowSet (by (first | decide | exact trivial | omega | exact Nat.le_refl _ | (((try simp only [decide_eq_true_eq, decide_eq_false_iff_not, cond_true, cond_false, beq_iff_eq, beq_eq_false_iff_ne, bne_iff_ne, bne_eq_false_iff_eq, ne_eq, Bool.not_eq_true', Bool.not_eq_false', Bool.not_eq_eq_eq_not, Bool.not_true, Bool.not_false, sLe_eq, Bool.and_eq_true, Bool.and_eq_false_iff, List.length_map, List.length_set, List.length_append, List.length_take, List.length_drop, List.length_replicate, List.length_cons, List.length_nil, lenMax, capMax, Int.toNat_natCast, gt_iff_lt, ge_iff_le] at *); (try simp (disch := omega) only [wr, wru, shr1, Int.tdiv_eq_ediv_of_nonneg] at *)); omega) | (((try simp only [decide_eq_true_eq, decide_eq_false_iff_not, cond_true, cond_false, beq_iff_eq, beq_eq_false_iff_ne, bne_iff_ne, bne_eq_false_iff_eq, ne_eq, Bool.not_eq_true', Bool.not_eq_false', Bool.not_eq_eq_eq_not, Bool.not_true, Bool.not_false, sLe_eq, Bool.and_eq_true, Bool.and_eq_false_iff, List.length_map, List.length_set, List.length_append, List.length_take, List.length_drop, List.length_replicate, List.length_cons, List.length_nil, lenMax, capMax, Int.toNat_natCast, gt_iff_lt, ge_iff_le] at *); (try simp (disch := omega) only [wr, wru, shr1, Int.tdiv_eq_ediv_of_nonneg] at *)); assumption))) ?_; conv => whnf)
    | (refine rowOld (by assumption) ?_; conv => whnf)
    | (refine rowNew (by (first | decide | exact trivial | omega | exact Nat.le_refl _ | (((try simp only [decide_eq_true_eq, decide_eq_false_iff_not, cond_true, cond_false, beq_iff_eq, beq_eq_false_iff_ne, bne_iff_ne, bne_eq_false_iff_eq, ne_eq, Bool.not_eq_true', Bool.not_eq_false', Bool.not_eq_eq_eq_not, Bool.not_true, Bool.not_false, sLe_eq, Bool.and_eq_true, Bool.and_eq_false_iff, List.length_map, List.length_set, List.length_append, List.length_take, List.length_drop, List.length_replicate, List.length_cons, List.length_nil, lenMax, capMax, Int.toNat_natCast, gt_iff_lt, ge_iff_le] at *); (try simp (disch := omega) only [wr, wru, shr1, Int.tdiv_eq_ediv_of_nonneg] at *)); omega) | (((try simp only [decide_eq_true_eq, decide_eq_false_iff_not, cond_true, cond_false, beq_iff_eq, beq_eq_false_iff_ne, bne_iff_ne, bne_eq_false_iff_eq, ne_eq, Bool.not_eq_true', Bool.not_eq_false', Bool.not_eq_eq_eq_not, Bool.not_true, Bool.not_false, sLe_eq, Bool.and_eq_true, Bool.and_eq_false_iff, List.length_map, List.length_set, List.length_append, List.length_take, List.length_drop, List.length_replicate, List.length_cons, List.length_nil, lenMax, capMax, Int.toNat_natCast, gt_iff_lt, ge_iff_le] at *); (try simp (disch := omega) only [wr, wru, shr1, Int.tdiv_eq_ediv_of_nonneg] at *)); assumption))) (fun _ _ => ?_); conv => whnf)
    | (apply WpD.id; first
      | (refine WpD.walk rfl ?_; conv => whnf))
  all_goals clear h1 h2 h3 h4 hU
  all_goals ((try simp only [decide_eq_true_eq, decide_eq_false_iff_not, cond_true, cond_false, beq_iff_eq, beq_eq_false_iff_ne, bne_iff_ne, bne_eq_false_iff_eq, ne_eq, Bool.not_eq_true', Bool.not_eq_false', Bool.not_eq_eq_eq_not, Bool.not_true, Bool.not_false, sLe_eq, Bool.and_eq_true, Bool.and_eq_false_iff, List.length_map, List.length_set, List.length_append, List.length_take, List.length_drop, List.length_replicate, List.length_cons, List.length_nil, lenMax, capMax, Int.toNat_natCast, gt_iff_lt, ge_iff_le] at *); (try simp (disch := omega) only [wr, wru, shr1, Int.tdiv_eq_ediv_of_nonneg] at *))
  all_goals first | rfl | (exfalso; omega) | trace_state
def awS (r : Rt) (key : ByteArray) (n now : Int) (z : Bool) (u : List Us) (i : Int) (q : Nat × Int × List Us) : St := ⟨[(1, .v (.str key)), (2, .v (.int .i64 n)), (3, .v (.int .i64 now)), (4, .ptr 0 0 0), (8, .ptr 1 0 0), (10, .ptr 2 0 0), (12, .v (uss z u)), (13, .v (.int .i64 i)), (14, .arr 3 0 q.2.2.length), (15, .v (.int .i64 q.2.1)), (16, .v (.int .i64 q.1))], [.arr 3 (vrows [r.row]), .arr 3 (vrows [[.int .i64 0, .int .i64 0, .sl 2 true []]]), .arr 2 (vrows [[.int .i64 0, .int .i64 0]]), .arr 2 (vrows (q.2.2.map Us.row))], []⟩
def awP (r : Rt) (n now : Int) (u : List Us) (q : Nat × Int × List Us) : Prop := q.1 ≤ u.length ∧ q.2.2 = leftU r now (u.take q.1) ∧ q.2.1 = n + sumU q.2.2 ∧ q.2.2.length ≤ q.1 ∧ 0 ≤ sumU q.2.2 ∧ sumU q.2.2 ≤ 1000000 * (q.1 : Int)
theorem awP_keep {r : Rt} {n now : Int} {u : List Us} {k : Nat} {s : Int} {l : List Us} {x : Us} (h : awP r n now u (k, s, l)) (hx : u[k]? = some x) (hb : 0 ≤ x.n ∧ x.n ≤ 1000000) (ho : oldU now r.w x = false) : awP r n now u (k + 1, s + x.n, l ++ [x]) := by
  obtain ⟨h1, h2, h3, h4, h5, h6⟩ := h
  dsimp only at h1 h2 h3 h4 h5 h6
  have hk := lt_get hx
  have es : sumU (l ++ [x]) = sumU l + x.n := by unfold sumU; simp
  refine ⟨by dsimp only; omega, ?_, ?_, by simp; omega, by dsimp only; rw [es]; omega, by dsimp only; rw [es]; omega⟩
  · dsimp only; rw [take_get hx, h2]; unfold leftU; rw [List.filter_append]; simp [ho]
  · dsimp only; rw [es]; omega
theorem awP_drop {r : Rt} {n now : Int} {u : List Us} {k : Nat} {s : Int} {l : List Us} {x : Us} (h : awP r n now u (k, s, l)) (hx : u[k]? = some x) (ho : oldU now r.w x = true) : awP r n now u (k + 1, s, l) := by
  obtain ⟨h1, h2, h3, h4, h5, h6⟩ := h
  dsimp only at h1 h2 h3 h4 h5 h6
  have hk := lt_get hx
  refine ⟨by dsimp only; omega, ?_, h3, by dsimp only; omega, h5, by dsimp only; omega⟩
  dsimp only; rw [take_get hx, h2]; unfold leftU; rw [List.filter_append]; simp [ho]
theorem c_Allowed_core (r : Rt) (key : ByteArray) (n now : Int) (h : alF r key n now = (0, 0)) (z : Bool) (u : List Us) (i : Int) (hU : CallV tab 48 [.agg r.row, .str key] (· = .tup [uss z u, .int .i64 i])) (h300 : i < 0 → ¬ r.l.length = 300) (hul : u.length ≤ 300) (huo : ∀ y ∈ u, uOk r.m y) (ha : (u.any fun y => decide (now < y.a)) = false) : CallV tab 20 [.agg r.row, .str key, .int .i64 n, .int .i64 now] (· = if r.m < sumU (leftU r now u) + n then .tup [.agg [.int .i64 r.w, .int .i64 r.m, rks false (putR ⟨key, false, leftU r now u⟩ false r.l)], .bool false, fv (0, 0)] else if (leftU r now u).length = 300 then .tup [.agg rt0.row, .bool false, fv (2, i)] else .tup [.agg [.int .i64 r.w, .int .i64 r.m, rks false (putR ⟨key, false, leftU r now u ++ [⟨now, n⟩]⟩ false r.l)], .bool true, fv (0, 0)]) := by
  obtain ⟨ho, ⟨k1, k2⟩, hn, hw⟩ := alF_ok h
  have hol := ho.l
  have hom := ho.m
  have how := ho.w
  have h1 := c_RatesFault r
  rw [ok_ratF ho] at h1
  have h2 := c_In (key.size : Int) 1 4000
  have h3 := c_In n 1 1000000
  have h4 := c_Instant now
  rw [show (decide ((1 : Int) ≤ (key.size : Int)) && decide ((key.size : Int) ≤ 4000)) = true by simp; omega] at h2
  rw [show (decide ((1 : Int) ≤ n) && decide (n ≤ 1000000)) = true by simp; omega] at h3
  rw [show (decide (-68719476736 ≤ now) && decide (now ≤ 68719476736)) = true by simp; omega] at h4
  have h5 : ∀ (l : List Us) (q : Nat), q = l.length → CallD tab 49 [.agg [.v (.int .i64 r.w), .v (.int .i64 r.m), .v (.sl 2 r.z (r.l.map Rk.row))], .v (.str key), .arr 0 0 q] [.arr 2 (vrows (l.map Us.row))] (fun d _ => ∃ y, d = .v y ∧ y = .agg [.int .i64 r.w, .int .i64 r.m, rks false (putR ⟨key, false, l⟩ false r.l)]) := fun l q hq =>
    callD_of_callV (c_WithUses r ⟨key, false, l⟩ (by omega)) ⟨⟨rfl, rfl, rfl, trivial⟩, rfl, DV_arr rfl (by simpa using hq), trivial⟩
  refine callV_of Try.func20 rfl (Nat.le_of_ble_eq_true rfl) (by kernel_rfl) ?_
  have hub : ∀ y ∈ u, -68719476736 ≤ y.a ∧ y.a ≤ 68719476736 ∧ 0 ≤ y.n ∧ y.n ≤ 1000000 := fun y hy => by have := huo y hy; unfold uOk at this; omega
  have hna : ∀ y ∈ u, ¬ now < y.a := fun y hy h => by
    have := List.any_eq_false.1 ha y hy
    simp at this; omega
  repeat' first
    | (apply Br.id; first
      | (apply Br.tt; try conv => whnf)
      | (apply Br.ff; try conv => whnf)
      | (refine Br.of_t (by assumption) ?_; conv => whnf)
      | (refine Br.of_f (by assumption) ?_; conv => whnf)
      | (refine Br.mk (fun _ => ?_) (fun _ => ?_) <;> try conv => whnf))
    | (apply CallOp.id; first
      | (refine call_eatV [3] (h5 _ _ rfl) rfl rfl rfl rfl rfl rfl (by decide) rfl (fun i p h => ?_) (fun y hy => ?_); rotate_left; subst hy; conv => whnf)
      | (refine call_eatVD [3] (h5 _ _ rfl) rfl rfl rfl rfl rfl rfl (by decide) rfl (fun i p h => ?_) ?_; rotate_left; conv => whnf)
      | (refine call_eatV [5] (h5 (l ++ [(⟨now, n⟩ : Us)]) _ (by simp)) rfl rfl rfl rfl rfl rfl (by decide) rfl (fun i p h => ?_) (fun y hy => ?_); rotate_left; subst hy; conv => whnf)
      | (refine call_eatVD [5] (h5 (l ++ [(⟨now, n⟩ : Us)]) _ (by simp)) rfl rfl rfl rfl rfl rfl (by decide) rfl (fun i p h => ?_) ?_; rotate_left; conv => whnf)
      | (refine call_at rfl rfl rfl rfl rfl ?_)
      | (refine call_rd rfl rfl rfl rfl rfl ?_)
      | (refine CallOp.std ?_; (conv => whnf); fail_if_success refine (?_ : False)))
    | (apply CallDet.id; first
      | (refine call_eatV [3] (h5 _ _ rfl) rfl rfl rfl rfl rfl rfl (by decide) rfl (fun i p h => ?_) (fun y hy => ?_); rotate_left; subst hy; conv => whnf)
      | (refine call_eatVD [3] (h5 _ _ rfl) rfl rfl rfl rfl rfl rfl (by decide) rfl (fun i p h => ?_) ?_; rotate_left; conv => whnf)
      | (refine call_eatV [5] (h5 (l ++ [(⟨now, n⟩ : Us)]) _ (by simp)) rfl rfl rfl rfl rfl rfl (by decide) rfl (fun i p h => ?_) (fun y hy => ?_); rotate_left; subst hy; conv => whnf)
      | (refine call_eatVD [5] (h5 (l ++ [(⟨now, n⟩ : Us)]) _ (by simp)) rfl rfl rfl rfl rfl rfl (by decide) rfl (fun i p h => ?_) ?_; rotate_left; conv => whnf)
      | (refine call_atD rfl rfl rfl rfl rfl ?_)
      | (refine call_rdD rfl rfl rfl rfl rfl ?_)
      | (refine CallDet.std ?_; (conv => whnf); fail_if_success refine (?_ : False)))
    | (apply CallAt.id; first
      | (apply CallAt.mk1 (h1); conv => whnf)
      | (apply CallAt.mk1 (h2); conv => whnf)
      | (apply CallAt.mk1 (h3); conv => whnf)
      | (apply CallAt.mk1 (h4); conv => whnf)
      | (apply CallAt.mk1 (c_At _ _); conv => whnf)
      | (apply CallAt.mk1 (hU); conv => whnf))
    | (apply CallRd.id; first
      | (apply CallRd.mk1 (h1); (· rfl); conv => whnf)
      | (apply CallRd.mk1 (h2); (· rfl); conv => whnf)
      | (apply CallRd.mk1 (h3); (· rfl); conv => whnf)
      | (apply CallRd.mk1 (h4); (· rfl); conv => whnf)
      | (apply CallRd.mk1 (c_At _ _); (· rfl); conv => whnf)
      | (apply CallRd.mk1 (hU); (· rfl); conv => whnf))
    | (refine EndOk.mk (by kernel_rfl) ?_; conv => whnf)
    | (refine And.intro (by (first | decide | exact trivial | omega | exact Nat.le_refl _ | (((try simp only [decide_eq_true_eq, decide_eq_false_iff_not, cond_true, cond_false, beq_iff_eq, beq_eq_false_iff_ne, bne_iff_ne, bne_eq_false_iff_eq, ne_eq, Bool.not_eq_true', Bool.not_eq_false', Bool.not_eq_eq_eq_not, Bool.not_true, Bool.not_false, sLe_eq, Bool.and_eq_true, Bool.and_eq_false_iff, List.length_map, List.length_set, List.length_append, List.length_take, List.length_drop, List.length_replicate, List.length_cons, List.length_nil, lenMax, capMax, Int.toNat_natCast, gt_iff_lt, ge_iff_le] at *); (try simp (disch := omega) only [wr, wru, shr1, Int.tdiv_eq_ediv_of_nonneg] at *)); omega) | (((try simp only [decide_eq_true_eq, decide_eq_false_iff_not, cond_true, cond_false, beq_iff_eq, beq_eq_false_iff_ne, bne_iff_ne, bne_eq_false_iff_eq, ne_eq, Bool.not_eq_true', Bool.not_eq_false', Bool.not_eq_eq_eq_not, Bool.not_true, Bool.not_false, sLe_eq, Bool.and_eq_true, Bool.and_eq_false_iff, List.length_map, List.length_set, List.length_append, List.length_take, List.length_drop, List.length_replicate, List.length_cons, List.length_nil, lenMax, capMax, Int.toNat_natCast, gt_iff_lt, ge_iff_le] at *); (try simp (disch := omega) only [wr, wru, shr1, Int.tdiv_eq_ediv_of_nonneg] at *)); assumption))) ?_; conv => whnf)
    | (refine idxOld (by assumption) ?_; conv => whnf)
    | (refine idxMap (by (first | decide | exact trivial | omega | exact Nat.le_refl _ | (((try simp only [decide_eq_true_eq, decide_eq_false_iff_not, cond_true, cond_false, beq_iff_eq, beq_eq_false_iff_ne, bne_iff_ne, bne_eq_false_iff_eq, ne_eq, Bool.not_eq_true', Bool.not_eq_false', Bool.not_eq_eq_eq_not, Bool.not_true, Bool.not_false, sLe_eq, Bool.and_eq_true, Bool.and_eq_false_iff, List.length_map, List.length_set, List.length_append, List.length_take, List.length_drop, List.length_replicate, List.length_cons, List.length_nil, lenMax, capMax, Int.toNat_natCast, gt_iff_lt, ge_iff_le] at *); (try simp (disch := omega) only [wr, wru, shr1, Int.tdiv_eq_ediv_of_nonneg] at *)); omega) | (((try simp only [decide_eq_true_eq, decide_eq_false_iff_not, cond_true, cond_false, beq_iff_eq, beq_eq_false_iff_ne, bne_iff_ne, bne_eq_false_iff_eq, ne_eq, Bool.not_eq_true', Bool.not_eq_false', Bool.not_eq_eq_eq_not, Bool.not_true, Bool.not_false, sLe_eq, Bool.and_eq_true, Bool.and_eq_false_iff, List.length_map, List.length_set, List.length_append, List.length_take, List.length_drop, List.length_replicate, List.length_cons, List.length_nil, lenMax, capMax, Int.toNat_natCast, gt_iff_lt, ge_iff_le] at *); (try simp (disch := omega) only [wr, wru, shr1, Int.tdiv_eq_ediv_of_nonneg] at *)); assumption))) (fun _ _ => ?_); conv => whnf)
    | refine Exists.intro _ (And.intro (DV_toV rfl) ?_)
    | (refine rowSet (by (first | decide | exact trivial | omega | exact Nat.le_refl _ | (((try simp only [decide_eq_true_eq, decide_eq_false_iff_not, cond_true, cond_false, beq_iff_eq, beq_eq_false_iff_ne, bne_iff_ne, bne_eq_false_iff_eq, ne_eq, Bool.not_eq_true', Bool.not_eq_false', Bool.not_eq_eq_eq_not, Bool.not_true, Bool.not_false, sLe_eq, Bool.and_eq_true, Bool.and_eq_false_iff, List.length_map, List.length_set, List.length_append, List.length_take, List.length_drop, List.length_replicate, List.length_cons, List.length_nil, lenMax, capMax, Int.toNat_natCast, gt_iff_lt, ge_iff_le] at *); (try simp (disch := omega) only [wr, wru, shr1, Int.tdiv_eq_ediv_of_nonneg] at *)); omega) | (((try simp only [decide_eq_true_eq, decide_eq_false_iff_not, cond_true, cond_false, beq_iff_eq, beq_eq_false_iff_ne, bne_iff_ne, bne_eq_false_iff_eq, ne_eq, Bool.not_eq_true', Bool.not_eq_false', Bool.not_eq_eq_eq_not, Bool.not_true, Bool.not_false, sLe_eq, Bool.and_eq_true, Bool.and_eq_false_iff, List.length_map, List.length_set, List.length_append, List.length_take, List.length_drop, List.length_replicate, List.length_cons, List.length_nil, lenMax, capMax, Int.toNat_natCast, gt_iff_lt, ge_iff_le] at *); (try simp (disch := omega) only [wr, wru, shr1, Int.tdiv_eq_ediv_of_nonneg] at *)); assumption))) ?_; conv => whnf)
    | (refine rowOld (by assumption) ?_; conv => whnf)
    | (refine rowNew (by (first | decide | exact trivial | omega | exact Nat.le_refl _ | (((try simp only [decide_eq_true_eq, decide_eq_false_iff_not, cond_true, cond_false, beq_iff_eq, beq_eq_false_iff_ne, bne_iff_ne, bne_eq_false_iff_eq, ne_eq, Bool.not_eq_true', Bool.not_eq_false', Bool.not_eq_eq_eq_not, Bool.not_true, Bool.not_false, sLe_eq, Bool.and_eq_true, Bool.and_eq_false_iff, List.length_map, List.length_set, List.length_append, List.length_take, List.length_drop, List.length_replicate, List.length_cons, List.length_nil, lenMax, capMax, Int.toNat_natCast, gt_iff_lt, ge_iff_le] at *); (try simp (disch := omega) only [wr, wru, shr1, Int.tdiv_eq_ediv_of_nonneg] at *)); omega) | (((try simp only [decide_eq_true_eq, decide_eq_false_iff_not, cond_true, cond_false, beq_iff_eq, beq_eq_false_iff_ne, bne_iff_ne, bne_eq_false_iff_eq, ne_eq, Bool.not_eq_true', Bool.not_eq_false', Bool.not_eq_eq_eq_not, Bool.not_true, Bool.not_false, sLe_eq, Bool.and_eq_true, Bool.and_eq_false_iff, List.length_map, List.length_set, List.length_append, List.length_take, List.length_drop, List.length_replicate, List.length_cons, List.length_nil, lenMax, capMax, Int.toNat_natCast, gt_iff_lt, ge_iff_le] at *); (try simp (disch := omega) only [wr, wru, shr1, Int.tdiv_eq_ediv_of_nonneg] at *)); assumption))) (fun _ _ => ?_); conv => whnf)
    | (apply WpD.id; first
      | (refine WpD.nil 14 2 _ rfl rfl rfl rfl ?_; refine WpD.loop (awS r key n now z u i) (awP r n now u) (fun q => u.length - q.1) ?_ (fun ⟨k, s, l⟩ hq => ?_); rotate_left; obtain ⟨q1, q2, q3, q4, q5, q6⟩ := id hq; dsimp only [awS] at *)
      | (refine WpD.walk rfl ?_; conv => whnf))
  all_goals clear h1 h2 h3 h4 hU
  all_goals try (rename u[_]? = some _ => hx; have hxb := hub _ (List.mem_of_getElem? hx); have hxn := hna _ (List.mem_of_getElem? hx))
  all_goals ((try simp only [decide_eq_true_eq, decide_eq_false_iff_not, cond_true, cond_false, beq_iff_eq, beq_eq_false_iff_ne, bne_iff_ne, bne_eq_false_iff_eq, ne_eq, Bool.not_eq_true', Bool.not_eq_false', Bool.not_eq_eq_eq_not, Bool.not_true, Bool.not_false, sLe_eq, Bool.and_eq_true, Bool.and_eq_false_iff, List.length_map, List.length_set, List.length_append, List.length_take, List.length_drop, List.length_replicate, List.length_cons, List.length_nil, lenMax, capMax, Int.toNat_natCast, gt_iff_lt, ge_iff_le] at *); (try simp (disch := omega) only [wr, wru, shr1, Int.tdiv_eq_ediv_of_nonneg] at *))
  all_goals clear h5
  all_goals first
    | (exfalso; omega)
    | (rename Us => x
       refine ⟨(k + 1, s + x.n, l ++ [x]), [0, 1, 2, 5], awP_keep hq hx ⟨by omega, by omega⟩ (by unfold oldU; simp; omega), ⟨⟨by decide, rfl, ?_, ?_, rfl⟩, by dsimp only; omega⟩⟩
       · (repeat' first | exact trivial | apply And.intro | (refine leInt rfl ?_; first | omega | (dsimp only; omega)) | rfl | (refine leArr rfl ?_ rfl; (simp; try omega)) | (refine leBool rfl ?_; assumption))
         all_goals (simp; done)
         done
       · (repeat' first | exact trivial | (refine obLe_v ?_; try dsimp only) | rfl | apply And.intro)
         all_goals (simp [Us.row, List.take_of_length_le]; done)
         done)
    | (rename Us => x
       refine ⟨(k + 1, s, l), [0, 1, 2, 3], awP_drop hq hx (by unfold oldU; simp; omega), ⟨⟨by decide, rfl, ?_, ?_, rfl⟩, by dsimp only; omega⟩⟩
       · (repeat' first | exact trivial | apply And.intro | (refine leInt rfl ?_; first | omega | (dsimp only; omega)) | rfl | (refine leArr rfl ?_ rfl; (simp; try omega)) | (refine leBool rfl ?_; assumption))
         done
       · (repeat' first | exact trivial | (refine obLe_v ?_; try dsimp only) | rfl | apply And.intro)
         done)
    | (refine ⟨(0, n, []), [0, 1, 2, 4], ⟨Nat.zero_le _, rfl, by simp [sumU], Nat.le_refl _, by simp [sumU], by simp [sumU]⟩, ⟨by decide, rfl, ?_, ?_, rfl⟩⟩
       · (repeat' first | exact trivial | rfl | apply And.intro | (refine leInt rfl ?_; first | omega | (dsimp only; omega)) | (refine leArr rfl ?_ rfl; (simp; try omega)) | (refine leBool rfl ?_; assumption))
         done
       · (repeat' first | exact trivial | (refine obLe_v ?_; try dsimp only) | rfl | apply And.intro)
         done)
    | (rcases i with _ | i
       · simp at h; subst h
         exact obLe_v rfl
       · simp at h
       done)
    | (rcases i with _ | i
       · simp at h; subst h
         refine obLe_v (rows := List.take l.length (vrows (List.map Us.row l)) ++ List.take 1 (List.drop 0 [[D.v (V.int .i64 now), D.v (V.int .i64 n)]])) ?_
         simp [Us.row, List.take_of_length_le]
       · simp at h
       done)
    | (have hk : k = u.length := by omega
       have hl : leftU r now u = l := by rw [q2, hk, List.take_length]
       rw [hl]
       first
       | (rw [if_pos (by omega)]; rfl)
       | (rw [if_neg (by omega), if_pos (by omega)]; rfl)
       | (rw [if_neg (by omega), if_neg (by omega)]; rfl))
    | skip
  all_goals trace_state
end Go.DL
