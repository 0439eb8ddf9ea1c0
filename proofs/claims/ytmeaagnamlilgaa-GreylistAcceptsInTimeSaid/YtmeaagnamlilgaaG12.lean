/- The greylist: what Tried answers; waited; the law GreylistMatchesSpec. No condition. -/
import Derived.Test.YtmeaagnamlilgaaG11
set_option linter.unusedVariables false
set_option linter.unusedSimpArgs false
set_option maxHeartbeats 4000000
namespace Go.DL
open Go.Proofs

theorem c_Tried_bad (z : Bool) (l : List Ge) (h f t : ByteArray) (now : Int) (hb : tF0 l (ent h f t now) now ≠ (0, 0)) : CallV tab 12 [ges z l, .str h, .str f, .str t, .int .i64 now] (· = .tup [.sl 6 true [], .bool false, fv (tF0 l (ent h f t now) now)]) := by
  have h1 := c_GreyFault z l
  have h2 := c_GreyNames (ent h f t now)
  have h3 := c_Instant now
  by_cases a : gFault l = (0, 0)
  · rw [a] at h1
    by_cases b : nmOk (ent h f t now) = true
    · have c : ¬ rg now := fun c => hb (by unfold tF0; rw [if_neg (by simp [a]), if_neg (by simp [b]), if_neg (by simpa using c)])
      have e : tF0 l (ent h f t now) now = (3, -2) := by unfold tF0; rw [if_neg (by simp [a]), if_neg (by simp [b]), if_pos c]
      rw [e]
      rw [b] at h2
      unfold rg at c
      rw [show (decide (-68719476736 ≤ now) && decide (now ≤ 68719476736)) = false by simp; omega] at h3
      refine callV_of Try.func12 rfl (Nat.le_of_ble_eq_true rfl) (by kernel_rfl) ?_
      repeat' first
        | (apply Br.id; first
      | (apply Br.tt; try conv => whnf)
      | (apply Br.ff; try conv => whnf)
      | (refine Br.of_t (by assumption) ?_; conv => whnf)
      | (refine Br.of_f (by assumption) ?_; conv => whnf)
      | (refine Br.mk (fun _ => ?_) (fun _ => ?_) <;> try conv => whnf))
        | (apply CallOp.id; first
      | (refine call_at rfl rfl rfl rfl rfl ?_)
      | (refine call_rd rfl rfl rfl rfl rfl ?_)
      | (refine CallOp.std ?_; (conv => whnf); fail_if_success refine (?_ : False)))
        | (apply CallDet.id; first
      | (refine call_atD rfl rfl rfl rfl rfl ?_)
      | (refine call_rdD rfl rfl rfl rfl rfl ?_)
      | (refine CallDet.std ?_; (conv => whnf); fail_if_success refine (?_ : False)))
        | (apply CallAt.id; first
      | (apply CallAt.mk1 (h1); conv => whnf)
      | (apply CallAt.mk1 (h2); conv => whnf)
      | (apply CallAt.mk1 (h3); conv => whnf)
      | (apply CallAt.mk1 (c_At _ _); conv => whnf))
        | (apply CallRd.id; first
      | (apply CallRd.mk1 (h1); (· rfl); conv => whnf)
      | (apply CallRd.mk1 (h2); (· rfl); conv => whnf)
      | (apply CallRd.mk1 (h3); (· rfl); conv => whnf)
      | (apply CallRd.mk1 (c_At _ _); (· rfl); conv => whnf))
        | (refine EndOk.mk (by kernel_rfl) ?_; conv => whnf)
        | (refine And.intro (by (first | decide | exact trivial | omega | exact Nat.le_refl _ | (((try simp only [decide_eq_true_eq, decide_eq_false_iff_not, cond_true, cond_false, beq_iff_eq, beq_eq_false_iff_ne, bne_iff_ne, bne_eq_false_iff_eq, ne_eq, Bool.not_eq_true', Bool.not_eq_false', Bool.not_eq_eq_eq_not, Bool.not_true, Bool.not_false, sLe_eq, Bool.and_eq_true, Bool.and_eq_false_iff, List.length_map, List.length_set, List.length_append, List.length_take, List.length_drop, List.length_replicate, List.length_cons, List.length_nil, lenMax, capMax, Int.toNat_natCast, gt_iff_lt, ge_iff_le] at *); (try simp (disch := omega) only [wr, wru, shr1, Int.tdiv_eq_ediv_of_nonneg] at *)); omega) | (((try simp only [decide_eq_true_eq, decide_eq_false_iff_not, cond_true, cond_false, beq_iff_eq, beq_eq_false_iff_ne, bne_iff_ne, bne_eq_false_iff_eq, ne_eq, Bool.not_eq_true', Bool.not_eq_false', Bool.not_eq_eq_eq_not, Bool.not_true, Bool.not_false, sLe_eq, Bool.and_eq_true, Bool.and_eq_false_iff, List.length_map, List.length_set, List.length_append, List.length_take, List.length_drop, List.length_replicate, List.length_cons, List.length_nil, lenMax, capMax, Int.toNat_natCast, gt_iff_lt, ge_iff_le] at *); (try simp (disch := omega) only [wr, wru, shr1, Int.tdiv_eq_ediv_of_nonneg] at *)); assumption))) ?_; conv => whnf)
        | (refine idxOld (by assumption) ?_; conv => whnf)
        | (refine idxMap (by (first | decide | exact trivial | omega | exact Nat.le_refl _ | (((try simp only [decide_eq_true_eq, decide_eq_false_iff_not, cond_true, cond_false, beq_iff_eq, beq_eq_false_iff_ne, bne_iff_ne, bne_eq_false_iff_eq, ne_eq, Bool.not_eq_true', Bool.not_eq_false', Bool.not_eq_eq_eq_not, Bool.not_true, Bool.not_false, sLe_eq, Bool.and_eq_true, Bool.and_eq_false_iff, List.length_map, List.length_set, List.length_append, List.length_take, List.length_drop, List.length_replicate, List.length_cons, List.length_nil, lenMax, capMax, Int.toNat_natCast, gt_iff_lt, ge_iff_le] at *); (try simp (disch := omega) only [wr, wru, shr1, Int.tdiv_eq_ediv_of_nonneg] at *)); omega) | (((try simp only [decide_eq_true_eq, decide_eq_false_iff_not, cond_true, cond_false, beq_iff_eq, beq_eq_false_iff_ne, bne_iff_ne, bne_eq_false_iff_eq, ne_eq, Bool.not_eq_true', Bool.not_eq_false', Bool.not_eq_eq_eq_not, Bool.not_true, Bool.not_false, sLe_eq, Bool.and_eq_true, Bool.and_eq_false_iff, List.length_map, List.length_set, List.length_append, List.length_take, List.length_drop, List.length_replicate, List.length_cons, List.length_nil, lenMax, capMax, Int.toNat_natCast, gt_iff_lt, ge_iff_le] at *); (try simp (disch := omega) only [wr, wru, shr1, Int.tdiv_eq_ediv_of_nonneg] at *)); assumption))) (fun _ _ => ?_); conv => whnf)
        | refine Exists.intro _ (And.intro (DV_toV rfl) ?_)
        | (refine rowSet (by (first | decide | exact trivial | omega | exact Nat.le_refl _ | (((try simp only [decide_eq_true_eq, decide_eq_false_iff_not, cond_true, cond_false, beq_iff_eq, beq_eq_false_iff_ne, bne_iff_ne, bne_eq_false_iff_eq, ne_eq, Bool.not_eq_true', Bool.not_eq_false', Bool.not_eq_eq_eq_not, Bool.not_true, Bool.not_false, sLe_eq, Bool.and_eq_true, Bool.and_eq_false_iff, List.length_map, List.length_set, List.length_append, List.length_take, List.length_drop, List.length_replicate, List.length_cons, List.length_nil, lenMax, capMax, Int.toNat_natCast, gt_iff_lt, ge_iff_le] at *); (try simp (disch := omega) only [wr, wru, shr1, Int.tdiv_eq_ediv_of_nonneg] at *)); omega) | (((try simp only [decide_eq_true_eq, decide_eq_false_iff_not, cond_true, cond_false, beq_iff_eq, beq_eq_false_iff_ne, bne_iff_ne, bne_eq_false_iff_eq, ne_eq, Bool.not_eq_true', Bool.not_eq_false', Bool.not_eq_eq_eq_not, Bool.not_true, Bool.not_false, sLe_eq, Bool.and_eq_true, Bool.and_eq_false_iff, List.length_map, List.length_set, List.length_append, List.length_take, List.length_drop, List.length_replicate, List.length_cons, List.length_nil, lenMax, capMax, Int.toNat_natCast, gt_iff_lt, ge_iff_le] at *); (try simp (disch := omega) only [wr, wru, shr1, Int.tdiv_eq_ediv_of_nonneg] at *)); assumption))) ?_; conv => whnf)
        | (refine rowOld (by assumption) ?_; conv => whnf)
        | (refine rowNew (by (first | decide | exact trivial | omega | exact Nat.le_refl _ | (((try simp only [decide_eq_true_eq, decide_eq_false_iff_not, cond_true, cond_false, beq_iff_eq, beq_eq_false_iff_ne, bne_iff_ne, bne_eq_false_iff_eq, ne_eq, Bool.not_eq_true', Bool.not_eq_false', Bool.not_eq_eq_eq_not, Bool.not_true, Bool.not_false, sLe_eq, Bool.and_eq_true, Bool.and_eq_false_iff, List.length_map, List.length_set, List.length_append, List.length_take, List.length_drop, List.length_replicate, List.length_cons, List.length_nil, lenMax, capMax, Int.toNat_natCast, gt_iff_lt, ge_iff_le] at *); (try simp (disch := omega) only [wr, wru, shr1, Int.tdiv_eq_ediv_of_nonneg] at *)); omega) | (((try simp only [decide_eq_true_eq, decide_eq_false_iff_not, cond_true, cond_false, beq_iff_eq, beq_eq_false_iff_ne, bne_iff_ne, bne_eq_false_iff_eq, ne_eq, Bool.not_eq_true', Bool.not_eq_false', Bool.not_eq_eq_eq_not, Bool.not_true, Bool.not_false, sLe_eq, Bool.and_eq_true, Bool.and_eq_false_iff, List.length_map, List.length_set, List.length_append, List.length_take, List.length_drop, List.length_replicate, List.length_cons, List.length_nil, lenMax, capMax, Int.toNat_natCast, gt_iff_lt, ge_iff_le] at *); (try simp (disch := omega) only [wr, wru, shr1, Int.tdiv_eq_ediv_of_nonneg] at *)); assumption))) (fun _ _ => ?_); conv => whnf)
        | (apply WpD.id; first
      | (refine WpD.walk rfl ?_; conv => whnf))
      all_goals rfl
    · have b' : nmOk (ent h f t now) = false := by simpa using b
      have e : tF0 l (ent h f t now) now = (10, -3) := by unfold tF0; rw [if_neg (by simp [a]), if_pos b']
      rw [e]
      rw [b'] at h2
      refine callV_of Try.func12 rfl (Nat.le_of_ble_eq_true rfl) (by kernel_rfl) ?_
      repeat' first
        | (apply Br.id; first
      | (apply Br.tt; try conv => whnf)
      | (apply Br.ff; try conv => whnf)
      | (refine Br.of_t (by assumption) ?_; conv => whnf)
      | (refine Br.of_f (by assumption) ?_; conv => whnf)
      | (refine Br.mk (fun _ => ?_) (fun _ => ?_) <;> try conv => whnf))
        | (apply CallOp.id; first
      | (refine call_at rfl rfl rfl rfl rfl ?_)
      | (refine call_rd rfl rfl rfl rfl rfl ?_)
      | (refine CallOp.std ?_; (conv => whnf); fail_if_success refine (?_ : False)))
        | (apply CallDet.id; first
      | (refine call_atD rfl rfl rfl rfl rfl ?_)
      | (refine call_rdD rfl rfl rfl rfl rfl ?_)
      | (refine CallDet.std ?_; (conv => whnf); fail_if_success refine (?_ : False)))
        | (apply CallAt.id; first
      | (apply CallAt.mk1 (h1); conv => whnf)
      | (apply CallAt.mk1 (h2); conv => whnf)
      | (apply CallAt.mk1 (h3); conv => whnf)
      | (apply CallAt.mk1 (c_At _ _); conv => whnf))
        | (apply CallRd.id; first
      | (apply CallRd.mk1 (h1); (· rfl); conv => whnf)
      | (apply CallRd.mk1 (h2); (· rfl); conv => whnf)
      | (apply CallRd.mk1 (h3); (· rfl); conv => whnf)
      | (apply CallRd.mk1 (c_At _ _); (· rfl); conv => whnf))
        | (refine EndOk.mk (by kernel_rfl) ?_; conv => whnf)
        | (refine And.intro (by (first | decide | exact trivial | omega | exact Nat.le_refl _ | (((try simp only [decide_eq_true_eq, decide_eq_false_iff_not, cond_true, cond_false, beq_iff_eq, beq_eq_false_iff_ne, bne_iff_ne, bne_eq_false_iff_eq, ne_eq, Bool.not_eq_true', Bool.not_eq_false', Bool.not_eq_eq_eq_not, Bool.not_true, Bool.not_false, sLe_eq, Bool.and_eq_true, Bool.and_eq_false_iff, List.length_map, List.length_set, List.length_append, List.length_take, List.length_drop, List.length_replicate, List.length_cons, List.length_nil, lenMax, capMax, Int.toNat_natCast, gt_iff_lt, ge_iff_le] at *); (try simp (disch := omega) only [wr, wru, shr1, Int.tdiv_eq_ediv_of_nonneg] at *)); omega) | (((try simp only [decide_eq_true_eq, decide_eq_false_iff_not, cond_true, cond_false, beq_iff_eq, beq_eq_false_iff_ne, bne_iff_ne, bne_eq_false_iff_eq, ne_eq, Bool.not_eq_true', Bool.not_eq_false', Bool.not_eq_eq_eq_not, Bool.not_true, Bool.not_false, sLe_eq, Bool.and_eq_true, Bool.and_eq_false_iff, List.length_map, List.length_set, List.length_append, List.length_take, List.length_drop, List.length_replicate, List.length_cons, List.length_nil, lenMax, capMax, Int.toNat_natCast, gt_iff_lt, ge_iff_le] at *); (try simp (disch := omega) only [wr, wru, shr1, Int.tdiv_eq_ediv_of_nonneg] at *)); assumption))) ?_; conv => whnf)
        | (refine idxOld (by assumption) ?_; conv => whnf)
        | (refine idxMap (by (first | decide | exact trivial | omega | exact Nat.le_refl _ | (((try simp only [decide_eq_true_eq, decide_eq_false_iff_not, cond_true, cond_false, beq_iff_eq, beq_eq_false_iff_ne, bne_iff_ne, bne_eq_false_iff_eq, ne_eq, Bool.not_eq_true', Bool.not_eq_false', Bool.not_eq_eq_eq_not, Bool.not_true, Bool.not_false, sLe_eq, Bool.and_eq_true, Bool.and_eq_false_iff, List.length_map, List.length_set, List.length_append, List.length_take, List.length_drop, List.length_replicate, List.length_cons, List.length_nil, lenMax, capMax, Int.toNat_natCast, gt_iff_lt, ge_iff_le] at *); (try simp (disch := omega) only [wr, wru, shr1, Int.tdiv_eq_ediv_of_nonneg] at *)); omega) | (((try simp only [decide_eq_true_eq, decide_eq_false_iff_not, cond_true, cond_false, beq_iff_eq, beq_eq_false_iff_ne, bne_iff_ne, bne_eq_false_iff_eq, ne_eq, Bool.not_eq_true', Bool.not_eq_false', Bool.not_eq_eq_eq_not, Bool.not_true, Bool.not_false, sLe_eq, Bool.and_eq_true, Bool.and_eq_false_iff, List.length_map, List.length_set, List.length_append, List.length_take, List.length_drop, List.length_replicate, List.length_cons, List.length_nil, lenMax, capMax, Int.toNat_natCast, gt_iff_lt, ge_iff_le] at *); (try simp (disch := omega) only [wr, wru, shr1, Int.tdiv_eq_ediv_of_nonneg] at *)); assumption))) (fun _ _ => ?_); conv => whnf)
        | refine Exists.intro _ (And.intro (DV_toV rfl) ?_)
        | (refine rowSet (by (first | decide | exact trivial | omega | exact Nat.le_refl _ | (((try simp only [decide_eq_true_eq, decide_eq_false_iff_not, cond_true, cond_false, beq_iff_eq, beq_eq_false_iff_ne, bne_iff_ne, bne_eq_false_iff_eq, ne_eq, Bool.not_eq_true', Bool.not_eq_false', Bool.not_eq_eq_eq_not, Bool.not_true, Bool.not_false, sLe_eq, Bool.and_eq_true, Bool.and_eq_false_iff, List.length_map, List.length_set, List.length_append, List.length_take, List.length_drop, List.length_replicate, List.length_cons, List.length_nil, lenMax, capMax, Int.toNat_natCast, gt_iff_lt, ge_iff_le] at *); (try simp (disch := omega) only [wr, wru, shr1, Int.tdiv_eq_ediv_of_nonneg] at *)); omega) | (((try simp only [decide_eq_true_eq, decide_eq_false_iff_not, cond_true, cond_false, beq_iff_eq, beq_eq_false_iff_ne, bne_iff_ne, bne_eq_false_iff_eq, ne_eq, Bool.not_eq_true', Bool.not_eq_false', Bool.not_eq_eq_eq_not, Bool.not_true, Bool.not_false, sLe_eq, Bool.and_eq_true, Bool.and_eq_false_iff, List.length_map, List.length_set, List.length_append, List.length_take, List.length_drop, List.length_replicate, List.length_cons, List.length_nil, lenMax, capMax, Int.toNat_natCast, gt_iff_lt, ge_iff_le] at *); (try simp (disch := omega) only [wr, wru, shr1, Int.tdiv_eq_ediv_of_nonneg] at *)); assumption))) ?_; conv => whnf)
        | (refine rowOld (by assumption) ?_; conv => whnf)
        | (refine rowNew (by (first | decide | exact trivial | omega | exact Nat.le_refl _ | (((try simp only [decide_eq_true_eq, decide_eq_false_iff_not, cond_true, cond_false, beq_iff_eq, beq_eq_false_iff_ne, bne_iff_ne, bne_eq_false_iff_eq, ne_eq, Bool.not_eq_true', Bool.not_eq_false', Bool.not_eq_eq_eq_not, Bool.not_true, Bool.not_false, sLe_eq, Bool.and_eq_true, Bool.and_eq_false_iff, List.length_map, List.length_set, List.length_append, List.length_take, List.length_drop, List.length_replicate, List.length_cons, List.length_nil, lenMax, capMax, Int.toNat_natCast, gt_iff_lt, ge_iff_le] at *); (try simp (disch := omega) only [wr, wru, shr1, Int.tdiv_eq_ediv_of_nonneg] at *)); omega) | (((try simp only [decide_eq_true_eq, decide_eq_false_iff_not, cond_true, cond_false, beq_iff_eq, beq_eq_false_iff_ne, bne_iff_ne, bne_eq_false_iff_eq, ne_eq, Bool.not_eq_true', Bool.not_eq_false', Bool.not_eq_eq_eq_not, Bool.not_true, Bool.not_false, sLe_eq, Bool.and_eq_true, Bool.and_eq_false_iff, List.length_map, List.length_set, List.length_append, List.length_take, List.length_drop, List.length_replicate, List.length_cons, List.length_nil, lenMax, capMax, Int.toNat_natCast, gt_iff_lt, ge_iff_le] at *); (try simp (disch := omega) only [wr, wru, shr1, Int.tdiv_eq_ediv_of_nonneg] at *)); assumption))) (fun _ _ => ?_); conv => whnf)
        | (apply WpD.id; first
      | (refine WpD.walk rfl ?_; conv => whnf))
      all_goals rfl
  · have e : tF0 l (ent h f t now) now = gFault l := by unfold tF0; rw [if_pos a]
    have hf1 : (gFault l).1 ≠ 0 := by
      intro h0
      apply a
      unfold gFault at h0 ⊢
      split
      · rename_i h2; rw [if_pos h2] at h0; simp at h0
      · rename_i h2; rw [if_neg h2] at h0; exact vfl_ne _ _ _ h0
    have hf2 : ((gFault l).1 != 0) = true := by simpa using hf1
    rw [e]
    refine callV_of Try.func12 rfl (Nat.le_of_ble_eq_true rfl) (by kernel_rfl) ?_
    repeat' first
      | (apply Br.id; first
      | (apply Br.tt; try conv => whnf)
      | (apply Br.ff; try conv => whnf)
      | (refine Br.of_t (by assumption) ?_; conv => whnf)
      | (refine Br.of_f (by assumption) ?_; conv => whnf)
      | (refine Br.mk (fun _ => ?_) (fun _ => ?_) <;> try conv => whnf))
      | (apply CallOp.id; first
      | (refine call_at rfl rfl rfl rfl rfl ?_)
      | (refine call_rd rfl rfl rfl rfl rfl ?_)
      | (refine CallOp.std ?_; (conv => whnf); fail_if_success refine (?_ : False)))
      | (apply CallDet.id; first
      | (refine call_atD rfl rfl rfl rfl rfl ?_)
      | (refine call_rdD rfl rfl rfl rfl rfl ?_)
      | (refine CallDet.std ?_; (conv => whnf); fail_if_success refine (?_ : False)))
      | (apply CallAt.id; first
      | (apply CallAt.mk1 (h1); conv => whnf)
      | (apply CallAt.mk1 (h2); conv => whnf)
      | (apply CallAt.mk1 (h3); conv => whnf)
      | (apply CallAt.mk1 (c_At _ _); conv => whnf))
      | (apply CallRd.id; first
      | (apply CallRd.mk1 (h1); (· rfl); conv => whnf)
      | (apply CallRd.mk1 (h2); (· rfl); conv => whnf)
      | (apply CallRd.mk1 (h3); (· rfl); conv => whnf)
      | (apply CallRd.mk1 (c_At _ _); (· rfl); conv => whnf))
      | (refine EndOk.mk (by kernel_rfl) ?_; conv => whnf)
      | (refine And.intro (by (first | decide | exact trivial | omega | exact Nat.le_refl _ | (((try simp only [decide_eq_true_eq, decide_eq_false_iff_not, cond_true, cond_false, beq_iff_eq, beq_eq_false_iff_ne, bne_iff_ne, bne_eq_false_iff_eq, ne_eq, Bool.not_eq_true', Bool.not_eq_false', Bool.not_eq_eq_eq_not, Bool.not_true, Bool.not_false, sLe_eq, Bool.and_eq_true, Bool.and_eq_false_iff, List.length_map, List.length_set, List.length_append, List.length_take, List.length_drop, List.length_replicate, List.length_cons, List.length_nil, lenMax, capMax, Int.toNat_natCast, gt_iff_lt, ge_iff_le] at *); (try simp (disch := omega) only [wr, wru, shr1, Int.tdiv_eq_ediv_of_nonneg] at *)); omega) | (((try simp only [decide_eq_true_eq, decide_eq_false_iff_not, cond_true, cond_false, beq_iff_eq, beq_eq_false_iff_ne, bne_iff_ne, bne_eq_false_iff_eq, ne_eq, Bool.not_eq_true', Bool.not_eq_false', Bool.not_eq_eq_eq_not, Bool.not_true, Bool.not_false, sLe_eq, Bool.and_eq_true, Bool.and_eq_false_iff, List.length_map, List.length_set, List.length_append, List.length_take, List.length_drop, List.length_replicate, List.length_cons, List.length_nil, lenMax, capMax, Int.toNat_natCast, gt_iff_lt, ge_iff_le] at *); (try simp (disch := omega) only [wr, wru, shr1, Int.tdiv_eq_ediv_of_nonneg] at *)); assumption))) ?_; conv => whnf)
      | (refine idxOld (by assumption) ?_; conv => whnf)
      | (refine idxMap (by (first | decide | exact trivial | omega | exact Nat.le_refl _ | (((try simp only [decide_eq_true_eq, decide_eq_false_iff_not, cond_true, cond_false, beq_iff_eq, beq_eq_false_iff_ne, bne_iff_ne, bne_eq_false_iff_eq, ne_eq, Bool.not_eq_true', Bool.not_eq_false', Bool.not_eq_eq_eq_not, Bool.not_true, Bool.not_false, sLe_eq, Bool.and_eq_true, Bool.and_eq_false_iff, List.length_map, List.length_set, List.length_append, List.length_take, List.length_drop, List.length_replicate, List.length_cons, List.length_nil, lenMax, capMax, Int.toNat_natCast, gt_iff_lt, ge_iff_le] at *); (try simp (disch := omega) only [wr, wru, shr1, Int.tdiv_eq_ediv_of_nonneg] at *)); omega) | (((try simp only [decide_eq_true_eq, decide_eq_false_iff_not, cond_true, cond_false, beq_iff_eq, beq_eq_false_iff_ne, bne_iff_ne, bne_eq_false_iff_eq, ne_eq, Bool.not_eq_true', Bool.not_eq_false', Bool.not_eq_eq_eq_not, Bool.not_true, Bool.not_false, sLe_eq, Bool.and_eq_true, Bool.and_eq_false_iff, List.length_map, List.length_set, List.length_append, List.length_take, List.length_drop, List.length_replicate, List.length_cons, List.length_nil, lenMax, capMax, Int.toNat_natCast, gt_iff_lt, ge_iff_le] at *); (try simp (disch := omega) only [wr, wru, shr1, Int.tdiv_eq_ediv_of_nonneg] at *)); assumption))) (fun _ _ => ?_); conv => whnf)
      | refine Exists.intro _ (And.intro (DV_toV rfl) ?_)
      | (refine rowSet (by (first | decide | exact trivial | omega | exact Nat.le_refl _ | (((try simp only [decide_eq_true_eq, decide_eq_false_iff_not, cond_true, cond_false, beq_iff_eq, beq_eq_false_iff_ne, bne_iff_ne, bne_eq_false_iff_eq, ne_eq, Bool.not_eq_true', Bool.not_eq_false', Bool.not_eq_eq_eq_not, Bool.not_true, Bool.not_false, sLe_eq, Bool.and_eq_true, Bool.and_eq_false_iff, List.length_map, List.length_set, List.length_append, List.length_take, List.length_drop, List.length_replicate, List.length_cons, List.length_nil, lenMax, capMax, Int.toNat_natCast, gt_iff_lt, ge_iff_le] at *); (try simp (disch := omega) only [wr, wru, shr1, Int.tdiv_eq_ediv_of_nonneg] at *)); omega) | (((try simp only [decide_eq_true_eq, decide_eq_false_iff_not, cond_true, cond_false, beq_iff_eq, beq_eq_false_iff_ne, bne_iff_ne, bne_eq_false_iff_eq, ne_eq, Bool.not_eq_true', Bool.not_eq_false', Bool.not_eq_eq_eq_not, Bool.not_true, Bool.not_false, sLe_eq, Bool.and_eq_true, Bool.and_eq_false_iff, List.length_map, List.length_set, List.length_append, List.length_take, List.length_drop, List.length_replicate, List.length_cons, List.length_nil, lenMax, capMax, Int.toNat_natCast, gt_iff_lt, ge_iff_le] at *); (try simp (disch := omega) only [wr, wru, shr1, Int.tdiv_eq_ediv_of_nonneg] at *)); assumption))) ?_; conv => whnf)
      | (refine rowOld (by assumption) ?_; conv => whnf)
      | (refine rowNew (by (first | decide | exact trivial | omega | exact Nat.le_refl _ | (((try simp only [decide_eq_true_eq, decide_eq_false_iff_not, cond_true, cond_false, beq_iff_eq, beq_eq_false_iff_ne, bne_iff_ne, bne_eq_false_iff_eq, ne_eq, Bool.not_eq_true', Bool.not_eq_false', Bool.not_eq_eq_eq_not, Bool.not_true, Bool.not_false, sLe_eq, Bool.and_eq_true, Bool.and_eq_false_iff, List.length_map, List.length_set, List.length_append, List.length_take, List.length_drop, List.length_replicate, List.length_cons, List.length_nil, lenMax, capMax, Int.toNat_natCast, gt_iff_lt, ge_iff_le] at *); (try simp (disch := omega) only [wr, wru, shr1, Int.tdiv_eq_ediv_of_nonneg] at *)); omega) | (((try simp only [decide_eq_true_eq, decide_eq_false_iff_not, cond_true, cond_false, beq_iff_eq, beq_eq_false_iff_ne, bne_iff_ne, bne_eq_false_iff_eq, ne_eq, Bool.not_eq_true', Bool.not_eq_false', Bool.not_eq_eq_eq_not, Bool.not_true, Bool.not_false, sLe_eq, Bool.and_eq_true, Bool.and_eq_false_iff, List.length_map, List.length_set, List.length_append, List.length_take, List.length_drop, List.length_replicate, List.length_cons, List.length_nil, lenMax, capMax, Int.toNat_natCast, gt_iff_lt, ge_iff_le] at *); (try simp (disch := omega) only [wr, wru, shr1, Int.tdiv_eq_ediv_of_nonneg] at *)); assumption))) (fun _ _ => ?_); conv => whnf)
      | (apply WpD.id; first
      | (refine WpD.walk rfl ?_; conv => whnf))
    all_goals rfl
theorem c_Tried (z : Bool) (l : List Ge) (h f t : ByteArray) (now : Int) : CallV tab 12 [ges z l, .str h, .str f, .str t, .int .i64 now] (· = .tup [outV (tryF l (ent h f t now) now), .bool (tryF l (ent h f t now) now).1.2, fv (tryF l (ent h f t now) now).2]) := by
  by_cases hb : tF0 l (ent h f t now) now = (0, 0)
  · obtain ⟨a, b, c⟩ := tF_ok hb
    obtain ⟨hl, hr, hs⟩ := gchk_ok a
    have hfr : ∀ (e : Ge), (freshF l e now).1.2 = false := fun e => by unfold freshF; split <;> rfl
    cases hh : hG (ent h f t now).key l with
    | true =>
      obtain ⟨x, hx, hk, hg⟩ := hasL_at ord3 hs hh
      have e0 : tryF l (ent h f t now) now = if now < x.b then (([], false), (19, (pG (ent h f t now).key l : Int))) else if exp' x now = false then ((puG (upG x now) l, (upG x now).k), (0, 0)) else freshF l (ent h f t now) now := by
        unfold tryF gG; rw [if_neg (by simp [hb]), hg]
      by_cases hlt : now < x.b
      · have e1 : tryF l (ent h f t now) now = (([], false), (19, (pG (ent h f t now).key l : Int))) := by rw [e0, if_pos hlt]
        rw [e1]; exact c_Tried_ord z l h f t now hb hh hx hlt
      · by_cases he : exp' x now = false
        · have e1 : tryF l (ent h f t now) now = ((puG (upG x now) l, (upG x now).k), (0, 0)) := by rw [e0, if_neg hlt, if_pos he]
          have := c_Tried_has z l h f t now hb hh hx hlt he
          rw [set_put (y := upG x now) hx hk hk] at this
          rw [e1]; exact this
        · have he' : exp' x now = true := by simpa using he
          have e1 : tryF l (ent h f t now) now = freshF l (ent h f t now) now := by rw [e0, if_neg hlt, if_neg he]
          rw [e1, hfr]; exact c_Tried_old z l h f t now hb hh hx hlt he'
    | false =>
      have hg : gG (ent h f t now).key l = none := hasL_no ord3 hs hh
      have e1 : tryF l (ent h f t now) now = freshF l (ent h f t now) now := by
        unfold tryF; rw [if_neg (by simp [hb]), hg]
      rw [e1, hfr]; exact c_Tried_no z l h f t now hb hh
  · have e1 : tryF l (ent h f t now) now = (([], false), tF0 l (ent h f t now) now) := by unfold tryF; rw [if_pos hb]
    have e2 : outV (([], false), tF0 l (ent h f t now) now) = .sl 6 true [] := by unfold outV; rw [if_neg hb]
    rw [e1, e2]; exact c_Tried_bad z l h f t now hb
def sh' : ByteArray := ⟨#[104]⟩
def sf' : ByteArray := ⟨#[102]⟩
def st' : ByteArray := ⟨#[116]⟩
theorem try_nil : tryF [] (ent sh' sf' st' 0) 0 = (([⟨sh', sf', st', 0, 0, false⟩], false), (0, 0)) := by decide +kernel
theorem try_two : tryF [⟨sh', sf', st', 0, 0, false⟩] (ent sh' sf' st' 300) 300 = (([⟨sh', sf', st', 0, 300, true⟩], true), (0, 0)) := by decide +kernel
theorem c_waited : CallV tab 16 [] (· = .bool true) := by
  have h1 := c_Try true [] sh' sf' st' 0
  rw [try_nil] at h1
  have h2 := c_Try false [⟨sh', sf', st', 0, 0, false⟩] sh' sf' st' 300
  rw [try_two] at h2
  have h3 := c_SameGrey false false [⟨sh', sf', st', 0, 0, false⟩] [⟨sh', sf', st', 0, 0, false⟩] (by decide)
  rw [decide_eq_true rfl] at h3
  refine callV_of Try.func16 rfl (Nat.le_of_ble_eq_true rfl) (by kernel_rfl) ?_
  repeat' first
    | (apply Br.id; first
      | (apply Br.tt; try conv => whnf)
      | (apply Br.ff; try conv => whnf)
      | (refine Br.of_t (by assumption) ?_; conv => whnf)
      | (refine Br.of_f (by assumption) ?_; conv => whnf)
      | (refine Br.mk (fun _ => ?_) (fun _ => ?_) <;> try conv => whnf))
    | (apply CallOp.id; first
      | (refine call_at rfl rfl rfl rfl rfl ?_)
      | (refine call_rd rfl rfl rfl rfl rfl ?_)
      | (refine CallOp.std ?_; (conv => whnf); fail_if_success refine (?_ : False)))
    | (apply CallDet.id; first
      | (refine call_atD rfl rfl rfl rfl rfl ?_)
      | (refine call_rdD rfl rfl rfl rfl rfl ?_)
      | (refine CallDet.std ?_; (conv => whnf); fail_if_success refine (?_ : False)))
    | (apply CallAt.id; first
      | (apply CallAt.mk1 (h1); conv => whnf)
      | (apply CallAt.mk1 (h2); conv => whnf)
      | (apply CallAt.mk1 (h3); conv => whnf))
    | (apply CallRd.id; first
      | (apply CallRd.mk1 (h1); (· rfl); conv => whnf)
      | (apply CallRd.mk1 (h2); (· rfl); conv => whnf)
      | (apply CallRd.mk1 (h3); (· rfl); conv => whnf))
    | (refine EndOk.mk (by kernel_rfl) ?_; conv => whnf)
    | (refine And.intro (by (first | decide | exact trivial | omega | exact Nat.le_refl _ | (((try simp only [decide_eq_true_eq, decide_eq_false_iff_not, cond_true, cond_false, beq_iff_eq, beq_eq_false_iff_ne, bne_iff_ne, bne_eq_false_iff_eq, ne_eq, Bool.not_eq_true', Bool.not_eq_false', Bool.not_eq_eq_eq_not, Bool.not_true, Bool.not_false, sLe_eq, Bool.and_eq_true, Bool.and_eq_false_iff, List.length_map, List.length_set, List.length_append, List.length_take, List.length_drop, List.length_replicate, List.length_cons, List.length_nil, lenMax, capMax, Int.toNat_natCast, gt_iff_lt, ge_iff_le] at *); (try simp (disch := omega) only [wr, wru, shr1, Int.tdiv_eq_ediv_of_nonneg] at *)); omega) | (((try simp only [decide_eq_true_eq, decide_eq_false_iff_not, cond_true, cond_false, beq_iff_eq, beq_eq_false_iff_ne, bne_iff_ne, bne_eq_false_iff_eq, ne_eq, Bool.not_eq_true', Bool.not_eq_false', Bool.not_eq_eq_eq_not, Bool.not_true, Bool.not_false, sLe_eq, Bool.and_eq_true, Bool.and_eq_false_iff, List.length_map, List.length_set, List.length_append, List.length_take, List.length_drop, List.length_replicate, List.length_cons, List.length_nil, lenMax, capMax, Int.toNat_natCast, gt_iff_lt, ge_iff_le] at *); (try simp (disch := omega) only [wr, wru, shr1, Int.tdiv_eq_ediv_of_nonneg] at *)); assumption))) ?_; conv => whnf)
    | (refine idxOld (by assumption) ?_; conv => whnf)
    | (refine idxMap (by (first | decide | exact trivial | omega | exact Nat.le_refl _ | (((try simp only [decide_eq_true_eq, decide_eq_false_iff_not, cond_true, cond_false, beq_iff_eq, beq_eq_false_iff_ne, bne_iff_ne, bne_eq_false_iff_eq, ne_eq, Bool.not_eq_true', Bool.not_eq_false', Bool.not_eq_eq_eq_not, Bool.not_true, Bool.not_false, sLe_eq, Bool.and_eq_true, Bool.and_eq_false_iff, List.length_map, List.length_set, List.length_append, List.length_take, List.length_drop, List.length_replicate, List.length_cons, List.length_nil, lenMax, capMax, Int.toNat_natCast, gt_iff_lt, ge_iff_le] at *); (try simp (disch := omega) only [wr, wru, shr1, Int.tdiv_eq_ediv_of_nonneg] at *)); omega) | (((try simp only [decide_eq_true_eq, decide_eq_false_iff_not, cond_true, cond_false, beq_iff_eq, beq_eq_false_iff_ne, bne_iff_ne, bne_eq_false_iff_eq, ne_eq, Bool.not_eq_true', Bool.not_eq_false', Bool.not_eq_eq_eq_not, Bool.not_true, Bool.not_false, sLe_eq, Bool.and_eq_true, Bool.and_eq_false_iff, List.length_map, List.length_set, List.length_append, List.length_take, List.length_drop, List.length_replicate, List.length_cons, List.length_nil, lenMax, capMax, Int.toNat_natCast, gt_iff_lt, ge_iff_le] at *); (try simp (disch := omega) only [wr, wru, shr1, Int.tdiv_eq_ediv_of_nonneg] at *)); assumption))) (fun _ _ => ?_); conv => whnf)
    | refine Exists.intro _ (And.intro (DV_toV rfl) ?_)
    | (refine rowSet (by (first | decide | exact trivial | omega | exact Nat.le_refl _ | (((try simp only [decide_eq_true_eq, decide_eq_false_iff_not, cond_true, cond_false, beq_iff_eq, beq_eq_false_iff_ne, bne_iff_ne, bne_eq_false_iff_eq, ne_eq, Bool.not_eq_true', Bool.not_eq_false', Bool.not_eq_eq_eq_not, Bool.not_true, Bool.not_false, sLe_eq, Bool.and_eq_true, Bool.and_eq_false_iff, List.length_map, List.length_set, List.length_append, List.length_take, List.length_drop, List.length_replicate, List.length_cons, List.length_nil, lenMax, capMax, Int.toNat_natCast, gt_iff_lt, ge_iff_le] at *); (try simp (disch := omega) only [wr, wru, shr1, Int.tdiv_eq_ediv_of_nonneg] at *)); omega) | (((try simp only [decide_eq_true_eq, decide_eq_false_iff_not, cond_true, cond_false, beq_iff_eq, beq_eq_false_iff_ne, bne_iff_ne, bne_eq_false_iff_eq, ne_eq, Bool.not_eq_true', Bool.not_eq_false', Bool.not_eq_eq_eq_not, Bool.not_true, Bool.not_false, sLe_eq, Bool.and_eq_true, Bool.and_eq_false_iff, List.length_map, List.length_set, List.length_append, List.length_take, List.length_drop, List.length_replicate, List.length_cons, List.length_nil, lenMax, capMax, Int.toNat_natCast, gt_iff_lt, ge_iff_le] at *); (try simp (disch := omega) only [wr, wru, shr1, Int.tdiv_eq_ediv_of_nonneg] at *)); assumption))) ?_; conv => whnf)
    | (refine rowOld (by assumption) ?_; conv => whnf)
    | (refine rowNew (by (first | decide | exact trivial | omega | exact Nat.le_refl _ | (((try simp only [decide_eq_true_eq, decide_eq_false_iff_not, cond_true, cond_false, beq_iff_eq, beq_eq_false_iff_ne, bne_iff_ne, bne_eq_false_iff_eq, ne_eq, Bool.not_eq_true', Bool.not_eq_false', Bool.not_eq_eq_eq_not, Bool.not_true, Bool.not_false, sLe_eq, Bool.and_eq_true, Bool.and_eq_false_iff, List.length_map, List.length_set, List.length_append, List.length_take, List.length_drop, List.length_replicate, List.length_cons, List.length_nil, lenMax, capMax, Int.toNat_natCast, gt_iff_lt, ge_iff_le] at *); (try simp (disch := omega) only [wr, wru, shr1, Int.tdiv_eq_ediv_of_nonneg] at *)); omega) | (((try simp only [decide_eq_true_eq, decide_eq_false_iff_not, cond_true, cond_false, beq_iff_eq, beq_eq_false_iff_ne, bne_iff_ne, bne_eq_false_iff_eq, ne_eq, Bool.not_eq_true', Bool.not_eq_false', Bool.not_eq_eq_eq_not, Bool.not_true, Bool.not_false, sLe_eq, Bool.and_eq_true, Bool.and_eq_false_iff, List.length_map, List.length_set, List.length_append, List.length_take, List.length_drop, List.length_replicate, List.length_cons, List.length_nil, lenMax, capMax, Int.toNat_natCast, gt_iff_lt, ge_iff_le] at *); (try simp (disch := omega) only [wr, wru, shr1, Int.tdiv_eq_ediv_of_nonneg] at *)); assumption))) (fun _ _ => ?_); conv => whnf)
    | (apply WpD.id; first
      | (refine WpD.walk rfl ?_; conv => whnf))
  all_goals first | rfl | (simp at *; done) | trace_state
end Go.DL
