import Derived.Test.YtdadnjhfennenaaDlTab
import Derived.Test.YtdadnjhfennenaaDl18
set_option linter.unusedVariables false
set_option linter.unusedSimpArgs false
set_option maxHeartbeats 4000000
namespace Go.DL
open Go.Proofs

theorem c_At (c i : Int) : CallV tab 18 [.int .i64 c, .int .i64 i] (· = .agg [.int .i64 c, .int .i64 i]) := by
  refine callV_of Try.func18 rfl (Nat.le_of_ble_eq_true rfl) (by kernel_rfl) ?_
  repeat' first
    | (refine idxMap (by (first | decide | exact trivial | omega | exact Nat.le_refl _ | (((try simp only [decide_eq_true_eq, decide_eq_false_iff_not, cond_true, cond_false, beq_iff_eq, beq_eq_false_iff_ne, bne_iff_ne, bne_eq_false_iff_eq, ne_eq, Bool.not_eq_true', Bool.not_eq_false', Bool.not_eq_eq_eq_not, Bool.not_true, Bool.not_false, sLe_eq, Bool.and_eq_true, Bool.and_eq_false_iff, List.length_map, List.length_append, List.length_take, List.length_drop, List.length_replicate, List.length_cons, List.length_nil, lenMax, capMax, Int.toNat_natCast, gt_iff_lt, ge_iff_le] at *); (try simp (disch := omega) only [wr, wru, shr1, Int.tdiv_eq_ediv_of_nonneg] at *)); omega) | (((try simp only [decide_eq_true_eq, decide_eq_false_iff_not, cond_true, cond_false, beq_iff_eq, beq_eq_false_iff_ne, bne_iff_ne, bne_eq_false_iff_eq, ne_eq, Bool.not_eq_true', Bool.not_eq_false', Bool.not_eq_eq_eq_not, Bool.not_true, Bool.not_false, sLe_eq, Bool.and_eq_true, Bool.and_eq_false_iff, List.length_map, List.length_append, List.length_take, List.length_drop, List.length_replicate, List.length_cons, List.length_nil, lenMax, capMax, Int.toNat_natCast, gt_iff_lt, ge_iff_le] at *); (try simp (disch := omega) only [wr, wru, shr1, Int.tdiv_eq_ediv_of_nonneg] at *)); assumption))) (fun _ _ => ?_); conv => whnf)
    | refine WpD.seq ?_
    | (refine WpD.region ?_; conv => whnf)
    | (refine WpD.draw ?_; conv => whnf)
    | (refine EndOk.mk (by kernel_rfl) ?_; conv => whnf)
    | refine WpD.block ?_
    | (refine WpD.exit ?_; conv => whnf)
    | (refine WpD.skip ?_; conv => whnf)
    | (refine WpD.ret ?_; conv => whnf)
    | refine WpD.cond rfl ?_
    | (refine Br.tt ?_; try conv => whnf)
    | (refine Br.ff ?_; try conv => whnf)
    | (refine Br.of_t (by assumption) ?_; conv => whnf)
    | (refine Br.of_f (by assumption) ?_; conv => whnf)
    | (refine Br.mk (fun _ => ?_) (fun _ => ?_) <;> try conv => whnf)
    | refine Exists.intro _ (And.intro (DV_toV rfl) ?_)
    | (refine CallOp.std ?_; (conv => whnf); fail_if_success refine (?_ : False))
    | (refine CallDet.std ?_; (conv => whnf); fail_if_success refine (?_ : False))
    | (refine And.intro (by (first | decide | exact trivial | omega | exact Nat.le_refl _ | (((try simp only [decide_eq_true_eq, decide_eq_false_iff_not, cond_true, cond_false, beq_iff_eq, beq_eq_false_iff_ne, bne_iff_ne, bne_eq_false_iff_eq, ne_eq, Bool.not_eq_true', Bool.not_eq_false', Bool.not_eq_eq_eq_not, Bool.not_true, Bool.not_false, sLe_eq, Bool.and_eq_true, Bool.and_eq_false_iff, List.length_map, List.length_append, List.length_take, List.length_drop, List.length_replicate, List.length_cons, List.length_nil, lenMax, capMax, Int.toNat_natCast, gt_iff_lt, ge_iff_le] at *); (try simp (disch := omega) only [wr, wru, shr1, Int.tdiv_eq_ediv_of_nonneg] at *)); omega) | (((try simp only [decide_eq_true_eq, decide_eq_false_iff_not, cond_true, cond_false, beq_iff_eq, beq_eq_false_iff_ne, bne_iff_ne, bne_eq_false_iff_eq, ne_eq, Bool.not_eq_true', Bool.not_eq_false', Bool.not_eq_eq_eq_not, Bool.not_true, Bool.not_false, sLe_eq, Bool.and_eq_true, Bool.and_eq_false_iff, List.length_map, List.length_append, List.length_take, List.length_drop, List.length_replicate, List.length_cons, List.length_nil, lenMax, capMax, Int.toNat_natCast, gt_iff_lt, ge_iff_le] at *); (try simp (disch := omega) only [wr, wru, shr1, Int.tdiv_eq_ediv_of_nonneg] at *)); assumption))) ?_; conv => whnf)
  all_goals rfl
theorem c_In (n l h : Int) : CallV tab 24 [.int .i64 n, .int .i64 l, .int .i64 h] (· = .bool (decide (l ≤ n) && decide (n ≤ h))) := by
  refine callV_of Try.func24 rfl (Nat.le_of_ble_eq_true rfl) (by kernel_rfl) ?_
  repeat' first
    | (refine idxMap (by (first | decide | exact trivial | omega | exact Nat.le_refl _ | (((try simp only [decide_eq_true_eq, decide_eq_false_iff_not, cond_true, cond_false, beq_iff_eq, beq_eq_false_iff_ne, bne_iff_ne, bne_eq_false_iff_eq, ne_eq, Bool.not_eq_true', Bool.not_eq_false', Bool.not_eq_eq_eq_not, Bool.not_true, Bool.not_false, sLe_eq, Bool.and_eq_true, Bool.and_eq_false_iff, List.length_map, List.length_append, List.length_take, List.length_drop, List.length_replicate, List.length_cons, List.length_nil, lenMax, capMax, Int.toNat_natCast, gt_iff_lt, ge_iff_le] at *); (try simp (disch := omega) only [wr, wru, shr1, Int.tdiv_eq_ediv_of_nonneg] at *)); omega) | (((try simp only [decide_eq_true_eq, decide_eq_false_iff_not, cond_true, cond_false, beq_iff_eq, beq_eq_false_iff_ne, bne_iff_ne, bne_eq_false_iff_eq, ne_eq, Bool.not_eq_true', Bool.not_eq_false', Bool.not_eq_eq_eq_not, Bool.not_true, Bool.not_false, sLe_eq, Bool.and_eq_true, Bool.and_eq_false_iff, List.length_map, List.length_append, List.length_take, List.length_drop, List.length_replicate, List.length_cons, List.length_nil, lenMax, capMax, Int.toNat_natCast, gt_iff_lt, ge_iff_le] at *); (try simp (disch := omega) only [wr, wru, shr1, Int.tdiv_eq_ediv_of_nonneg] at *)); assumption))) (fun _ _ => ?_); conv => whnf)
    | refine WpD.seq ?_
    | (refine WpD.region ?_; conv => whnf)
    | (refine WpD.draw ?_; conv => whnf)
    | (refine EndOk.mk (by kernel_rfl) ?_; conv => whnf)
    | refine WpD.block ?_
    | (refine WpD.exit ?_; conv => whnf)
    | (refine WpD.skip ?_; conv => whnf)
    | (refine WpD.ret ?_; conv => whnf)
    | refine WpD.cond rfl ?_
    | (refine Br.tt ?_; try conv => whnf)
    | (refine Br.ff ?_; try conv => whnf)
    | (refine Br.of_t (by assumption) ?_; conv => whnf)
    | (refine Br.of_f (by assumption) ?_; conv => whnf)
    | (refine Br.mk (fun _ => ?_) (fun _ => ?_) <;> try conv => whnf)
    | refine Exists.intro _ (And.intro (DV_toV rfl) ?_)
    | (refine CallOp.std ?_; (conv => whnf); fail_if_success refine (?_ : False))
    | (refine CallDet.std ?_; (conv => whnf); fail_if_success refine (?_ : False))
    | (refine And.intro (by (first | decide | exact trivial | omega | exact Nat.le_refl _ | (((try simp only [decide_eq_true_eq, decide_eq_false_iff_not, cond_true, cond_false, beq_iff_eq, beq_eq_false_iff_ne, bne_iff_ne, bne_eq_false_iff_eq, ne_eq, Bool.not_eq_true', Bool.not_eq_false', Bool.not_eq_eq_eq_not, Bool.not_true, Bool.not_false, sLe_eq, Bool.and_eq_true, Bool.and_eq_false_iff, List.length_map, List.length_append, List.length_take, List.length_drop, List.length_replicate, List.length_cons, List.length_nil, lenMax, capMax, Int.toNat_natCast, gt_iff_lt, ge_iff_le] at *); (try simp (disch := omega) only [wr, wru, shr1, Int.tdiv_eq_ediv_of_nonneg] at *)); omega) | (((try simp only [decide_eq_true_eq, decide_eq_false_iff_not, cond_true, cond_false, beq_iff_eq, beq_eq_false_iff_ne, bne_iff_ne, bne_eq_false_iff_eq, ne_eq, Bool.not_eq_true', Bool.not_eq_false', Bool.not_eq_eq_eq_not, Bool.not_true, Bool.not_false, sLe_eq, Bool.and_eq_true, Bool.and_eq_false_iff, List.length_map, List.length_append, List.length_take, List.length_drop, List.length_replicate, List.length_cons, List.length_nil, lenMax, capMax, Int.toNat_natCast, gt_iff_lt, ge_iff_le] at *); (try simp (disch := omega) only [wr, wru, shr1, Int.tdiv_eq_ediv_of_nonneg] at *)); assumption))) ?_; conv => whnf)
  all_goals (refine congrArg V.bool ?_; simp [*])
theorem c_Instant (n : Int) : CallV tab 42 [.int .i64 n] (· = .bool (decide (-68719476736 ≤ n) && decide (n ≤ 68719476736))) := by
  refine callV_of Try.func42 rfl (Nat.le_of_ble_eq_true rfl) (by kernel_rfl) ?_
  repeat' first
    | (refine call_pure (c_In _ _ _) rfl rfl rfl rfl rfl (fun r h => ?_); subst h; conv => whnf)
    | (refine idxMap (by (first | decide | exact trivial | omega | exact Nat.le_refl _ | (((try simp only [decide_eq_true_eq, decide_eq_false_iff_not, cond_true, cond_false, beq_iff_eq, beq_eq_false_iff_ne, bne_iff_ne, bne_eq_false_iff_eq, ne_eq, Bool.not_eq_true', Bool.not_eq_false', Bool.not_eq_eq_eq_not, Bool.not_true, Bool.not_false, sLe_eq, Bool.and_eq_true, Bool.and_eq_false_iff, List.length_map, List.length_append, List.length_take, List.length_drop, List.length_replicate, List.length_cons, List.length_nil, lenMax, capMax, Int.toNat_natCast, gt_iff_lt, ge_iff_le] at *); (try simp (disch := omega) only [wr, wru, shr1, Int.tdiv_eq_ediv_of_nonneg] at *)); omega) | (((try simp only [decide_eq_true_eq, decide_eq_false_iff_not, cond_true, cond_false, beq_iff_eq, beq_eq_false_iff_ne, bne_iff_ne, bne_eq_false_iff_eq, ne_eq, Bool.not_eq_true', Bool.not_eq_false', Bool.not_eq_eq_eq_not, Bool.not_true, Bool.not_false, sLe_eq, Bool.and_eq_true, Bool.and_eq_false_iff, List.length_map, List.length_append, List.length_take, List.length_drop, List.length_replicate, List.length_cons, List.length_nil, lenMax, capMax, Int.toNat_natCast, gt_iff_lt, ge_iff_le] at *); (try simp (disch := omega) only [wr, wru, shr1, Int.tdiv_eq_ediv_of_nonneg] at *)); assumption))) (fun _ _ => ?_); conv => whnf)
    | refine WpD.seq ?_
    | (refine WpD.region ?_; conv => whnf)
    | (refine WpD.draw ?_; conv => whnf)
    | (refine EndOk.mk (by kernel_rfl) ?_; conv => whnf)
    | refine WpD.block ?_
    | (refine WpD.exit ?_; conv => whnf)
    | (refine WpD.skip ?_; conv => whnf)
    | (refine WpD.ret ?_; conv => whnf)
    | refine WpD.cond rfl ?_
    | (refine Br.tt ?_; try conv => whnf)
    | (refine Br.ff ?_; try conv => whnf)
    | (refine Br.of_t (by assumption) ?_; conv => whnf)
    | (refine Br.of_f (by assumption) ?_; conv => whnf)
    | (refine Br.mk (fun _ => ?_) (fun _ => ?_) <;> try conv => whnf)
    | refine Exists.intro _ (And.intro (DV_toV rfl) ?_)
    | (refine CallOp.std ?_; (conv => whnf); fail_if_success refine (?_ : False))
    | (refine CallDet.std ?_; (conv => whnf); fail_if_success refine (?_ : False))
    | (refine And.intro (by (first | decide | exact trivial | omega | exact Nat.le_refl _ | (((try simp only [decide_eq_true_eq, decide_eq_false_iff_not, cond_true, cond_false, beq_iff_eq, beq_eq_false_iff_ne, bne_iff_ne, bne_eq_false_iff_eq, ne_eq, Bool.not_eq_true', Bool.not_eq_false', Bool.not_eq_eq_eq_not, Bool.not_true, Bool.not_false, sLe_eq, Bool.and_eq_true, Bool.and_eq_false_iff, List.length_map, List.length_append, List.length_take, List.length_drop, List.length_replicate, List.length_cons, List.length_nil, lenMax, capMax, Int.toNat_natCast, gt_iff_lt, ge_iff_le] at *); (try simp (disch := omega) only [wr, wru, shr1, Int.tdiv_eq_ediv_of_nonneg] at *)); omega) | (((try simp only [decide_eq_true_eq, decide_eq_false_iff_not, cond_true, cond_false, beq_iff_eq, beq_eq_false_iff_ne, bne_iff_ne, bne_eq_false_iff_eq, ne_eq, Bool.not_eq_true', Bool.not_eq_false', Bool.not_eq_eq_eq_not, Bool.not_true, Bool.not_false, sLe_eq, Bool.and_eq_true, Bool.and_eq_false_iff, List.length_map, List.length_append, List.length_take, List.length_drop, List.length_replicate, List.length_cons, List.length_nil, lenMax, capMax, Int.toNat_natCast, gt_iff_lt, ge_iff_le] at *); (try simp (disch := omega) only [wr, wru, shr1, Int.tdiv_eq_ediv_of_nonneg] at *)); assumption))) ?_; conv => whnf)
  all_goals rfl
theorem c_named (s : ByteArray) : CallV tab 41 [.str s] (· = .bool (decide (1 ≤ s.size) && decide (s.size ≤ 4000))) := by
  refine callV_of Try.func41 rfl (Nat.le_of_ble_eq_true rfl) (by kernel_rfl) ?_
  repeat' first
    | (refine idxMap (by (first | decide | exact trivial | omega | exact Nat.le_refl _ | (((try simp only [decide_eq_true_eq, decide_eq_false_iff_not, cond_true, cond_false, beq_iff_eq, beq_eq_false_iff_ne, bne_iff_ne, bne_eq_false_iff_eq, ne_eq, Bool.not_eq_true', Bool.not_eq_false', Bool.not_eq_eq_eq_not, Bool.not_true, Bool.not_false, sLe_eq, Bool.and_eq_true, Bool.and_eq_false_iff, List.length_map, List.length_append, List.length_take, List.length_drop, List.length_replicate, List.length_cons, List.length_nil, lenMax, capMax, Int.toNat_natCast, gt_iff_lt, ge_iff_le] at *); (try simp (disch := omega) only [wr, wru, shr1, Int.tdiv_eq_ediv_of_nonneg] at *)); omega) | (((try simp only [decide_eq_true_eq, decide_eq_false_iff_not, cond_true, cond_false, beq_iff_eq, beq_eq_false_iff_ne, bne_iff_ne, bne_eq_false_iff_eq, ne_eq, Bool.not_eq_true', Bool.not_eq_false', Bool.not_eq_eq_eq_not, Bool.not_true, Bool.not_false, sLe_eq, Bool.and_eq_true, Bool.and_eq_false_iff, List.length_map, List.length_append, List.length_take, List.length_drop, List.length_replicate, List.length_cons, List.length_nil, lenMax, capMax, Int.toNat_natCast, gt_iff_lt, ge_iff_le] at *); (try simp (disch := omega) only [wr, wru, shr1, Int.tdiv_eq_ediv_of_nonneg] at *)); assumption))) (fun _ _ => ?_); conv => whnf)
    | refine WpD.seq ?_
    | (refine WpD.region ?_; conv => whnf)
    | (refine WpD.draw ?_; conv => whnf)
    | (refine EndOk.mk (by kernel_rfl) ?_; conv => whnf)
    | refine WpD.block ?_
    | (refine WpD.exit ?_; conv => whnf)
    | (refine WpD.skip ?_; conv => whnf)
    | (refine WpD.ret ?_; conv => whnf)
    | refine WpD.cond rfl ?_
    | (refine Br.tt ?_; try conv => whnf)
    | (refine Br.ff ?_; try conv => whnf)
    | (refine Br.of_t (by assumption) ?_; conv => whnf)
    | (refine Br.of_f (by assumption) ?_; conv => whnf)
    | (refine Br.mk (fun _ => ?_) (fun _ => ?_) <;> try conv => whnf)
    | refine Exists.intro _ (And.intro (DV_toV rfl) ?_)
    | (refine CallOp.std ?_; (conv => whnf); fail_if_success refine (?_ : False))
    | (refine CallDet.std ?_; (conv => whnf); fail_if_success refine (?_ : False))
    | (refine And.intro (by (first | decide | exact trivial | omega | exact Nat.le_refl _ | (((try simp only [decide_eq_true_eq, decide_eq_false_iff_not, cond_true, cond_false, beq_iff_eq, beq_eq_false_iff_ne, bne_iff_ne, bne_eq_false_iff_eq, ne_eq, Bool.not_eq_true', Bool.not_eq_false', Bool.not_eq_eq_eq_not, Bool.not_true, Bool.not_false, sLe_eq, Bool.and_eq_true, Bool.and_eq_false_iff, List.length_map, List.length_append, List.length_take, List.length_drop, List.length_replicate, List.length_cons, List.length_nil, lenMax, capMax, Int.toNat_natCast, gt_iff_lt, ge_iff_le] at *); (try simp (disch := omega) only [wr, wru, shr1, Int.tdiv_eq_ediv_of_nonneg] at *)); omega) | (((try simp only [decide_eq_true_eq, decide_eq_false_iff_not, cond_true, cond_false, beq_iff_eq, beq_eq_false_iff_ne, bne_iff_ne, bne_eq_false_iff_eq, ne_eq, Bool.not_eq_true', Bool.not_eq_false', Bool.not_eq_eq_eq_not, Bool.not_true, Bool.not_false, sLe_eq, Bool.and_eq_true, Bool.and_eq_false_iff, List.length_map, List.length_append, List.length_take, List.length_drop, List.length_replicate, List.length_cons, List.length_nil, lenMax, capMax, Int.toNat_natCast, gt_iff_lt, ge_iff_le] at *); (try simp (disch := omega) only [wr, wru, shr1, Int.tdiv_eq_ediv_of_nonneg] at *)); assumption))) ?_; conv => whnf)
  all_goals (refine congrArg V.bool ?_; rw [Bool.eq_iff_iff]; simp_all; try omega)
def dayOf (now : Int) : Int := now / 86400
theorem c_day (n : Int) (hp : -9223372036854775808 ≤ n ∧ n ≤ 9223372036854775807) : CallV tab 39 [.int .i64 n] (· = .int .i64 (dayOf n)) := by
  obtain ⟨h1, h2⟩ := hp
  refine callV_of Try.func39 rfl (Nat.le_of_ble_eq_true rfl) (by kernel_rfl) ?_
  repeat' first
    | (refine idxMap (by (first | decide | exact trivial | omega | exact Nat.le_refl _ | (((try simp only [decide_eq_true_eq, decide_eq_false_iff_not, cond_true, cond_false, beq_iff_eq, beq_eq_false_iff_ne, bne_iff_ne, bne_eq_false_iff_eq, ne_eq, Bool.not_eq_true', Bool.not_eq_false', Bool.not_eq_eq_eq_not, Bool.not_true, Bool.not_false, sLe_eq, Bool.and_eq_true, Bool.and_eq_false_iff, List.length_map, List.length_append, List.length_take, List.length_drop, List.length_replicate, List.length_cons, List.length_nil, lenMax, capMax, Int.toNat_natCast, gt_iff_lt, ge_iff_le] at *); (try simp (disch := omega) only [wr, wru, shr1, Int.tdiv_eq_ediv_of_nonneg] at *)); omega) | (((try simp only [decide_eq_true_eq, decide_eq_false_iff_not, cond_true, cond_false, beq_iff_eq, beq_eq_false_iff_ne, bne_iff_ne, bne_eq_false_iff_eq, ne_eq, Bool.not_eq_true', Bool.not_eq_false', Bool.not_eq_eq_eq_not, Bool.not_true, Bool.not_false, sLe_eq, Bool.and_eq_true, Bool.and_eq_false_iff, List.length_map, List.length_append, List.length_take, List.length_drop, List.length_replicate, List.length_cons, List.length_nil, lenMax, capMax, Int.toNat_natCast, gt_iff_lt, ge_iff_le] at *); (try simp (disch := omega) only [wr, wru, shr1, Int.tdiv_eq_ediv_of_nonneg] at *)); assumption))) (fun _ _ => ?_); conv => whnf)
    | refine WpD.seq ?_
    | (refine WpD.region ?_; conv => whnf)
    | (refine WpD.draw ?_; conv => whnf)
    | (refine EndOk.mk (by kernel_rfl) ?_; conv => whnf)
    | refine WpD.block ?_
    | (refine WpD.exit ?_; conv => whnf)
    | (refine WpD.skip ?_; conv => whnf)
    | (refine WpD.ret ?_; conv => whnf)
    | refine WpD.cond rfl ?_
    | (refine Br.tt ?_; try conv => whnf)
    | (refine Br.ff ?_; try conv => whnf)
    | (refine Br.of_t (by assumption) ?_; conv => whnf)
    | (refine Br.of_f (by assumption) ?_; conv => whnf)
    | (refine Br.mk (fun _ => ?_) (fun _ => ?_) <;> try conv => whnf)
    | refine Exists.intro _ (And.intro (DV_toV rfl) ?_)
    | (refine CallOp.std ?_; (conv => whnf); fail_if_success refine (?_ : False))
    | (refine CallDet.std ?_; (conv => whnf); fail_if_success refine (?_ : False))
    | (refine And.intro (by (first | decide | exact trivial | omega | exact Nat.le_refl _ | (((try simp only [decide_eq_true_eq, decide_eq_false_iff_not, cond_true, cond_false, beq_iff_eq, beq_eq_false_iff_ne, bne_iff_ne, bne_eq_false_iff_eq, ne_eq, Bool.not_eq_true', Bool.not_eq_false', Bool.not_eq_eq_eq_not, Bool.not_true, Bool.not_false, sLe_eq, Bool.and_eq_true, Bool.and_eq_false_iff, List.length_map, List.length_append, List.length_take, List.length_drop, List.length_replicate, List.length_cons, List.length_nil, lenMax, capMax, Int.toNat_natCast, gt_iff_lt, ge_iff_le] at *); (try simp (disch := omega) only [wr, wru, shr1, Int.tdiv_eq_ediv_of_nonneg] at *)); omega) | (((try simp only [decide_eq_true_eq, decide_eq_false_iff_not, cond_true, cond_false, beq_iff_eq, beq_eq_false_iff_ne, bne_iff_ne, bne_eq_false_iff_eq, ne_eq, Bool.not_eq_true', Bool.not_eq_false', Bool.not_eq_eq_eq_not, Bool.not_true, Bool.not_false, sLe_eq, Bool.and_eq_true, Bool.and_eq_false_iff, List.length_map, List.length_append, List.length_take, List.length_drop, List.length_replicate, List.length_cons, List.length_nil, lenMax, capMax, Int.toNat_natCast, gt_iff_lt, ge_iff_le] at *); (try simp (disch := omega) only [wr, wru, shr1, Int.tdiv_eq_ediv_of_nonneg] at *)); assumption))) ?_; conv => whnf)
  all_goals refine congrArg (V.int .i64) ?_
  all_goals rename_i h
  all_goals simp only [decide_eq_true_eq, decide_eq_false_iff_not, td (show (0:Int) < 86400 by decide), tm (show (0:Int) < 86400 by decide), wd, dayOf] at *
  all_goals (split at * <;> omega)
theorem c_DayOf (n : Int) (hp : -68719476736 ≤ n ∧ n ≤ 68719476736) : CallV tab 43 [.int .i64 n] (· = .int .i64 (dayOf n)) := by
  obtain ⟨h1, h2⟩ := hp
  refine callV_of Try.func43 rfl (Nat.le_of_ble_eq_true rfl) (by kernel_rfl) ?_
  repeat' first
    | (refine idxMap (by (first | decide | exact trivial | omega | exact Nat.le_refl _ | (((try simp only [decide_eq_true_eq, decide_eq_false_iff_not, cond_true, cond_false, beq_iff_eq, beq_eq_false_iff_ne, bne_iff_ne, bne_eq_false_iff_eq, ne_eq, Bool.not_eq_true', Bool.not_eq_false', Bool.not_eq_eq_eq_not, Bool.not_true, Bool.not_false, sLe_eq, Bool.and_eq_true, Bool.and_eq_false_iff, List.length_map, List.length_append, List.length_take, List.length_drop, List.length_replicate, List.length_cons, List.length_nil, lenMax, capMax, Int.toNat_natCast, gt_iff_lt, ge_iff_le] at *); (try simp (disch := omega) only [wr, wru, shr1, Int.tdiv_eq_ediv_of_nonneg] at *)); omega) | (((try simp only [decide_eq_true_eq, decide_eq_false_iff_not, cond_true, cond_false, beq_iff_eq, beq_eq_false_iff_ne, bne_iff_ne, bne_eq_false_iff_eq, ne_eq, Bool.not_eq_true', Bool.not_eq_false', Bool.not_eq_eq_eq_not, Bool.not_true, Bool.not_false, sLe_eq, Bool.and_eq_true, Bool.and_eq_false_iff, List.length_map, List.length_append, List.length_take, List.length_drop, List.length_replicate, List.length_cons, List.length_nil, lenMax, capMax, Int.toNat_natCast, gt_iff_lt, ge_iff_le] at *); (try simp (disch := omega) only [wr, wru, shr1, Int.tdiv_eq_ediv_of_nonneg] at *)); assumption))) (fun _ _ => ?_); conv => whnf)
    | refine WpD.seq ?_
    | (refine WpD.region ?_; conv => whnf)
    | (refine WpD.draw ?_; conv => whnf)
    | (refine EndOk.mk (by kernel_rfl) ?_; conv => whnf)
    | refine WpD.block ?_
    | (refine WpD.exit ?_; conv => whnf)
    | (refine WpD.skip ?_; conv => whnf)
    | (refine WpD.ret ?_; conv => whnf)
    | refine WpD.cond rfl ?_
    | (refine Br.tt ?_; try conv => whnf)
    | (refine Br.ff ?_; try conv => whnf)
    | (refine Br.of_t (by assumption) ?_; conv => whnf)
    | (refine Br.of_f (by assumption) ?_; conv => whnf)
    | (refine Br.mk (fun _ => ?_) (fun _ => ?_) <;> try conv => whnf)
    | refine Exists.intro _ (And.intro (DV_toV rfl) ?_)
    | (refine CallOp.std ?_; (conv => whnf); fail_if_success refine (?_ : False))
    | (refine CallDet.std ?_; (conv => whnf); fail_if_success refine (?_ : False))
    | (refine And.intro (by (first | decide | exact trivial | omega | exact Nat.le_refl _ | (((try simp only [decide_eq_true_eq, decide_eq_false_iff_not, cond_true, cond_false, beq_iff_eq, beq_eq_false_iff_ne, bne_iff_ne, bne_eq_false_iff_eq, ne_eq, Bool.not_eq_true', Bool.not_eq_false', Bool.not_eq_eq_eq_not, Bool.not_true, Bool.not_false, sLe_eq, Bool.and_eq_true, Bool.and_eq_false_iff, List.length_map, List.length_append, List.length_take, List.length_drop, List.length_replicate, List.length_cons, List.length_nil, lenMax, capMax, Int.toNat_natCast, gt_iff_lt, ge_iff_le] at *); (try simp (disch := omega) only [wr, wru, shr1, Int.tdiv_eq_ediv_of_nonneg] at *)); omega) | (((try simp only [decide_eq_true_eq, decide_eq_false_iff_not, cond_true, cond_false, beq_iff_eq, beq_eq_false_iff_ne, bne_iff_ne, bne_eq_false_iff_eq, ne_eq, Bool.not_eq_true', Bool.not_eq_false', Bool.not_eq_eq_eq_not, Bool.not_true, Bool.not_false, sLe_eq, Bool.and_eq_true, Bool.and_eq_false_iff, List.length_map, List.length_append, List.length_take, List.length_drop, List.length_replicate, List.length_cons, List.length_nil, lenMax, capMax, Int.toNat_natCast, gt_iff_lt, ge_iff_le] at *); (try simp (disch := omega) only [wr, wru, shr1, Int.tdiv_eq_ediv_of_nonneg] at *)); assumption))) ?_; conv => whnf)
  all_goals refine congrArg (V.int .i64) ?_
  all_goals rename_i h h'
  all_goals (((try simp only [decide_eq_true_eq, decide_eq_false_iff_not, cond_true, cond_false, beq_iff_eq, beq_eq_false_iff_ne, bne_iff_ne, bne_eq_false_iff_eq, ne_eq, Bool.not_eq_true', Bool.not_eq_false', Bool.not_eq_eq_eq_not, Bool.not_true, Bool.not_false, sLe_eq, Bool.and_eq_true, Bool.and_eq_false_iff, List.length_map, List.length_append, List.length_take, List.length_drop, List.length_replicate, List.length_cons, List.length_nil, lenMax, capMax, Int.toNat_natCast, gt_iff_lt, ge_iff_le] at *); (try simp (disch := omega) only [wr, wru, shr1, Int.tdiv_eq_ediv_of_nonneg] at *)); try (simp only [dayOf]; try omega))
theorem c_decayed (nm : ByteArray) (g b d t : Int) (hd : -1000000 ≤ d ∧ d ≤ t ∧ t ≤ 1000000) : CallV tab 40 [.agg [.str nm, .int .i64 g, .int .i64 b, .int .i64 d], .int .i64 t] (· = .agg [.str nm, .int .i64 (g / 2 ^ (min (t - d) 40).toNat), .int .i64 (b / 2 ^ (min (t - d) 40).toNat), .int .i64 t]) := by
  have e : min (if 40 < IntKind.i64.wrap (t - d) then 40 else IntKind.i64.wrap (t - d)).toNat IntKind.i64.bits = (min (t - d) 40).toNat := by
    rw [wr (by omega) (by omega), min_if]
    simp only [IntKind.bits]
    omega
  have p : ∀ k : Nat, (0:Int) ≤ 2 ^ k := fun k => by exact_mod_cast Nat.zero_le (2 ^ k)
  refine callV_of Try.func40 rfl (Nat.le_of_ble_eq_true rfl) (by kernel_rfl) ?_
  have side : 0 ≤ (if 40 < IntKind.i64.wrap (t - d) then 40 else IntKind.i64.wrap (t - d)) := by
    rw [wr (by omega) (by omega)]; split <;> omega
  repeat' first
    | (refine And.intro side ?_; conv => whnf)
    | (refine idxMap (by (first | decide | exact trivial | omega | exact Nat.le_refl _ | (((try simp only [decide_eq_true_eq, decide_eq_false_iff_not, cond_true, cond_false, beq_iff_eq, beq_eq_false_iff_ne, bne_iff_ne, bne_eq_false_iff_eq, ne_eq, Bool.not_eq_true', Bool.not_eq_false', Bool.not_eq_eq_eq_not, Bool.not_true, Bool.not_false, sLe_eq, Bool.and_eq_true, Bool.and_eq_false_iff, List.length_map, List.length_append, List.length_take, List.length_drop, List.length_replicate, List.length_cons, List.length_nil, lenMax, capMax, Int.toNat_natCast, gt_iff_lt, ge_iff_le] at *); (try simp (disch := omega) only [wr, wru, shr1, Int.tdiv_eq_ediv_of_nonneg] at *)); omega) | (((try simp only [decide_eq_true_eq, decide_eq_false_iff_not, cond_true, cond_false, beq_iff_eq, beq_eq_false_iff_ne, bne_iff_ne, bne_eq_false_iff_eq, ne_eq, Bool.not_eq_true', Bool.not_eq_false', Bool.not_eq_eq_eq_not, Bool.not_true, Bool.not_false, sLe_eq, Bool.and_eq_true, Bool.and_eq_false_iff, List.length_map, List.length_append, List.length_take, List.length_drop, List.length_replicate, List.length_cons, List.length_nil, lenMax, capMax, Int.toNat_natCast, gt_iff_lt, ge_iff_le] at *); (try simp (disch := omega) only [wr, wru, shr1, Int.tdiv_eq_ediv_of_nonneg] at *)); assumption))) (fun _ _ => ?_); conv => whnf)
    | refine WpD.seq ?_
    | (refine WpD.region ?_; conv => whnf)
    | (refine WpD.draw ?_; conv => whnf)
    | (refine EndOk.mk (by kernel_rfl) ?_; conv => whnf)
    | refine WpD.block ?_
    | (refine WpD.exit ?_; conv => whnf)
    | (refine WpD.skip ?_; conv => whnf)
    | (refine WpD.ret ?_; conv => whnf)
    | refine WpD.cond rfl ?_
    | (refine Br.tt ?_; try conv => whnf)
    | (refine Br.ff ?_; try conv => whnf)
    | (refine Br.of_t (by assumption) ?_; conv => whnf)
    | (refine Br.of_f (by assumption) ?_; conv => whnf)
    | (refine Br.mk (fun _ => ?_) (fun _ => ?_) <;> try conv => whnf)
    | refine Exists.intro _ (And.intro (DV_toV rfl) ?_)
    | (refine CallOp.std ?_; (conv => whnf); fail_if_success refine (?_ : False))
    | (refine CallDet.std ?_; (conv => whnf); fail_if_success refine (?_ : False))
    | (refine And.intro (by (first | decide | exact trivial | omega | exact Nat.le_refl _ | (((try simp only [decide_eq_true_eq, decide_eq_false_iff_not, cond_true, cond_false, beq_iff_eq, beq_eq_false_iff_ne, bne_iff_ne, bne_eq_false_iff_eq, ne_eq, Bool.not_eq_true', Bool.not_eq_false', Bool.not_eq_eq_eq_not, Bool.not_true, Bool.not_false, sLe_eq, Bool.and_eq_true, Bool.and_eq_false_iff, List.length_map, List.length_append, List.length_take, List.length_drop, List.length_replicate, List.length_cons, List.length_nil, lenMax, capMax, Int.toNat_natCast, gt_iff_lt, ge_iff_le] at *); (try simp (disch := omega) only [wr, wru, shr1, Int.tdiv_eq_ediv_of_nonneg] at *)); omega) | (((try simp only [decide_eq_true_eq, decide_eq_false_iff_not, cond_true, cond_false, beq_iff_eq, beq_eq_false_iff_ne, bne_iff_ne, bne_eq_false_iff_eq, ne_eq, Bool.not_eq_true', Bool.not_eq_false', Bool.not_eq_eq_eq_not, Bool.not_true, Bool.not_false, sLe_eq, Bool.and_eq_true, Bool.and_eq_false_iff, List.length_map, List.length_append, List.length_take, List.length_drop, List.length_replicate, List.length_cons, List.length_nil, lenMax, capMax, Int.toNat_natCast, gt_iff_lt, ge_iff_le] at *); (try simp (disch := omega) only [wr, wru, shr1, Int.tdiv_eq_ediv_of_nonneg] at *)); assumption))) ?_; conv => whnf)
  rw [e, Int.fdiv_eq_ediv_of_nonneg _ (p _), Int.fdiv_eq_ediv_of_nonneg _ (p _)]
/-! Left -/
theorem c_Left (n d : Int) (hp : 0 ≤ n ∧ n ≤ 1000000 ∧ d ≤ 100000000) : CallV tab 44 [.int .i64 n, .int .i64 d] (· = .int .i64 (n / 2 ^ d.toNat)) := by
  obtain ⟨h1, h2, h3⟩ := hp
  have p : ∀ k : Nat, (0:Int) ≤ 2 ^ k := fun k => by exact_mod_cast Nat.zero_le (2 ^ k)
  refine callV_of Try.func44 rfl (Nat.le_of_ble_eq_true rfl) (by kernel_rfl) ?_
  repeat' first
    | (refine WpD.loop (fun k : Nat => ⟨[(0, .v (.int .i64 (n / 2 ^ k))), (1, .v (.int .i64 d)), (5, .v (.int .i64 k))], [], []⟩) (fun k => k ≤ d.toNat) (fun k => d.toNat - k) ?_ (fun k hk => ?_))
    | (refine idxMap (by (first | decide | exact trivial | omega | exact Nat.le_refl _ | (((try simp only [decide_eq_true_eq, decide_eq_false_iff_not, cond_true, cond_false, beq_iff_eq, beq_eq_false_iff_ne, bne_iff_ne, bne_eq_false_iff_eq, ne_eq, Bool.not_eq_true', Bool.not_eq_false', Bool.not_eq_eq_eq_not, Bool.not_true, Bool.not_false, sLe_eq, Bool.and_eq_true, Bool.and_eq_false_iff, List.length_map, List.length_append, List.length_take, List.length_drop, List.length_replicate, List.length_cons, List.length_nil, lenMax, capMax, Int.toNat_natCast, gt_iff_lt, ge_iff_le] at *); (try simp (disch := omega) only [wr, wru, shr1, Int.tdiv_eq_ediv_of_nonneg] at *)); omega) | (((try simp only [decide_eq_true_eq, decide_eq_false_iff_not, cond_true, cond_false, beq_iff_eq, beq_eq_false_iff_ne, bne_iff_ne, bne_eq_false_iff_eq, ne_eq, Bool.not_eq_true', Bool.not_eq_false', Bool.not_eq_eq_eq_not, Bool.not_true, Bool.not_false, sLe_eq, Bool.and_eq_true, Bool.and_eq_false_iff, List.length_map, List.length_append, List.length_take, List.length_drop, List.length_replicate, List.length_cons, List.length_nil, lenMax, capMax, Int.toNat_natCast, gt_iff_lt, ge_iff_le] at *); (try simp (disch := omega) only [wr, wru, shr1, Int.tdiv_eq_ediv_of_nonneg] at *)); assumption))) (fun _ _ => ?_); conv => whnf)
    | refine WpD.seq ?_
    | (refine WpD.region ?_; conv => whnf)
    | (refine WpD.draw ?_; conv => whnf)
    | (refine EndOk.mk (by kernel_rfl) ?_; conv => whnf)
    | refine WpD.block ?_
    | (refine WpD.exit ?_; conv => whnf)
    | (refine WpD.skip ?_; conv => whnf)
    | (refine WpD.ret ?_; conv => whnf)
    | refine WpD.cond rfl ?_
    | (refine Br.tt ?_; try conv => whnf)
    | (refine Br.ff ?_; try conv => whnf)
    | (refine Br.of_t (by assumption) ?_; conv => whnf)
    | (refine Br.of_f (by assumption) ?_; conv => whnf)
    | (refine Br.mk (fun _ => ?_) (fun _ => ?_) <;> try conv => whnf)
    | refine Exists.intro _ (And.intro (DV_toV rfl) ?_)
    | (refine CallOp.std ?_; (conv => whnf); fail_if_success refine (?_ : False))
    | (refine CallDet.std ?_; (conv => whnf); fail_if_success refine (?_ : False))
    | (refine And.intro (by (first | decide | exact trivial | omega | exact Nat.le_refl _ | (((try simp only [decide_eq_true_eq, decide_eq_false_iff_not, cond_true, cond_false, beq_iff_eq, beq_eq_false_iff_ne, bne_iff_ne, bne_eq_false_iff_eq, ne_eq, Bool.not_eq_true', Bool.not_eq_false', Bool.not_eq_eq_eq_not, Bool.not_true, Bool.not_false, sLe_eq, Bool.and_eq_true, Bool.and_eq_false_iff, List.length_map, List.length_append, List.length_take, List.length_drop, List.length_replicate, List.length_cons, List.length_nil, lenMax, capMax, Int.toNat_natCast, gt_iff_lt, ge_iff_le] at *); (try simp (disch := omega) only [wr, wru, shr1, Int.tdiv_eq_ediv_of_nonneg] at *)); omega) | (((try simp only [decide_eq_true_eq, decide_eq_false_iff_not, cond_true, cond_false, beq_iff_eq, beq_eq_false_iff_ne, bne_iff_ne, bne_eq_false_iff_eq, ne_eq, Bool.not_eq_true', Bool.not_eq_false', Bool.not_eq_eq_eq_not, Bool.not_true, Bool.not_false, sLe_eq, Bool.and_eq_true, Bool.and_eq_false_iff, List.length_map, List.length_append, List.length_take, List.length_drop, List.length_replicate, List.length_cons, List.length_nil, lenMax, capMax, Int.toNat_natCast, gt_iff_lt, ge_iff_le] at *); (try simp (disch := omega) only [wr, wru, shr1, Int.tdiv_eq_ediv_of_nonneg] at *)); assumption))) ?_; conv => whnf)
  · refine ⟨0, [], Nat.zero_le _, ⟨by decide, rfl, ?_, trivial, rfl⟩⟩
    (repeat' first | exact trivial | rfl | apply And.intro | (refine leInt rfl ?_; first | omega | (dsimp only; omega)) | (refine leArr rfl ?_ rfl; (simp; try omega)) | (refine leBool rfl ?_; assumption))
  all_goals ((try simp only [decide_eq_true_eq, decide_eq_false_iff_not, cond_true, cond_false, beq_iff_eq, beq_eq_false_iff_ne, bne_iff_ne, bne_eq_false_iff_eq, ne_eq, Bool.not_eq_true', Bool.not_eq_false', Bool.not_eq_eq_eq_not, Bool.not_true, Bool.not_false, sLe_eq, Bool.and_eq_true, Bool.and_eq_false_iff, List.length_map, List.length_append, List.length_take, List.length_drop, List.length_replicate, List.length_cons, List.length_nil, lenMax, capMax, Int.toNat_natCast, gt_iff_lt, ge_iff_le] at *); (try simp (disch := omega) only [wr, wru, shr1, Int.tdiv_eq_ediv_of_nonneg] at *))
  · rename_i a b
    refine ⟨k + 1, [], by omega, ⟨⟨by decide, rfl, ?_, trivial, rfl⟩, by omega⟩⟩
    (repeat' first | exact trivial | rfl | apply And.intro | (refine leInt rfl ?_; first | omega | (dsimp only; omega)) | (refine leArr rfl ?_ rfl; (simp; try omega)) | (refine leBool rfl ?_; assumption))
    · refine leInt rfl ?_
      have : n / 2 ^ k ≤ 1000000 := Int.le_trans (Int.ediv_le_self _ h1) h2
      rw [wr (by omega) (by omega), Int.ediv_ediv_of_nonneg (p k), Int.pow_succ]
  · refine congrArg (V.int .i64) ?_
    rename_i a b
    have hb : n / 2 ^ k = 0 := by have := Int.ediv_nonneg h1 (p k); omega
    obtain ⟨j, hj⟩ := Nat.exists_eq_add_of_le hk
    rw [hb, hj, Int.pow_add, ← Int.ediv_ediv_of_nonneg (p k), hb]; simp
  · rename_i a
    have : k = d.toNat := by omega
    rw [this]
end Go.DL
