/- Classify: the fixed example of the laws. No condition. -/
import Derived.Test.YtdadnjhfennenaaC12
set_option linter.unusedVariables false
set_option linter.unusedSimpArgs false
set_option maxHeartbeats 4000000
namespace Go.DL
open Go.Proofs

def lunch : ByteArray := ⟨#[108, 117, 110, 99, 104]⟩
def wL : Wd := ⟨0, 1, false, [⟨lunch, 0, 1⟩]⟩
theorem lunch_A : lrnA w00 [lunch] true = (wL, (0, 0)) := by rfl
theorem lunch_c : cF wL [lunch] = (0, 0) := by rfl
theorem lunch_r : rats wL [lunch] = [1000] := by rfl
theorem lunch_n : scA wL [] [] = (500, (0, 0)) := by rfl
theorem lunch_s : scA wL [lunch] [1000] = (1000, (0, 0)) := by rfl
theorem lunch_e : sameW wL wL = true := by unfold sameW; simp
theorem c_learned : CallV tab 27 [] (· = .bool true) := by
  have h1 : CallD tab 29 [.agg [.v (.int .i64 0), .v (.int .i64 0), .v (.sl 3 true [])], .arr 0 0 1, .v (.bool true)] [.arr 1 (vrows [[.str lunch]])] (fun d _ => ∃ r, d = .v r ∧ r = wfV (wL, (0, 0))) :=
    callD_of_callV (vargs := [.agg w00.row, strs false [lunch], .bool true]) (by have := c_Learn w00 false [lunch] true; rw [lunch_A] at this; exact this) ⟨⟨rfl, rfl, rfl, trivial⟩, DV_arr rfl rfl, rfl, trivial⟩
  have h2 := c_Score wL false [lunch] [1000] (by rw [lunch_r]; exact c_sort1 [1000] (by decide)) rfl (by simp)
  have h3 := c_Score wL true [] [] (c_sort1 [] (by decide)) rfl (by simp)
  have h4 := c_SameWords wL wL (by decide)
  rw [lunch_s] at h2
  rw [lunch_n] at h3
  rw [lunch_e] at h4
  refine callV_of Try.func27 rfl (Nat.le_of_ble_eq_true rfl) (by kernel_rfl) ?_
  repeat' first
    | (apply Br.id; first
      | (apply Br.tt; try conv => whnf)
      | (apply Br.ff; try conv => whnf)
      | (refine Br.of_t (by assumption) ?_; conv => whnf)
      | (refine Br.of_f (by assumption) ?_; conv => whnf)
      | (refine Br.mk (fun _ => ?_) (fun _ => ?_) <;> try conv => whnf))
    | (apply CallOp.id; first
      | (refine call_eatV [0] h1 rfl rfl rfl rfl rfl rfl (by decide) rfl (fun i p h => ?_) (fun y hy => ?_); rotate_left; subst hy; conv => whnf)
      | (refine call_eatVD [0] h1 rfl rfl rfl rfl rfl rfl (by decide) rfl (fun i p h => ?_) ?_; rotate_left; conv => whnf)
      | (refine call_at rfl rfl rfl rfl rfl ?_)
      | (refine call_rd rfl rfl rfl rfl rfl ?_)
      | (refine CallOp.std ?_; (conv => whnf); fail_if_success refine (?_ : False)))
    | (apply CallDet.id; first
      | (refine call_eatV [0] h1 rfl rfl rfl rfl rfl rfl (by decide) rfl (fun i p h => ?_) (fun y hy => ?_); rotate_left; subst hy; conv => whnf)
      | (refine call_eatVD [0] h1 rfl rfl rfl rfl rfl rfl (by decide) rfl (fun i p h => ?_) ?_; rotate_left; conv => whnf)
      | (refine call_atD rfl rfl rfl rfl rfl ?_)
      | (refine call_rdD rfl rfl rfl rfl rfl ?_)
      | (refine CallDet.std ?_; (conv => whnf); fail_if_success refine (?_ : False)))
    | (apply CallAt.id; first
      | (apply CallAt.mk1 (h3); conv => whnf))
    | (apply CallRd.id; first
      | (apply CallRd.mk1 h2; (· rfl); conv => whnf)
      | (apply CallRd.mk1 (h3); (· rfl); conv => whnf)
      | (apply CallRd.mk1 h4; (· rfl); conv => whnf))
    | (refine EndOk.mk (by kernel_rfl) ?_; conv => whnf)
    | (refine And.intro (by (first | decide | exact trivial | omega | exact Nat.le_refl _ | (((try simp only [decide_eq_true_eq, decide_eq_false_iff_not, cond_true, cond_false, beq_iff_eq, beq_eq_false_iff_ne, bne_iff_ne, bne_eq_false_iff_eq, ne_eq, Bool.not_eq_true', Bool.not_eq_false', Bool.not_eq_eq_eq_not, Bool.not_true, Bool.not_false, sLe_eq, Bool.and_eq_true, Bool.and_eq_false_iff, List.length_map, List.length_set, List.length_append, List.length_take, List.length_drop, List.length_replicate, List.length_cons, List.length_nil, lenMax, capMax, Int.toNat_natCast, gt_iff_lt, ge_iff_le] at *); (try simp (disch := omega) only [wr, wru, shr1, Int.tdiv_eq_ediv_of_nonneg] at *)); omega) | (((try simp only [decide_eq_true_eq, decide_eq_false_iff_not, cond_true, cond_false, beq_iff_eq, beq_eq_false_iff_ne, bne_iff_ne, bne_eq_false_iff_eq, ne_eq, Bool.not_eq_true', Bool.not_eq_false', Bool.not_eq_eq_eq_not, Bool.not_true, Bool.not_false, sLe_eq, Bool.and_eq_true, Bool.and_eq_false_iff, List.length_map, List.length_set, List.length_append, List.length_take, List.length_drop, List.length_replicate, List.length_cons, List.length_nil, lenMax, capMax, Int.toNat_natCast, gt_iff_lt, ge_iff_le] at *); (try simp (disch := omega) only [wr, wru, shr1, Int.tdiv_eq_ediv_of_nonneg] at *)); assumption))) ?_; conv => whnf)
    | (refine idxOld (by assumption) ?_; conv => whnf)
    | (refine idxMap (by (first | decide | exact trivial | omega | exact Nat.le_refl _ | (((try simp only [decide_eq_true_eq, decide_eq_false_iff_not, cond_true, cond_false, beq_iff_eq, beq_eq_false_iff_ne, bne_iff_ne, bne_eq_false_iff_eq, ne_eq, Bool.not_eq_true', Bool.not_eq_false', Bool.not_eq_eq_eq_not, Bool.not_true, Bool.not_false, sLe_eq, Bool.and_eq_true, Bool.and_eq_false_iff, List.length_map, List.length_set, List.length_append, List.length_take, List.length_drop, List.length_replicate, List.length_cons, List.length_nil, lenMax, capMax, Int.toNat_natCast, gt_iff_lt, ge_iff_le] at *); (try simp (disch := omega) only [wr, wru, shr1, Int.tdiv_eq_ediv_of_nonneg] at *)); omega) | (((try simp only [decide_eq_true_eq, decide_eq_false_iff_not, cond_true, cond_false, beq_iff_eq, beq_eq_false_iff_ne, bne_iff_ne, bne_eq_false_iff_eq, ne_eq, Bool.not_eq_true', Bool.not_eq_false', Bool.not_eq_eq_eq_not, Bool.not_true, Bool.not_false, sLe_eq, Bool.and_eq_true, Bool.and_eq_false_iff, List.length_map, List.length_set, List.length_append, List.length_take, List.length_drop, List.length_replicate, List.length_cons, List.length_nil, lenMax, capMax, Int.toNat_natCast, gt_iff_lt, ge_iff_le] at *); (try simp (disch := omega) only [wr, wru, shr1, Int.tdiv_eq_ediv_of_nonneg] at *)); assumption))) (fun _ _ => ?_); conv => whnf)
    | refine Exists.intro _ (And.intro (DV_toV rfl) ?_)
    | (refine rowSet (by (first | decide | exact trivial | omega | exact Nat.le_refl _ | (((try simp only [decide_eq_true_eq, decide_eq_false_iff_not, cond_true, cond_false, beq_iff_eq, beq_eq_false_iff_ne, bne_iff_ne, bne_eq_false_iff_eq, ne_eq, Bool.not_eq_true', Bool.not_eq_false', Bool.not_eq_eq_eq_not, Bool.not_true, Bool.not_false, sLe_eq, Bool.and_eq_true, Bool.and_eq_false_iff, List.length_map, List.length_set, List.length_append, List.length_take, List.length_drop, List.length_replicate, List.length_cons, List.length_nil, lenMax, capMax, Int.toNat_natCast, gt_iff_lt, ge_iff_le] at *); (try simp (disch := omega) only [wr, wru, shr1, Int.tdiv_eq_ediv_of_nonneg] at *)); omega) | (((try simp only [decide_eq_true_eq, decide_eq_false_iff_not, cond_true, cond_false, beq_iff_eq, beq_eq_false_iff_ne, bne_iff_ne, bne_eq_false_iff_eq, ne_eq, Bool.not_eq_true', Bool.not_eq_false', Bool.not_eq_eq_eq_not, Bool.not_true, Bool.not_false, sLe_eq, Bool.and_eq_true, Bool.and_eq_false_iff, List.length_map, List.length_set, List.length_append, List.length_take, List.length_drop, List.length_replicate, List.length_cons, List.length_nil, lenMax, capMax, Int.toNat_natCast, gt_iff_lt, ge_iff_le] at *); (try simp (disch := omega) only [wr, wru, shr1, Int.tdiv_eq_ediv_of_nonneg] at *)); assumption))) ?_; conv => whnf)
    | (refine rowOld (by assumption) ?_; conv => whnf)
    | (refine rowNew (by (first | decide | exact trivial | omega | exact Nat.le_refl _ | (((try simp only [decide_eq_true_eq, decide_eq_false_iff_not, cond_true, cond_false, beq_iff_eq, beq_eq_false_iff_ne, bne_iff_ne, bne_eq_false_iff_eq, ne_eq, Bool.not_eq_true', Bool.not_eq_false', Bool.not_eq_eq_eq_not, Bool.not_true, Bool.not_false, sLe_eq, Bool.and_eq_true, Bool.and_eq_false_iff, List.length_map, List.length_set, List.length_append, List.length_take, List.length_drop, List.length_replicate, List.length_cons, List.length_nil, lenMax, capMax, Int.toNat_natCast, gt_iff_lt, ge_iff_le] at *); (try simp (disch := omega) only [wr, wru, shr1, Int.tdiv_eq_ediv_of_nonneg] at *)); omega) | (((try simp only [decide_eq_true_eq, decide_eq_false_iff_not, cond_true, cond_false, beq_iff_eq, beq_eq_false_iff_ne, bne_iff_ne, bne_eq_false_iff_eq, ne_eq, Bool.not_eq_true', Bool.not_eq_false', Bool.not_eq_eq_eq_not, Bool.not_true, Bool.not_false, sLe_eq, Bool.and_eq_true, Bool.and_eq_false_iff, List.length_map, List.length_set, List.length_append, List.length_take, List.length_drop, List.length_replicate, List.length_cons, List.length_nil, lenMax, capMax, Int.toNat_natCast, gt_iff_lt, ge_iff_le] at *); (try simp (disch := omega) only [wr, wru, shr1, Int.tdiv_eq_ediv_of_nonneg] at *)); assumption))) (fun _ _ => ?_); conv => whnf)
    | (apply WpD.id; first
      | (refine WpD.walk rfl ?_; conv => whnf))
  all_goals first
    | rfl
    | (rcases i with _ | i
       · simp at h; subst h
         exact obLe_v rfl
       · simp at h)
end Go.DL
