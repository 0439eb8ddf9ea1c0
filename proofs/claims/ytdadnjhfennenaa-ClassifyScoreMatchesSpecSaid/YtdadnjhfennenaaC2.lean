/- Classify: check, LearnFault, find, of, IndexFunc, Clone, Insert, DeleteFunc. No condition. -/
import Derived.Test.YtdadnjhfennenaaC1
set_option linter.unusedVariables false
set_option linter.unusedSimpArgs false
set_option maxHeartbeats 4000000
namespace Go.DL
open Go.Proofs

def tchk (p : Option ByteArray) (s : ByteArray) : Int := if fitB s = false then 10 else match p with | some q => if sLt q s = true then 0 else 19 | none => 0
theorem tchk_n {p : Option ByteArray} {s : ByteArray} (h : fitB s = false) : tchk p s = 10 := by unfold tchk; rw [if_pos h]
theorem tchk_o {q s : ByteArray} (h : fitB s = true) (h3 : sLt q s = false) : tchk (some q) s = 19 := by unfold tchk; rw [if_neg (by simp [h])]; simp [h3]
theorem tchk_0 {s : ByteArray} (h : fitB s = true) : tchk none s = 0 := by unfold tchk; rw [if_neg (by simp [h])]
theorem tchk_1 {q s : ByteArray} (h : fitB s = true) (h3 : sLt q s = true) : tchk (some q) s = 0 := by unfold tchk; rw [if_neg (by simp [h])]; simp [h3]
def tF (l : List ByteArray) : Int × Int := if 1000 < l.length then (2, -3) else if vfl tchk 0 none l = (0, 0) then (0, 0) else ((vfl tchk 0 none l).1, -10 - (vfl tchk 0 none l).2)
def cF (w : Wd) (l : List ByteArray) : Int × Int := if wF w ≠ (0, 0) then wF w else tF l
theorem wF_0 {w : Wd} (h : (wF w).1 = 0) : wF w = (0, 0) := by
  unfold wF at h ⊢
  split
  · rename_i h1; rw [if_pos h1] at h; simp at h
  · rename_i h1
    rw [if_neg h1] at h
    split
    · rename_i h2; rw [if_pos h2] at h; simp at h
    · rename_i h2; rw [if_neg h2] at h; exact vfl_ne _ _ _ h
theorem tF_at {l : List ByteArray} {c : Int} {k : Nat} (hl : l.length ≤ 1000) (h : vfl tchk 0 none l = (c, (k : Int))) (hc : c ≠ 0) : tF l = (c, -10 - (k : Int)) := by
  unfold tF; rw [if_neg (by omega), h, if_neg (by simp [hc])]
theorem tF_no {l : List ByteArray} (hl : l.length ≤ 1000) (h : vfl tchk 0 none l = (0, 0)) : tF l = (0, 0) := by
  unfold tF; rw [if_neg (by omega), if_pos h]
theorem c_check (w : Wd) (z : Bool) (l : List ByteArray) : CallV tab 45 [.agg w.row, strs z l] (· = fv (cF w l)) := by
  have h1 := c_Validate w
  refine callV_of Try.func45 rfl (Nat.le_of_ble_eq_true rfl) (by kernel_rfl) ?_
  repeat' first
    | (apply Br.id; first
      | (apply Br.tt; try conv => whnf)
      | (apply Br.ff; try conv => whnf)
      | (refine Br.of_t (by assumption) ?_; conv => whnf)
      | (refine Br.of_f (by assumption) ?_; conv => whnf)
      | (refine Br.mk (fun _ => ?_) (fun _ => ?_) <;> try conv => whnf))
    | (apply CallOp.id; first
      | (refine call_at rfl rfl rfl rfl rfl ?_)
      | (refine call_rd rfl rfl rfl rfl rfl ?_)
      | (refine CallOp.std ?_; (conv => whnf); fail_if_success refine (?_ : False)))
    | (apply CallDet.id; first
      | (refine call_atD rfl rfl rfl rfl rfl ?_)
      | (refine call_rdD rfl rfl rfl rfl rfl ?_)
      | (refine CallDet.std ?_; (conv => whnf); fail_if_success refine (?_ : False)))
    | (apply CallAt.id; first
      | (apply CallAt.mk1 (h1); conv => whnf)
      | (apply CallAt.mk1 (c_fits _); conv => whnf))
    | (apply CallRd.id; first
      | (apply CallRd.mk1 (h1); (· rfl); conv => whnf)
      | (apply CallRd.mk1 (c_fits _); (· rfl); conv => whnf))
    | (refine EndOk.mk (by kernel_rfl) ?_; conv => whnf)
    | (refine And.intro (by (first | decide | exact trivial | omega | exact Nat.le_refl _ | (((try simp only [decide_eq_true_eq, decide_eq_false_iff_not, cond_true, cond_false, beq_iff_eq, beq_eq_false_iff_ne, bne_iff_ne, bne_eq_false_iff_eq, ne_eq, Bool.not_eq_true', Bool.not_eq_false', Bool.not_eq_eq_eq_not, Bool.not_true, Bool.not_false, sLe_eq, Bool.and_eq_true, Bool.and_eq_false_iff, List.length_map, List.length_set, List.length_append, List.length_take, List.length_drop, List.length_replicate, List.length_cons, List.length_nil, lenMax, capMax, Int.toNat_natCast, gt_iff_lt, ge_iff_le] at *); (try simp (disch := omega) only [wr, wru, shr1, Int.tdiv_eq_ediv_of_nonneg] at *)); omega) | (((try simp only [decide_eq_true_eq, decide_eq_false_iff_not, cond_true, cond_false, beq_iff_eq, beq_eq_false_iff_ne, bne_iff_ne, bne_eq_false_iff_eq, ne_eq, Bool.not_eq_true', Bool.not_eq_false', Bool.not_eq_eq_eq_not, Bool.not_true, Bool.not_false, sLe_eq, Bool.and_eq_true, Bool.and_eq_false_iff, List.length_map, List.length_set, List.length_append, List.length_take, List.length_drop, List.length_replicate, List.length_cons, List.length_nil, lenMax, capMax, Int.toNat_natCast, gt_iff_lt, ge_iff_le] at *); (try simp (disch := omega) only [wr, wru, shr1, Int.tdiv_eq_ediv_of_nonneg] at *)); assumption))) ?_; conv => whnf)
    | (refine idxOld (by assumption) ?_; conv => whnf)
    | (refine idxMap (by (first | decide | exact trivial | omega | exact Nat.le_refl _ | (((try simp only [decide_eq_true_eq, decide_eq_false_iff_not, cond_true, cond_false, beq_iff_eq, beq_eq_false_iff_ne, bne_iff_ne, bne_eq_false_iff_eq, ne_eq, Bool.not_eq_true', Bool.not_eq_false', Bool.not_eq_eq_eq_not, Bool.not_true, Bool.not_false, sLe_eq, Bool.and_eq_true, Bool.and_eq_false_iff, List.length_map, List.length_set, List.length_append, List.length_take, List.length_drop, List.length_replicate, List.length_cons, List.length_nil, lenMax, capMax, Int.toNat_natCast, gt_iff_lt, ge_iff_le] at *); (try simp (disch := omega) only [wr, wru, shr1, Int.tdiv_eq_ediv_of_nonneg] at *)); omega) | (((try simp only [decide_eq_true_eq, decide_eq_false_iff_not, cond_true, cond_false, beq_iff_eq, beq_eq_false_iff_ne, bne_iff_ne, bne_eq_false_iff_eq, ne_eq, Bool.not_eq_true', Bool.not_eq_false', Bool.not_eq_eq_eq_not, Bool.not_true, Bool.not_false, sLe_eq, Bool.and_eq_true, Bool.and_eq_false_iff, List.length_map, List.length_set, List.length_append, List.length_take, List.length_drop, List.length_replicate, List.length_cons, List.length_nil, lenMax, capMax, Int.toNat_natCast, gt_iff_lt, ge_iff_le] at *); (try simp (disch := omega) only [wr, wru, shr1, Int.tdiv_eq_ediv_of_nonneg] at *)); assumption))) (fun _ _ => ?_); conv => whnf)
    | refine Exists.intro _ (And.intro (DV_toV rfl) ?_)
    | (refine rowSet (by (first | decide | exact trivial | omega | exact Nat.le_refl _ | (((try simp only [decide_eq_true_eq, decide_eq_false_iff_not, cond_true, cond_false, beq_iff_eq, beq_eq_false_iff_ne, bne_iff_ne, bne_eq_false_iff_eq, ne_eq, Bool.not_eq_true', Bool.not_eq_false', Bool.not_eq_eq_eq_not, Bool.not_true, Bool.not_false, sLe_eq, Bool.and_eq_true, Bool.and_eq_false_iff, List.length_map, List.length_set, List.length_append, List.length_take, List.length_drop, List.length_replicate, List.length_cons, List.length_nil, lenMax, capMax, Int.toNat_natCast, gt_iff_lt, ge_iff_le] at *); (try simp (disch := omega) only [wr, wru, shr1, Int.tdiv_eq_ediv_of_nonneg] at *)); omega) | (((try simp only [decide_eq_true_eq, decide_eq_false_iff_not, cond_true, cond_false, beq_iff_eq, beq_eq_false_iff_ne, bne_iff_ne, bne_eq_false_iff_eq, ne_eq, Bool.not_eq_true', Bool.not_eq_false', Bool.not_eq_eq_eq_not, Bool.not_true, Bool.not_false, sLe_eq, Bool.and_eq_true, Bool.and_eq_false_iff, List.length_map, List.length_set, List.length_append, List.length_take, List.length_drop, List.length_replicate, List.length_cons, List.length_nil, lenMax, capMax, Int.toNat_natCast, gt_iff_lt, ge_iff_le] at *); (try simp (disch := omega) only [wr, wru, shr1, Int.tdiv_eq_ediv_of_nonneg] at *)); assumption))) ?_; conv => whnf)
    | (refine rowOld (by assumption) ?_; conv => whnf)
    | (refine rowNew (by (first | decide | exact trivial | omega | exact Nat.le_refl _ | (((try simp only [decide_eq_true_eq, decide_eq_false_iff_not, cond_true, cond_false, beq_iff_eq, beq_eq_false_iff_ne, bne_iff_ne, bne_eq_false_iff_eq, ne_eq, Bool.not_eq_true', Bool.not_eq_false', Bool.not_eq_eq_eq_not, Bool.not_true, Bool.not_false, sLe_eq, Bool.and_eq_true, Bool.and_eq_false_iff, List.length_map, List.length_set, List.length_append, List.length_take, List.length_drop, List.length_replicate, List.length_cons, List.length_nil, lenMax, capMax, Int.toNat_natCast, gt_iff_lt, ge_iff_le] at *); (try simp (disch := omega) only [wr, wru, shr1, Int.tdiv_eq_ediv_of_nonneg] at *)); omega) | (((try simp only [decide_eq_true_eq, decide_eq_false_iff_not, cond_true, cond_false, beq_iff_eq, beq_eq_false_iff_ne, bne_iff_ne, bne_eq_false_iff_eq, ne_eq, Bool.not_eq_true', Bool.not_eq_false', Bool.not_eq_eq_eq_not, Bool.not_true, Bool.not_false, sLe_eq, Bool.and_eq_true, Bool.and_eq_false_iff, List.length_map, List.length_set, List.length_append, List.length_take, List.length_drop, List.length_replicate, List.length_cons, List.length_nil, lenMax, capMax, Int.toNat_natCast, gt_iff_lt, ge_iff_le] at *); (try simp (disch := omega) only [wr, wru, shr1, Int.tdiv_eq_ediv_of_nonneg] at *)); assumption))) (fun _ _ => ?_); conv => whnf)
    | (apply WpD.id; first
      | (refine WpD.loop (fun k : Nat => ⟨[(1, .v (strs z l)), (4, .ptr 0 0 0), (18, .v (strs z l)), (19, .v (.int .i64 l.length)), (20, .v (.int .i64 k))], [.arr 2 (vrows [[.int .i64 0, .int .i64 0]])], []⟩) (fun k => k ≤ l.length ∧ l.length ≤ 1000 ∧ vfl tchk 0 none l = vfl tchk k (prevL l k) (l.drop k)) (fun k => l.length - k) ?_ (fun k hk => ?_))
      | (refine WpD.walk rfl ?_; conv => whnf))
  all_goals clear h1
  all_goals ((try simp only [decide_eq_true_eq, decide_eq_false_iff_not, cond_true, cond_false, beq_iff_eq, beq_eq_false_iff_ne, bne_iff_ne, bne_eq_false_iff_eq, ne_eq, Bool.not_eq_true', Bool.not_eq_false', Bool.not_eq_eq_eq_not, Bool.not_true, Bool.not_false, sLe_eq, Bool.and_eq_true, Bool.and_eq_false_iff, List.length_map, List.length_set, List.length_append, List.length_take, List.length_drop, List.length_replicate, List.length_cons, List.length_nil, lenMax, capMax, Int.toNat_natCast, gt_iff_lt, ge_iff_le] at *); (try simp (disch := omega) only [wr, wru, shr1, Int.tdiv_eq_ediv_of_nonneg] at *))
  all_goals try rcases hk with ⟨hk, h300, hi⟩
  all_goals try rename l[k]? = some _ => hx
  all_goals first
    | (have hne : wF w ≠ (0, 0) := by first | (intro e; rename _ ∨ _ => q; rw [e] at q; simp at q; done) | (intro e; rename ¬ (wF w).1 = 0 => q; rw [e] at q; exact q rfl)
       refine fvEq ?_
       rw [cF, if_pos hne])
    | (have he : wF w = (0, 0) := wF_0 (by first | assumption | (rename _ ∧ _ ∧ True => q; exact q.1))
       have hc : cF w l = tF l := by rw [cF, if_neg (by simpa using he)]
       rw [hc]
       first
       | (refine fvEq ?_
          rw [tF, if_pos (by omega)]
          done)
       | (refine ⟨0, [1], ⟨Nat.zero_le _, by omega, rfl⟩, ⟨by decide, rfl, ?_, ?_, rfl⟩⟩
          · (repeat' first | exact trivial | rfl | apply And.intro | (refine leInt rfl ?_; first | omega | (dsimp only; omega)) | (refine leArr rfl ?_ rfl; (simp; try omega)) | (refine leBool rfl ?_; assumption))
            done
          · (repeat' first | exact trivial | (refine obLe_v ?_; try dsimp only) | rfl | apply And.intro)
            done)
       | (refine fvEq ?_
          first
           | exact tF_at h300 (vfl_ret hi hx (tchk_n (by first | assumption | (unfold fitB; simp; omega))) (by decide)) (by decide)
           | exact tF_at h300 (vfl_ret hi hx (by rw [prevL_s ‹_› ‹_›]; exact tchk_o (by first | assumption | (unfold fitB; simp; omega)) ‹_›) (by decide)) (by decide))
       | (refine ⟨k + 1, [0], ⟨by omega, by omega, vfl_next hi hx ?_⟩, ⟨⟨by decide, rfl, ?_, ?_, rfl⟩, by omega⟩⟩
          · first
             | (rw [prevL_0 ‹_›]; exact tchk_0 (by first | assumption | (unfold fitB; simp; omega)))
             | (rw [prevL_s ‹_› ‹_›]; exact tchk_1 (by first | assumption | (unfold fitB; simp; omega)) ‹_›)
          · (repeat' first | exact trivial | rfl | apply And.intro | (refine leInt rfl ?_; first | omega | (dsimp only; omega)) | (refine leArr rfl ?_ rfl; (simp; try omega)) | (refine leBool rfl ?_; assumption))
            done
          · (repeat' first | exact trivial | (refine obLe_v ?_; try dsimp only) | rfl | apply And.intro)
            done)
       | (refine fvEq ?_
          exact tF_no h300 (vfl_end hi (by omega))))
    | (refine ⟨k + 1, [0], ⟨by omega, by omega, vfl_next hi hx ?_⟩, ⟨⟨by decide, rfl, ?_, ?_, rfl⟩, by omega⟩⟩
       · first
          | (rw [prevL_0 ‹_›]; exact tchk_0 (by first | assumption | (unfold fitB; simp; omega)))
          | (rw [prevL_s ‹_› ‹_›]; exact tchk_1 (by first | assumption | (unfold fitB; simp; omega)) ‹_›)
       · (repeat' first | exact trivial | rfl | apply And.intro | (refine leInt rfl ?_; first | omega | (dsimp only; omega)) | (refine leArr rfl ?_ rfl; (simp; try omega)) | (refine leBool rfl ?_; assumption))
         done
       · (repeat' first | exact trivial | (refine obLe_v ?_; try dsimp only) | rfl | apply And.intro)
         done)
    | (refine ⟨0, [1], ⟨Nat.zero_le _, by omega, rfl⟩, ⟨by decide, rfl, ?_, ?_, rfl⟩⟩
       · (repeat' first | exact trivial | rfl | apply And.intro | (refine leInt rfl ?_; first | omega | (dsimp only; omega)) | (refine leArr rfl ?_ rfl; (simp; try omega)) | (refine leBool rfl ?_; assumption))
         done
       · (repeat' first | exact trivial | (refine obLe_v ?_; try dsimp only) | rfl | apply And.intro)
         done)
    | skip
  all_goals trace_state
theorem c_LearnFault (w : Wd) (z : Bool) (l : List ByteArray) : CallV tab 26 [.agg w.row, strs z l] (· = fv (cF w l)) := by
  have h1 := c_WordsFault w
  refine callV_of Try.func26 rfl (Nat.le_of_ble_eq_true rfl) (by kernel_rfl) ?_
  repeat' first
    | (apply Br.id; first
      | (apply Br.tt; try conv => whnf)
      | (apply Br.ff; try conv => whnf)
      | (refine Br.of_t (by assumption) ?_; conv => whnf)
      | (refine Br.of_f (by assumption) ?_; conv => whnf)
      | (refine Br.mk (fun _ => ?_) (fun _ => ?_) <;> try conv => whnf))
    | (apply CallOp.id; first
      | (refine call_at rfl rfl rfl rfl rfl ?_)
      | (refine call_rd rfl rfl rfl rfl rfl ?_)
      | (refine CallOp.std ?_; (conv => whnf); fail_if_success refine (?_ : False)))
    | (apply CallDet.id; first
      | (refine call_atD rfl rfl rfl rfl rfl ?_)
      | (refine call_rdD rfl rfl rfl rfl rfl ?_)
      | (refine CallDet.std ?_; (conv => whnf); fail_if_success refine (?_ : False)))
    | (apply CallAt.id; first
      | (apply CallAt.mk1 (h1); conv => whnf)
      | (apply CallAt.mk1 (c_In _ _ _); conv => whnf)
      | (apply CallAt.mk1 (c_At _ _); conv => whnf))
    | (apply CallRd.id; first
      | (apply CallRd.mk1 (h1); (· rfl); conv => whnf)
      | (apply CallRd.mk1 (c_In _ _ _); (· rfl); conv => whnf)
      | (apply CallRd.mk1 (c_At _ _); (· rfl); conv => whnf))
    | (refine EndOk.mk (by kernel_rfl) ?_; conv => whnf)
    | (refine And.intro (by (first | decide | exact trivial | omega | exact Nat.le_refl _ | (((try simp only [decide_eq_true_eq, decide_eq_false_iff_not, cond_true, cond_false, beq_iff_eq, beq_eq_false_iff_ne, bne_iff_ne, bne_eq_false_iff_eq, ne_eq, Bool.not_eq_true', Bool.not_eq_false', Bool.not_eq_eq_eq_not, Bool.not_true, Bool.not_false, sLe_eq, Bool.and_eq_true, Bool.and_eq_false_iff, List.length_map, List.length_set, List.length_append, List.length_take, List.length_drop, List.length_replicate, List.length_cons, List.length_nil, lenMax, capMax, Int.toNat_natCast, gt_iff_lt, ge_iff_le] at *); (try simp (disch := omega) only [wr, wru, shr1, Int.tdiv_eq_ediv_of_nonneg] at *)); omega) | (((try simp only [decide_eq_true_eq, decide_eq_false_iff_not, cond_true, cond_false, beq_iff_eq, beq_eq_false_iff_ne, bne_iff_ne, bne_eq_false_iff_eq, ne_eq, Bool.not_eq_true', Bool.not_eq_false', Bool.not_eq_eq_eq_not, Bool.not_true, Bool.not_false, sLe_eq, Bool.and_eq_true, Bool.and_eq_false_iff, List.length_map, List.length_set, List.length_append, List.length_take, List.length_drop, List.length_replicate, List.length_cons, List.length_nil, lenMax, capMax, Int.toNat_natCast, gt_iff_lt, ge_iff_le] at *); (try simp (disch := omega) only [wr, wru, shr1, Int.tdiv_eq_ediv_of_nonneg] at *)); assumption))) ?_; conv => whnf)
    | (refine idxOld (by assumption) ?_; conv => whnf)
    | (refine idxMap (by (first | decide | exact trivial | omega | exact Nat.le_refl _ | (((try simp only [decide_eq_true_eq, decide_eq_false_iff_not, cond_true, cond_false, beq_iff_eq, beq_eq_false_iff_ne, bne_iff_ne, bne_eq_false_iff_eq, ne_eq, Bool.not_eq_true', Bool.not_eq_false', Bool.not_eq_eq_eq_not, Bool.not_true, Bool.not_false, sLe_eq, Bool.and_eq_true, Bool.and_eq_false_iff, List.length_map, List.length_set, List.length_append, List.length_take, List.length_drop, List.length_replicate, List.length_cons, List.length_nil, lenMax, capMax, Int.toNat_natCast, gt_iff_lt, ge_iff_le] at *); (try simp (disch := omega) only [wr, wru, shr1, Int.tdiv_eq_ediv_of_nonneg] at *)); omega) | (((try simp only [decide_eq_true_eq, decide_eq_false_iff_not, cond_true, cond_false, beq_iff_eq, beq_eq_false_iff_ne, bne_iff_ne, bne_eq_false_iff_eq, ne_eq, Bool.not_eq_true', Bool.not_eq_false', Bool.not_eq_eq_eq_not, Bool.not_true, Bool.not_false, sLe_eq, Bool.and_eq_true, Bool.and_eq_false_iff, List.length_map, List.length_set, List.length_append, List.length_take, List.length_drop, List.length_replicate, List.length_cons, List.length_nil, lenMax, capMax, Int.toNat_natCast, gt_iff_lt, ge_iff_le] at *); (try simp (disch := omega) only [wr, wru, shr1, Int.tdiv_eq_ediv_of_nonneg] at *)); assumption))) (fun _ _ => ?_); conv => whnf)
    | refine Exists.intro _ (And.intro (DV_toV rfl) ?_)
    | (refine rowSet (by (first | decide | exact trivial | omega | exact Nat.le_refl _ | (((try simp only [decide_eq_true_eq, decide_eq_false_iff_not, cond_true, cond_false, beq_iff_eq, beq_eq_false_iff_ne, bne_iff_ne, bne_eq_false_iff_eq, ne_eq, Bool.not_eq_true', Bool.not_eq_false', Bool.not_eq_eq_eq_not, Bool.not_true, Bool.not_false, sLe_eq, Bool.and_eq_true, Bool.and_eq_false_iff, List.length_map, List.length_set, List.length_append, List.length_take, List.length_drop, List.length_replicate, List.length_cons, List.length_nil, lenMax, capMax, Int.toNat_natCast, gt_iff_lt, ge_iff_le] at *); (try simp (disch := omega) only [wr, wru, shr1, Int.tdiv_eq_ediv_of_nonneg] at *)); omega) | (((try simp only [decide_eq_true_eq, decide_eq_false_iff_not, cond_true, cond_false, beq_iff_eq, beq_eq_false_iff_ne, bne_iff_ne, bne_eq_false_iff_eq, ne_eq, Bool.not_eq_true', Bool.not_eq_false', Bool.not_eq_eq_eq_not, Bool.not_true, Bool.not_false, sLe_eq, Bool.and_eq_true, Bool.and_eq_false_iff, List.length_map, List.length_set, List.length_append, List.length_take, List.length_drop, List.length_replicate, List.length_cons, List.length_nil, lenMax, capMax, Int.toNat_natCast, gt_iff_lt, ge_iff_le] at *); (try simp (disch := omega) only [wr, wru, shr1, Int.tdiv_eq_ediv_of_nonneg] at *)); assumption))) ?_; conv => whnf)
    | (refine rowOld (by assumption) ?_; conv => whnf)
    | (refine rowNew (by (first | decide | exact trivial | omega | exact Nat.le_refl _ | (((try simp only [decide_eq_true_eq, decide_eq_false_iff_not, cond_true, cond_false, beq_iff_eq, beq_eq_false_iff_ne, bne_iff_ne, bne_eq_false_iff_eq, ne_eq, Bool.not_eq_true', Bool.not_eq_false', Bool.not_eq_eq_eq_not, Bool.not_true, Bool.not_false, sLe_eq, Bool.and_eq_true, Bool.and_eq_false_iff, List.length_map, List.length_set, List.length_append, List.length_take, List.length_drop, List.length_replicate, List.length_cons, List.length_nil, lenMax, capMax, Int.toNat_natCast, gt_iff_lt, ge_iff_le] at *); (try simp (disch := omega) only [wr, wru, shr1, Int.tdiv_eq_ediv_of_nonneg] at *)); omega) | (((try simp only [decide_eq_true_eq, decide_eq_false_iff_not, cond_true, cond_false, beq_iff_eq, beq_eq_false_iff_ne, bne_iff_ne, bne_eq_false_iff_eq, ne_eq, Bool.not_eq_true', Bool.not_eq_false', Bool.not_eq_eq_eq_not, Bool.not_true, Bool.not_false, sLe_eq, Bool.and_eq_true, Bool.and_eq_false_iff, List.length_map, List.length_set, List.length_append, List.length_take, List.length_drop, List.length_replicate, List.length_cons, List.length_nil, lenMax, capMax, Int.toNat_natCast, gt_iff_lt, ge_iff_le] at *); (try simp (disch := omega) only [wr, wru, shr1, Int.tdiv_eq_ediv_of_nonneg] at *)); assumption))) (fun _ _ => ?_); conv => whnf)
    | (apply WpD.id; first
      | (refine WpD.loop (fun k : Nat => ⟨[(1, .v (strs z l)), (4, .ptr 0 0 0), (6, .v (.int .i64 k))], [.arr 2 (vrows [[.int .i64 0, .int .i64 0]])], []⟩) (fun k => k ≤ l.length ∧ l.length ≤ 1000 ∧ vfl tchk 0 none l = vfl tchk k (prevL l k) (l.drop k)) (fun k => l.length - k) ?_ (fun k hk => ?_))
      | (refine WpD.walk rfl ?_; conv => whnf))
  all_goals clear h1
  all_goals ((try simp only [decide_eq_true_eq, decide_eq_false_iff_not, cond_true, cond_false, beq_iff_eq, beq_eq_false_iff_ne, bne_iff_ne, bne_eq_false_iff_eq, ne_eq, Bool.not_eq_true', Bool.not_eq_false', Bool.not_eq_eq_eq_not, Bool.not_true, Bool.not_false, sLe_eq, Bool.and_eq_true, Bool.and_eq_false_iff, List.length_map, List.length_set, List.length_append, List.length_take, List.length_drop, List.length_replicate, List.length_cons, List.length_nil, lenMax, capMax, Int.toNat_natCast, gt_iff_lt, ge_iff_le] at *); (try simp (disch := omega) only [wr, wru, shr1, Int.tdiv_eq_ediv_of_nonneg] at *))
  all_goals try rcases hk with ⟨hk, h300, hi⟩
  all_goals try rename l[k]? = some _ => hx
  all_goals first
    | (have hne : wF w ≠ (0, 0) := by first | (intro e; rename _ ∨ _ => q; rw [e] at q; simp at q; done) | (intro e; rename ¬ (wF w).1 = 0 => q; rw [e] at q; exact q rfl)
       refine fvEq ?_
       rw [cF, if_pos hne])
    | (have he : wF w = (0, 0) := wF_0 (by first | assumption | (rename _ ∧ _ ∧ True => q; exact q.1))
       have hc : cF w l = tF l := by rw [cF, if_neg (by simpa using he)]
       rw [hc]
       first
       | (refine fvEq ?_
          rw [tF, if_pos (by omega)]
          done)
       | (refine ⟨0, [1], ⟨Nat.zero_le _, by omega, rfl⟩, ⟨by decide, rfl, ?_, ?_, rfl⟩⟩
          · (repeat' first | exact trivial | rfl | apply And.intro | (refine leInt rfl ?_; first | omega | (dsimp only; omega)) | (refine leArr rfl ?_ rfl; (simp; try omega)) | (refine leBool rfl ?_; assumption))
            done
          · (repeat' first | exact trivial | (refine obLe_v ?_; try dsimp only) | rfl | apply And.intro)
            done)
       | (refine fvEq ?_
          first
           | exact tF_at h300 (vfl_ret hi hx (tchk_n (by first | assumption | (unfold fitB; simp; omega))) (by decide)) (by decide)
           | exact tF_at h300 (vfl_ret hi hx (by rw [prevL_s ‹_› ‹_›]; exact tchk_o (by first | assumption | (unfold fitB; simp; omega)) ‹_›) (by decide)) (by decide))
       | (refine ⟨k + 1, [0], ⟨by omega, by omega, vfl_next hi hx ?_⟩, ⟨⟨by decide, rfl, ?_, ?_, rfl⟩, by omega⟩⟩
          · first
             | (rw [prevL_0 ‹_›]; exact tchk_0 (by first | assumption | (unfold fitB; simp; omega)))
             | (rw [prevL_s ‹_› ‹_›]; exact tchk_1 (by first | assumption | (unfold fitB; simp; omega)) ‹_›)
          · (repeat' first | exact trivial | rfl | apply And.intro | (refine leInt rfl ?_; first | omega | (dsimp only; omega)) | (refine leArr rfl ?_ rfl; (simp; try omega)) | (refine leBool rfl ?_; assumption))
            done
          · (repeat' first | exact trivial | (refine obLe_v ?_; try dsimp only) | rfl | apply And.intro)
            done)
       | (refine fvEq ?_
          exact tF_no h300 (vfl_end hi (by omega))))
    | (refine ⟨k + 1, [0], ⟨by omega, by omega, vfl_next hi hx ?_⟩, ⟨⟨by decide, rfl, ?_, ?_, rfl⟩, by omega⟩⟩
       · first
          | (rw [prevL_0 ‹_›]; exact tchk_0 (by first | assumption | (unfold fitB; simp; omega)))
          | (rw [prevL_s ‹_› ‹_›]; exact tchk_1 (by first | assumption | (unfold fitB; simp; omega)) ‹_›)
       · (repeat' first | exact trivial | rfl | apply And.intro | (refine leInt rfl ?_; first | omega | (dsimp only; omega)) | (refine leArr rfl ?_ rfl; (simp; try omega)) | (refine leBool rfl ?_; assumption))
         done
       · (repeat' first | exact trivial | (refine obLe_v ?_; try dsimp only) | rfl | apply And.intro)
         done)
    | (refine ⟨0, [1], ⟨Nat.zero_le _, by omega, rfl⟩, ⟨by decide, rfl, ?_, ?_, rfl⟩⟩
       · (repeat' first | exact trivial | rfl | apply And.intro | (refine leInt rfl ?_; first | omega | (dsimp only; omega)) | (refine leArr rfl ?_ rfl; (simp; try omega)) | (refine leBool rfl ?_; assumption))
         done
       · (repeat' first | exact trivial | (refine obLe_v ?_; try dsimp only) | rfl | apply And.intro)
         done)
    | skip
  all_goals trace_state
end Go.DL
