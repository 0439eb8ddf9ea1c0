/- Hosts: the law of reading what is written. No condition. -/
import Derived.Test.YtacpahgoomdfaaaDoorH22
import Derived.Test.YtacpahgoomdfaaaDoorH19
set_option linter.unusedVariables false
set_option linter.unusedSimpArgs false
set_option maxHeartbeats 4000000
namespace Go.DL
open Go.Proofs

theorem prA_0 {p : Pl} (h : (prA p).2.1 = 0) : pF p = (0, 0) ∧ ¬ 4000 < (pText p).size ∧ prA p = (pText p, (0, 0)) := by
  unfold prA at h ⊢
  split at h
  · rename_i h1
    exact absurd (pF_0 h) h1
  · rename_i h1
    rw [if_neg h1]
    split at h
    · simp at h
    · rename_i h2
      rw [if_neg h2]
      exact ⟨by simpa using h1, h2, rfl⟩
theorem c_law8 (p : Pl) (t : ByteArray) (hb : bP p) : CallV tab 8 [.agg p.row, .str t] (· = .bool true) := by
  have h1 := c_Print p
  have h3 := c_Parse t
  by_cases hs : (prA p).2.1 = 0
  · obtain ⟨q1, q2, e⟩ := prA_0 hs
    obtain ⟨_, hl, _⟩ := pF_all q1
    rw [e] at h1
    have h2 : CallV tab 9 [.str (pText p)] (· = plV (⟨p.d, false, p.l⟩, (0, 0))) := by have := c_Parse (pText p); rw [par_txt q1 q2] at this; exact this
    have h5 := c_SamePolicy p ⟨p.d, false, p.l⟩ (by omega)
    rw [show sameP p ⟨p.d, false, p.l⟩ = true by unfold sameP; simp] at h5
    generalize pText p = T at h1 h2
    by_cases ht : (parF t).2.1 = 0
    · have h4 := c_Print (parF t).1
      rw [print_par ht] at h4
      generalize parF t = A at h3 h4 ht
      obtain ⟨P, a, b⟩ := A
      have ht : a = 0 := ht
      subst ht
      have htt : decide (t = t) = true := by simp
      refine callV_of Tryd.func8 rfl (Nat.le_of_ble_eq_true rfl) (by kernel_rfl) ?_
      repeat' first
        | (apply Br.id; first
      | (apply Br.tt; try conv => whnf)
      | (apply Br.ff; try conv => whnf)
      | (refine Br.of_t (by assumption) ?_; conv => whnf)
      | (refine Br.of_f (by assumption) ?_; conv => whnf)
      | (refine Br.mk (fun _ => ?_) (fun _ => ?_) <;> try conv => whnf))
        | (apply CallOp.id; first
      | (refine call_at rfl rfl rfl rfl rfl ?_)
      | (refine call_rd rfl rfl rfl rfl rfl ?_)
      | (refine CallOp.std ?_; (conv => whnf); fail_if_success refine (?_ : False)))
        | (apply CallDet.id; first
      | (refine call_atD rfl rfl rfl rfl rfl ?_)
      | (refine call_rdD rfl rfl rfl rfl rfl ?_)
      | (refine CallDet.std ?_; (conv => whnf); fail_if_success refine (?_ : False)))
        | (apply CallAt.id; first
      | (apply CallAt.mk1 (h1); conv => whnf)
      | (apply CallAt.mk1 (h2); conv => whnf)
      | (apply CallAt.mk1 (h3); conv => whnf)
      | (apply CallAt.mk1 (h4); conv => whnf)
      | (apply CallAt.mk1 (h5); conv => whnf)
      | (apply CallAt.mk1 (c_hosted); conv => whnf))
        | (apply CallRd.id; first
      | (apply CallRd.mk1 (h1); (· rfl); conv => whnf)
      | (apply CallRd.mk1 (h2); (· rfl); conv => whnf)
      | (apply CallRd.mk1 (h3); (· rfl); conv => whnf)
      | (apply CallRd.mk1 (h4); (· rfl); conv => whnf)
      | (apply CallRd.mk1 (h5); (· rfl); conv => whnf)
      | (apply CallRd.mk1 (c_hosted); (· rfl); conv => whnf))
        | (refine EndOk.mk (by kernel_rfl) ?_; conv => whnf)
        | (refine And.intro (by (first | decide | exact trivial | omega | exact Nat.le_refl _ | (((try simp only [decide_eq_true_eq, decide_eq_false_iff_not, cond_true, cond_false, beq_iff_eq, beq_eq_false_iff_ne, bne_iff_ne, bne_eq_false_iff_eq, ne_eq, Bool.not_eq_true', Bool.not_eq_false', Bool.not_eq_eq_eq_not, Bool.not_true, Bool.not_false, sLe_eq, Bool.and_eq_true, Bool.and_eq_false_iff, List.length_map, List.length_set, List.length_append, List.length_take, List.length_drop, List.length_replicate, List.length_cons, List.length_nil, lenMax, capMax, Int.toNat_natCast, gt_iff_lt, ge_iff_le] at *); (try simp (disch := omega) only [wr, wru, shr1, Int.tdiv_eq_ediv_of_nonneg] at *)); omega) | (((try simp only [decide_eq_true_eq, decide_eq_false_iff_not, cond_true, cond_false, beq_iff_eq, beq_eq_false_iff_ne, bne_iff_ne, bne_eq_false_iff_eq, ne_eq, Bool.not_eq_true', Bool.not_eq_false', Bool.not_eq_eq_eq_not, Bool.not_true, Bool.not_false, sLe_eq, Bool.and_eq_true, Bool.and_eq_false_iff, List.length_map, List.length_set, List.length_append, List.length_take, List.length_drop, List.length_replicate, List.length_cons, List.length_nil, lenMax, capMax, Int.toNat_natCast, gt_iff_lt, ge_iff_le] at *); (try simp (disch := omega) only [wr, wru, shr1, Int.tdiv_eq_ediv_of_nonneg] at *)); assumption))) ?_; conv => whnf)
        | (refine idxOld (by assumption) ?_; conv => whnf)
        | (refine idxMap (by (first | decide | exact trivial | omega | exact Nat.le_refl _ | (((try simp only [decide_eq_true_eq, decide_eq_false_iff_not, cond_true, cond_false, beq_iff_eq, beq_eq_false_iff_ne, bne_iff_ne, bne_eq_false_iff_eq, ne_eq, Bool.not_eq_true', Bool.not_eq_false', Bool.not_eq_eq_eq_not, Bool.not_true, Bool.not_false, sLe_eq, Bool.and_eq_true, Bool.and_eq_false_iff, List.length_map, List.length_set, List.length_append, List.length_take, List.length_drop, List.length_replicate, List.length_cons, List.length_nil, lenMax, capMax, Int.toNat_natCast, gt_iff_lt, ge_iff_le] at *); (try simp (disch := omega) only [wr, wru, shr1, Int.tdiv_eq_ediv_of_nonneg] at *)); omega) | (((try simp only [decide_eq_true_eq, decide_eq_false_iff_not, cond_true, cond_false, beq_iff_eq, beq_eq_false_iff_ne, bne_iff_ne, bne_eq_false_iff_eq, ne_eq, Bool.not_eq_true', Bool.not_eq_false', Bool.not_eq_eq_eq_not, Bool.not_true, Bool.not_false, sLe_eq, Bool.and_eq_true, Bool.and_eq_false_iff, List.length_map, List.length_set, List.length_append, List.length_take, List.length_drop, List.length_replicate, List.length_cons, List.length_nil, lenMax, capMax, Int.toNat_natCast, gt_iff_lt, ge_iff_le] at *); (try simp (disch := omega) only [wr, wru, shr1, Int.tdiv_eq_ediv_of_nonneg] at *)); assumption))) (fun _ _ => ?_); conv => whnf)
        | refine Exists.intro _ (And.intro (DV_toV rfl) ?_)
        | (refine rowSet (by (first | decide | exact trivial | omega | exact Nat.le_refl _ | (((try simp only [decide_eq_true_eq, decide_eq_false_iff_not, cond_true, cond_false, beq_iff_eq, beq_eq_false_iff_ne, bne_iff_ne, bne_eq_false_iff_eq, ne_eq, Bool.not_eq_true', Bool.not_eq_false', Bool.not_eq_eq_eq_not, Bool.not_true, Bool.not_false, sLe_eq, Bool.and_eq_true, Bool.and_eq_false_iff, List.length_map, List.length_set, List.length_append, List.length_take, List.length_drop, List.length_replicate, List.length_cons, List.length_nil, lenMax, capMax, Int.toNat_natCast, gt_iff_lt, ge_iff_le] at *); (try simp (disch := omega) only [wr, wru, shr1, Int.tdiv_eq_ediv_of_nonneg] at *)); omega) | (((try simp only [decide_eq_true_eq, decide_eq_false_iff_not, cond_true, cond_false, beq_iff_eq, beq_eq_false_iff_ne, bne_iff_ne, bne_eq_false_iff_eq, ne_eq, Bool.not_eq_true', Bool.not_eq_false', Bool.not_eq_eq_eq_not, Bool.not_true, Bool.not_false, sLe_eq, Bool.and_eq_true, Bool.and_eq_false_iff, List.length_map, List.length_set, List.length_append, List.length_take, List.length_drop, List.length_replicate, List.length_cons, List.length_nil, lenMax, capMax, Int.toNat_natCast, gt_iff_lt, ge_iff_le] at *); (try simp (disch := omega) only [wr, wru, shr1, Int.tdiv_eq_ediv_of_nonneg] at *)); assumption))) ?_; conv => whnf)
        | (refine rowOld (by assumption) ?_; conv => whnf)
        | (refine rowNew (by (first | decide | exact trivial | omega | exact Nat.le_refl _ | (((try simp only [decide_eq_true_eq, decide_eq_false_iff_not, cond_true, cond_false, beq_iff_eq, beq_eq_false_iff_ne, bne_iff_ne, bne_eq_false_iff_eq, ne_eq, Bool.not_eq_true', Bool.not_eq_false', Bool.not_eq_eq_eq_not, Bool.not_true, Bool.not_false, sLe_eq, Bool.and_eq_true, Bool.and_eq_false_iff, List.length_map, List.length_set, List.length_append, List.length_take, List.length_drop, List.length_replicate, List.length_cons, List.length_nil, lenMax, capMax, Int.toNat_natCast, gt_iff_lt, ge_iff_le] at *); (try simp (disch := omega) only [wr, wru, shr1, Int.tdiv_eq_ediv_of_nonneg] at *)); omega) | (((try simp only [decide_eq_true_eq, decide_eq_false_iff_not, cond_true, cond_false, beq_iff_eq, beq_eq_false_iff_ne, bne_iff_ne, bne_eq_false_iff_eq, ne_eq, Bool.not_eq_true', Bool.not_eq_false', Bool.not_eq_eq_eq_not, Bool.not_true, Bool.not_false, sLe_eq, Bool.and_eq_true, Bool.and_eq_false_iff, List.length_map, List.length_set, List.length_append, List.length_take, List.length_drop, List.length_replicate, List.length_cons, List.length_nil, lenMax, capMax, Int.toNat_natCast, gt_iff_lt, ge_iff_le] at *); (try simp (disch := omega) only [wr, wru, shr1, Int.tdiv_eq_ediv_of_nonneg] at *)); assumption))) (fun _ _ => ?_); conv => whnf)
        | (apply WpD.id; first
      | (refine WpD.walk rfl ?_; conv => whnf))
      all_goals first | rfl | (exfalso; simp_all; done)
    · generalize parF t = A at h3 ht
      obtain ⟨P, a, b⟩ := A
      have ha : (a == 0) = false := by simpa using ht
      refine callV_of Tryd.func8 rfl (Nat.le_of_ble_eq_true rfl) (by kernel_rfl) ?_
      repeat' first
        | (apply Br.id; first
      | (apply Br.tt; try conv => whnf)
      | (apply Br.ff; try conv => whnf)
      | (refine Br.of_t (by assumption) ?_; conv => whnf)
      | (refine Br.of_f (by assumption) ?_; conv => whnf)
      | (refine Br.mk (fun _ => ?_) (fun _ => ?_) <;> try conv => whnf))
        | (apply CallOp.id; first
      | (refine call_at rfl rfl rfl rfl rfl ?_)
      | (refine call_rd rfl rfl rfl rfl rfl ?_)
      | (refine CallOp.std ?_; (conv => whnf); fail_if_success refine (?_ : False)))
        | (apply CallDet.id; first
      | (refine call_atD rfl rfl rfl rfl rfl ?_)
      | (refine call_rdD rfl rfl rfl rfl rfl ?_)
      | (refine CallDet.std ?_; (conv => whnf); fail_if_success refine (?_ : False)))
        | (apply CallAt.id; first
      | (apply CallAt.mk1 (h1); conv => whnf)
      | (apply CallAt.mk1 (h2); conv => whnf)
      | (apply CallAt.mk1 (h3); conv => whnf)
      | (apply CallAt.mk1 (h5); conv => whnf)
      | (apply CallAt.mk1 (c_hosted); conv => whnf))
        | (apply CallRd.id; first
      | (apply CallRd.mk1 (h1); (· rfl); conv => whnf)
      | (apply CallRd.mk1 (h2); (· rfl); conv => whnf)
      | (apply CallRd.mk1 (h3); (· rfl); conv => whnf)
      | (apply CallRd.mk1 (h5); (· rfl); conv => whnf)
      | (apply CallRd.mk1 (c_hosted); (· rfl); conv => whnf))
        | (refine EndOk.mk (by kernel_rfl) ?_; conv => whnf)
        | (refine And.intro (by (first | decide | exact trivial | omega | exact Nat.le_refl _ | (((try simp only [decide_eq_true_eq, decide_eq_false_iff_not, cond_true, cond_false, beq_iff_eq, beq_eq_false_iff_ne, bne_iff_ne, bne_eq_false_iff_eq, ne_eq, Bool.not_eq_true', Bool.not_eq_false', Bool.not_eq_eq_eq_not, Bool.not_true, Bool.not_false, sLe_eq, Bool.and_eq_true, Bool.and_eq_false_iff, List.length_map, List.length_set, List.length_append, List.length_take, List.length_drop, List.length_replicate, List.length_cons, List.length_nil, lenMax, capMax, Int.toNat_natCast, gt_iff_lt, ge_iff_le] at *); (try simp (disch := omega) only [wr, wru, shr1, Int.tdiv_eq_ediv_of_nonneg] at *)); omega) | (((try simp only [decide_eq_true_eq, decide_eq_false_iff_not, cond_true, cond_false, beq_iff_eq, beq_eq_false_iff_ne, bne_iff_ne, bne_eq_false_iff_eq, ne_eq, Bool.not_eq_true', Bool.not_eq_false', Bool.not_eq_eq_eq_not, Bool.not_true, Bool.not_false, sLe_eq, Bool.and_eq_true, Bool.and_eq_false_iff, List.length_map, List.length_set, List.length_append, List.length_take, List.length_drop, List.length_replicate, List.length_cons, List.length_nil, lenMax, capMax, Int.toNat_natCast, gt_iff_lt, ge_iff_le] at *); (try simp (disch := omega) only [wr, wru, shr1, Int.tdiv_eq_ediv_of_nonneg] at *)); assumption))) ?_; conv => whnf)
        | (refine idxOld (by assumption) ?_; conv => whnf)
        | (refine idxMap (by (first | decide | exact trivial | omega | exact Nat.le_refl _ | (((try simp only [decide_eq_true_eq, decide_eq_false_iff_not, cond_true, cond_false, beq_iff_eq, beq_eq_false_iff_ne, bne_iff_ne, bne_eq_false_iff_eq, ne_eq, Bool.not_eq_true', Bool.not_eq_false', Bool.not_eq_eq_eq_not, Bool.not_true, Bool.not_false, sLe_eq, Bool.and_eq_true, Bool.and_eq_false_iff, List.length_map, List.length_set, List.length_append, List.length_take, List.length_drop, List.length_replicate, List.length_cons, List.length_nil, lenMax, capMax, Int.toNat_natCast, gt_iff_lt, ge_iff_le] at *); (try simp (disch := omega) only [wr, wru, shr1, Int.tdiv_eq_ediv_of_nonneg] at *)); omega) | (((try simp only [decide_eq_true_eq, decide_eq_false_iff_not, cond_true, cond_false, beq_iff_eq, beq_eq_false_iff_ne, bne_iff_ne, bne_eq_false_iff_eq, ne_eq, Bool.not_eq_true', Bool.not_eq_false', Bool.not_eq_eq_eq_not, Bool.not_true, Bool.not_false, sLe_eq, Bool.and_eq_true, Bool.and_eq_false_iff, List.length_map, List.length_set, List.length_append, List.length_take, List.length_drop, List.length_replicate, List.length_cons, List.length_nil, lenMax, capMax, Int.toNat_natCast, gt_iff_lt, ge_iff_le] at *); (try simp (disch := omega) only [wr, wru, shr1, Int.tdiv_eq_ediv_of_nonneg] at *)); assumption))) (fun _ _ => ?_); conv => whnf)
        | refine Exists.intro _ (And.intro (DV_toV rfl) ?_)
        | (refine rowSet (by (first | decide | exact trivial | omega | exact Nat.le_refl _ | (((try simp only [decide_eq_true_eq, decide_eq_false_iff_not, cond_true, cond_false, beq_iff_eq, beq_eq_false_iff_ne, bne_iff_ne, bne_eq_false_iff_eq, ne_eq, Bool.not_eq_true', Bool.not_eq_false', Bool.not_eq_eq_eq_not, Bool.not_true, Bool.not_false, sLe_eq, Bool.and_eq_true, Bool.and_eq_false_iff, List.length_map, List.length_set, List.length_append, List.length_take, List.length_drop, List.length_replicate, List.length_cons, List.length_nil, lenMax, capMax, Int.toNat_natCast, gt_iff_lt, ge_iff_le] at *); (try simp (disch := omega) only [wr, wru, shr1, Int.tdiv_eq_ediv_of_nonneg] at *)); omega) | (((try simp only [decide_eq_true_eq, decide_eq_false_iff_not, cond_true, cond_false, beq_iff_eq, beq_eq_false_iff_ne, bne_iff_ne, bne_eq_false_iff_eq, ne_eq, Bool.not_eq_true', Bool.not_eq_false', Bool.not_eq_eq_eq_not, Bool.not_true, Bool.not_false, sLe_eq, Bool.and_eq_true, Bool.and_eq_false_iff, List.length_map, List.length_set, List.length_append, List.length_take, List.length_drop, List.length_replicate, List.length_cons, List.length_nil, lenMax, capMax, Int.toNat_natCast, gt_iff_lt, ge_iff_le] at *); (try simp (disch := omega) only [wr, wru, shr1, Int.tdiv_eq_ediv_of_nonneg] at *)); assumption))) ?_; conv => whnf)
        | (refine rowOld (by assumption) ?_; conv => whnf)
        | (refine rowNew (by (first | decide | exact trivial | omega | exact Nat.le_refl _ | (((try simp only [decide_eq_true_eq, decide_eq_false_iff_not, cond_true, cond_false, beq_iff_eq, beq_eq_false_iff_ne, bne_iff_ne, bne_eq_false_iff_eq, ne_eq, Bool.not_eq_true', Bool.not_eq_false', Bool.not_eq_eq_eq_not, Bool.not_true, Bool.not_false, sLe_eq, Bool.and_eq_true, Bool.and_eq_false_iff, List.length_map, List.length_set, List.length_append, List.length_take, List.length_drop, List.length_replicate, List.length_cons, List.length_nil, lenMax, capMax, Int.toNat_natCast, gt_iff_lt, ge_iff_le] at *); (try simp (disch := omega) only [wr, wru, shr1, Int.tdiv_eq_ediv_of_nonneg] at *)); omega) | (((try simp only [decide_eq_true_eq, decide_eq_false_iff_not, cond_true, cond_false, beq_iff_eq, beq_eq_false_iff_ne, bne_iff_ne, bne_eq_false_iff_eq, ne_eq, Bool.not_eq_true', Bool.not_eq_false', Bool.not_eq_eq_eq_not, Bool.not_true, Bool.not_false, sLe_eq, Bool.and_eq_true, Bool.and_eq_false_iff, List.length_map, List.length_set, List.length_append, List.length_take, List.length_drop, List.length_replicate, List.length_cons, List.length_nil, lenMax, capMax, Int.toNat_natCast, gt_iff_lt, ge_iff_le] at *); (try simp (disch := omega) only [wr, wru, shr1, Int.tdiv_eq_ediv_of_nonneg] at *)); assumption))) (fun _ _ => ?_); conv => whnf)
        | (apply WpD.id; first
      | (refine WpD.walk rfl ?_; conv => whnf))
      all_goals first | rfl | (exfalso; simp_all; done)
  · generalize prA p = B at h1 hs
    obtain ⟨S, c, d⟩ := B
    have hc : (c == 0) = false := by simpa using hs
    by_cases ht : (parF t).2.1 = 0
    · have h4 := c_Print (parF t).1
      rw [print_par ht] at h4
      generalize parF t = A at h3 h4 ht
      obtain ⟨P, a, b⟩ := A
      have ht : a = 0 := ht
      subst ht
      have htt : decide (t = t) = true := by simp
      refine callV_of Tryd.func8 rfl (Nat.le_of_ble_eq_true rfl) (by kernel_rfl) ?_
      repeat' first
        | (apply Br.id; first
      | (apply Br.tt; try conv => whnf)
      | (apply Br.ff; try conv => whnf)
      | (refine Br.of_t (by assumption) ?_; conv => whnf)
      | (refine Br.of_f (by assumption) ?_; conv => whnf)
      | (refine Br.mk (fun _ => ?_) (fun _ => ?_) <;> try conv => whnf))
        | (apply CallOp.id; first
      | (refine call_at rfl rfl rfl rfl rfl ?_)
      | (refine call_rd rfl rfl rfl rfl rfl ?_)
      | (refine CallOp.std ?_; (conv => whnf); fail_if_success refine (?_ : False)))
        | (apply CallDet.id; first
      | (refine call_atD rfl rfl rfl rfl rfl ?_)
      | (refine call_rdD rfl rfl rfl rfl rfl ?_)
      | (refine CallDet.std ?_; (conv => whnf); fail_if_success refine (?_ : False)))
        | (apply CallAt.id; first
      | (apply CallAt.mk1 (h1); conv => whnf)
      | (apply CallAt.mk1 (h3); conv => whnf)
      | (apply CallAt.mk1 (h4); conv => whnf)
      | (apply CallAt.mk1 (c_hosted); conv => whnf))
        | (apply CallRd.id; first
      | (apply CallRd.mk1 (h1); (· rfl); conv => whnf)
      | (apply CallRd.mk1 (h3); (· rfl); conv => whnf)
      | (apply CallRd.mk1 (h4); (· rfl); conv => whnf)
      | (apply CallRd.mk1 (c_hosted); (· rfl); conv => whnf))
        | (refine EndOk.mk (by kernel_rfl) ?_; conv => whnf)
        | (refine And.intro (by (first | decide | exact trivial | omega | exact Nat.le_refl _ | (((try simp only [decide_eq_true_eq, decide_eq_false_iff_not, cond_true, cond_false, beq_iff_eq, beq_eq_false_iff_ne, bne_iff_ne, bne_eq_false_iff_eq, ne_eq, Bool.not_eq_true', Bool.not_eq_false', Bool.not_eq_eq_eq_not, Bool.not_true, Bool.not_false, sLe_eq, Bool.and_eq_true, Bool.and_eq_false_iff, List.length_map, List.length_set, List.length_append, List.length_take, List.length_drop, List.length_replicate, List.length_cons, List.length_nil, lenMax, capMax, Int.toNat_natCast, gt_iff_lt, ge_iff_le] at *); (try simp (disch := omega) only [wr, wru, shr1, Int.tdiv_eq_ediv_of_nonneg] at *)); omega) | (((try simp only [decide_eq_true_eq, decide_eq_false_iff_not, cond_true, cond_false, beq_iff_eq, beq_eq_false_iff_ne, bne_iff_ne, bne_eq_false_iff_eq, ne_eq, Bool.not_eq_true', Bool.not_eq_false', Bool.not_eq_eq_eq_not, Bool.not_true, Bool.not_false, sLe_eq, Bool.and_eq_true, Bool.and_eq_false_iff, List.length_map, List.length_set, List.length_append, List.length_take, List.length_drop, List.length_replicate, List.length_cons, List.length_nil, lenMax, capMax, Int.toNat_natCast, gt_iff_lt, ge_iff_le] at *); (try simp (disch := omega) only [wr, wru, shr1, Int.tdiv_eq_ediv_of_nonneg] at *)); assumption))) ?_; conv => whnf)
        | (refine idxOld (by assumption) ?_; conv => whnf)
        | (refine idxMap (by (first | decide | exact trivial | omega | exact Nat.le_refl _ | (((try simp only [decide_eq_true_eq, decide_eq_false_iff_not, cond_true, cond_false, beq_iff_eq, beq_eq_false_iff_ne, bne_iff_ne, bne_eq_false_iff_eq, ne_eq, Bool.not_eq_true', Bool.not_eq_false', Bool.not_eq_eq_eq_not, Bool.not_true, Bool.not_false, sLe_eq, Bool.and_eq_true, Bool.and_eq_false_iff, List.length_map, List.length_set, List.length_append, List.length_take, List.length_drop, List.length_replicate, List.length_cons, List.length_nil, lenMax, capMax, Int.toNat_natCast, gt_iff_lt, ge_iff_le] at *); (try simp (disch := omega) only [wr, wru, shr1, Int.tdiv_eq_ediv_of_nonneg] at *)); omega) | (((try simp only [decide_eq_true_eq, decide_eq_false_iff_not, cond_true, cond_false, beq_iff_eq, beq_eq_false_iff_ne, bne_iff_ne, bne_eq_false_iff_eq, ne_eq, Bool.not_eq_true', Bool.not_eq_false', Bool.not_eq_eq_eq_not, Bool.not_true, Bool.not_false, sLe_eq, Bool.and_eq_true, Bool.and_eq_false_iff, List.length_map, List.length_set, List.length_append, List.length_take, List.length_drop, List.length_replicate, List.length_cons, List.length_nil, lenMax, capMax, Int.toNat_natCast, gt_iff_lt, ge_iff_le] at *); (try simp (disch := omega) only [wr, wru, shr1, Int.tdiv_eq_ediv_of_nonneg] at *)); assumption))) (fun _ _ => ?_); conv => whnf)
        | refine Exists.intro _ (And.intro (DV_toV rfl) ?_)
        | (refine rowSet (by (first | decide | exact trivial | omega | exact Nat.le_refl _ | (((try simp only [decide_eq_true_eq, decide_eq_false_iff_not, cond_true, cond_false, beq_iff_eq, beq_eq_false_iff_ne, bne_iff_ne, bne_eq_false_iff_eq, ne_eq, Bool.not_eq_true', Bool.not_eq_false', Bool.not_eq_eq_eq_not, Bool.not_true, Bool.not_false, sLe_eq, Bool.and_eq_true, Bool.and_eq_false_iff, List.length_map, List.length_set, List.length_append, List.length_take, List.length_drop, List.length_replicate, List.length_cons, List.length_nil, lenMax, capMax, Int.toNat_natCast, gt_iff_lt, ge_iff_le] at *); (try simp (disch := omega) only [wr, wru, shr1, Int.tdiv_eq_ediv_of_nonneg] at *)); omega) | (((try simp only [decide_eq_true_eq, decide_eq_false_iff_not, cond_true, cond_false, beq_iff_eq, beq_eq_false_iff_ne, bne_iff_ne, bne_eq_false_iff_eq, ne_eq, Bool.not_eq_true', Bool.not_eq_false', Bool.not_eq_eq_eq_not, Bool.not_true, Bool.not_false, sLe_eq, Bool.and_eq_true, Bool.and_eq_false_iff, List.length_map, List.length_set, List.length_append, List.length_take, List.length_drop, List.length_replicate, List.length_cons, List.length_nil, lenMax, capMax, Int.toNat_natCast, gt_iff_lt, ge_iff_le] at *); (try simp (disch := omega) only [wr, wru, shr1, Int.tdiv_eq_ediv_of_nonneg] at *)); assumption))) ?_; conv => whnf)
        | (refine rowOld (by assumption) ?_; conv => whnf)
        | (refine rowNew (by (first | decide | exact trivial | omega | exact Nat.le_refl _ | (((try simp only [decide_eq_true_eq, decide_eq_false_iff_not, cond_true, cond_false, beq_iff_eq, beq_eq_false_iff_ne, bne_iff_ne, bne_eq_false_iff_eq, ne_eq, Bool.not_eq_true', Bool.not_eq_false', Bool.not_eq_eq_eq_not, Bool.not_true, Bool.not_false, sLe_eq, Bool.and_eq_true, Bool.and_eq_false_iff, List.length_map, List.length_set, List.length_append, List.length_take, List.length_drop, List.length_replicate, List.length_cons, List.length_nil, lenMax, capMax, Int.toNat_natCast, gt_iff_lt, ge_iff_le] at *); (try simp (disch := omega) only [wr, wru, shr1, Int.tdiv_eq_ediv_of_nonneg] at *)); omega) | (((try simp only [decide_eq_true_eq, decide_eq_false_iff_not, cond_true, cond_false, beq_iff_eq, beq_eq_false_iff_ne, bne_iff_ne, bne_eq_false_iff_eq, ne_eq, Bool.not_eq_true', Bool.not_eq_false', Bool.not_eq_eq_eq_not, Bool.not_true, Bool.not_false, sLe_eq, Bool.and_eq_true, Bool.and_eq_false_iff, List.length_map, List.length_set, List.length_append, List.length_take, List.length_drop, List.length_replicate, List.length_cons, List.length_nil, lenMax, capMax, Int.toNat_natCast, gt_iff_lt, ge_iff_le] at *); (try simp (disch := omega) only [wr, wru, shr1, Int.tdiv_eq_ediv_of_nonneg] at *)); assumption))) (fun _ _ => ?_); conv => whnf)
        | (apply WpD.id; first
      | (refine WpD.walk rfl ?_; conv => whnf))
      all_goals first | rfl | (exfalso; simp_all; done)
    · generalize parF t = A at h3 ht
      obtain ⟨P, a, b⟩ := A
      have ha : (a == 0) = false := by simpa using ht
      refine callV_of Tryd.func8 rfl (Nat.le_of_ble_eq_true rfl) (by kernel_rfl) ?_
      repeat' first
        | (apply Br.id; first
      | (apply Br.tt; try conv => whnf)
      | (apply Br.ff; try conv => whnf)
      | (refine Br.of_t (by assumption) ?_; conv => whnf)
      | (refine Br.of_f (by assumption) ?_; conv => whnf)
      | (refine Br.mk (fun _ => ?_) (fun _ => ?_) <;> try conv => whnf))
        | (apply CallOp.id; first
      | (refine call_at rfl rfl rfl rfl rfl ?_)
      | (refine call_rd rfl rfl rfl rfl rfl ?_)
      | (refine CallOp.std ?_; (conv => whnf); fail_if_success refine (?_ : False)))
        | (apply CallDet.id; first
      | (refine call_atD rfl rfl rfl rfl rfl ?_)
      | (refine call_rdD rfl rfl rfl rfl rfl ?_)
      | (refine CallDet.std ?_; (conv => whnf); fail_if_success refine (?_ : False)))
        | (apply CallAt.id; first
      | (apply CallAt.mk1 (h1); conv => whnf)
      | (apply CallAt.mk1 (h3); conv => whnf)
      | (apply CallAt.mk1 (c_hosted); conv => whnf))
        | (apply CallRd.id; first
      | (apply CallRd.mk1 (h1); (· rfl); conv => whnf)
      | (apply CallRd.mk1 (h3); (· rfl); conv => whnf)
      | (apply CallRd.mk1 (c_hosted); (· rfl); conv => whnf))
        | (refine EndOk.mk (by kernel_rfl) ?_; conv => whnf)
        | (refine And.intro (by (first | decide | exact trivial | omega | exact Nat.le_refl _ | (((try simp only [decide_eq_true_eq, decide_eq_false_iff_not, cond_true, cond_false, beq_iff_eq, beq_eq_false_iff_ne, bne_iff_ne, bne_eq_false_iff_eq, ne_eq, Bool.not_eq_true', Bool.not_eq_false', Bool.not_eq_eq_eq_not, Bool.not_true, Bool.not_false, sLe_eq, Bool.and_eq_true, Bool.and_eq_false_iff, List.length_map, List.length_set, List.length_append, List.length_take, List.length_drop, List.length_replicate, List.length_cons, List.length_nil, lenMax, capMax, Int.toNat_natCast, gt_iff_lt, ge_iff_le] at *); (try simp (disch := omega) only [wr, wru, shr1, Int.tdiv_eq_ediv_of_nonneg] at *)); omega) | (((try simp only [decide_eq_true_eq, decide_eq_false_iff_not, cond_true, cond_false, beq_iff_eq, beq_eq_false_iff_ne, bne_iff_ne, bne_eq_false_iff_eq, ne_eq, Bool.not_eq_true', Bool.not_eq_false', Bool.not_eq_eq_eq_not, Bool.not_true, Bool.not_false, sLe_eq, Bool.and_eq_true, Bool.and_eq_false_iff, List.length_map, List.length_set, List.length_append, List.length_take, List.length_drop, List.length_replicate, List.length_cons, List.length_nil, lenMax, capMax, Int.toNat_natCast, gt_iff_lt, ge_iff_le] at *); (try simp (disch := omega) only [wr, wru, shr1, Int.tdiv_eq_ediv_of_nonneg] at *)); assumption))) ?_; conv => whnf)
        | (refine idxOld (by assumption) ?_; conv => whnf)
        | (refine idxMap (by (first | decide | exact trivial | omega | exact Nat.le_refl _ | (((try simp only [decide_eq_true_eq, decide_eq_false_iff_not, cond_true, cond_false, beq_iff_eq, beq_eq_false_iff_ne, bne_iff_ne, bne_eq_false_iff_eq, ne_eq, Bool.not_eq_true', Bool.not_eq_false', Bool.not_eq_eq_eq_not, Bool.not_true, Bool.not_false, sLe_eq, Bool.and_eq_true, Bool.and_eq_false_iff, List.length_map, List.length_set, List.length_append, List.length_take, List.length_drop, List.length_replicate, List.length_cons, List.length_nil, lenMax, capMax, Int.toNat_natCast, gt_iff_lt, ge_iff_le] at *); (try simp (disch := omega) only [wr, wru, shr1, Int.tdiv_eq_ediv_of_nonneg] at *)); omega) | (((try simp only [decide_eq_true_eq, decide_eq_false_iff_not, cond_true, cond_false, beq_iff_eq, beq_eq_false_iff_ne, bne_iff_ne, bne_eq_false_iff_eq, ne_eq, Bool.not_eq_true', Bool.not_eq_false', Bool.not_eq_eq_eq_not, Bool.not_true, Bool.not_false, sLe_eq, Bool.and_eq_true, Bool.and_eq_false_iff, List.length_map, List.length_set, List.length_append, List.length_take, List.length_drop, List.length_replicate, List.length_cons, List.length_nil, lenMax, capMax, Int.toNat_natCast, gt_iff_lt, ge_iff_le] at *); (try simp (disch := omega) only [wr, wru, shr1, Int.tdiv_eq_ediv_of_nonneg] at *)); assumption))) (fun _ _ => ?_); conv => whnf)
        | refine Exists.intro _ (And.intro (DV_toV rfl) ?_)
        | (refine rowSet (by (first | decide | exact trivial | omega | exact Nat.le_refl _ | (((try simp only [decide_eq_true_eq, decide_eq_false_iff_not, cond_true, cond_false, beq_iff_eq, beq_eq_false_iff_ne, bne_iff_ne, bne_eq_false_iff_eq, ne_eq, Bool.not_eq_true', Bool.not_eq_false', Bool.not_eq_eq_eq_not, Bool.not_true, Bool.not_false, sLe_eq, Bool.and_eq_true, Bool.and_eq_false_iff, List.length_map, List.length_set, List.length_append, List.length_take, List.length_drop, List.length_replicate, List.length_cons, List.length_nil, lenMax, capMax, Int.toNat_natCast, gt_iff_lt, ge_iff_le] at *); (try simp (disch := omega) only [wr, wru, shr1, Int.tdiv_eq_ediv_of_nonneg] at *)); omega) | (((try simp only [decide_eq_true_eq, decide_eq_false_iff_not, cond_true, cond_false, beq_iff_eq, beq_eq_false_iff_ne, bne_iff_ne, bne_eq_false_iff_eq, ne_eq, Bool.not_eq_true', Bool.not_eq_false', Bool.not_eq_eq_eq_not, Bool.not_true, Bool.not_false, sLe_eq, Bool.and_eq_true, Bool.and_eq_false_iff, List.length_map, List.length_set, List.length_append, List.length_take, List.length_drop, List.length_replicate, List.length_cons, List.length_nil, lenMax, capMax, Int.toNat_natCast, gt_iff_lt, ge_iff_le] at *); (try simp (disch := omega) only [wr, wru, shr1, Int.tdiv_eq_ediv_of_nonneg] at *)); assumption))) ?_; conv => whnf)
        | (refine rowOld (by assumption) ?_; conv => whnf)
        | (refine rowNew (by (first | decide | exact trivial | omega | exact Nat.le_refl _ | (((try simp only [decide_eq_true_eq, decide_eq_false_iff_not, cond_true, cond_false, beq_iff_eq, beq_eq_false_iff_ne, bne_iff_ne, bne_eq_false_iff_eq, ne_eq, Bool.not_eq_true', Bool.not_eq_false', Bool.not_eq_eq_eq_not, Bool.not_true, Bool.not_false, sLe_eq, Bool.and_eq_true, Bool.and_eq_false_iff, List.length_map, List.length_set, List.length_append, List.length_take, List.length_drop, List.length_replicate, List.length_cons, List.length_nil, lenMax, capMax, Int.toNat_natCast, gt_iff_lt, ge_iff_le] at *); (try simp (disch := omega) only [wr, wru, shr1, Int.tdiv_eq_ediv_of_nonneg] at *)); omega) | (((try simp only [decide_eq_true_eq, decide_eq_false_iff_not, cond_true, cond_false, beq_iff_eq, beq_eq_false_iff_ne, bne_iff_ne, bne_eq_false_iff_eq, ne_eq, Bool.not_eq_true', Bool.not_eq_false', Bool.not_eq_eq_eq_not, Bool.not_true, Bool.not_false, sLe_eq, Bool.and_eq_true, Bool.and_eq_false_iff, List.length_map, List.length_set, List.length_append, List.length_take, List.length_drop, List.length_replicate, List.length_cons, List.length_nil, lenMax, capMax, Int.toNat_natCast, gt_iff_lt, ge_iff_le] at *); (try simp (disch := omega) only [wr, wru, shr1, Int.tdiv_eq_ediv_of_nonneg] at *)); assumption))) (fun _ _ => ?_); conv => whnf)
        | (apply WpD.id; first
      | (refine WpD.walk rfl ?_; conv => whnf))
      all_goals first | rfl | (exfalso; simp_all; done)
theorem c_law8r (p : PlB) (t : ByteArray) : CallV tab 8 [.agg p.p.row, .str t] (· = .bool true) := c_law8 p.p t p.b
end Go.DL
