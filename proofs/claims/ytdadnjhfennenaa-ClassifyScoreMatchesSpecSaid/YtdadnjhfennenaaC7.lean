/- Classify: Forget fails. No condition. -/
import Derived.Test.YtdadnjhfennenaaC6
set_option linter.unusedVariables false
set_option linter.unusedSimpArgs false
set_option maxHeartbeats 4000000
namespace Go.DL
open Go.Proofs

theorem c_Forget_bad (w : Wd) (z : Bool) (l : List ByteArray) (junk : Bool) (h : lF w l junk 0 ≠ (0, 0)) : CallV tab 31 [.agg w.row, strs z l, .bool junk] (· = .tup [.agg w00.row, fv (lF w l junk 0)]) := by
  have h1 := c_check w z l
  cases junk
  · have h2 := c_of false
    refine callV_of Try.func31 rfl (Nat.le_of_ble_eq_true rfl) (by kernel_rfl) ?_
    repeat' first
      | (apply Br.id; first
      | (apply Br.tt; try conv => whnf)
      | (apply Br.ff; try conv => whnf)
      | (refine Br.of_t (by assumption) ?_; conv => whnf)
      | (refine Br.of_f (by assumption) ?_; conv => whnf)
      | (refine Br.mk (fun _ => ?_) (fun _ => ?_) <;> try conv => whnf))
      | (apply CallOp.id; first
      | (refine call_sel h2 rfl rfl rfl rfl ?_; conv => whnf)
      | (refine call_selD h2 rfl rfl rfl rfl ?_; conv => whnf)
      | (refine call_at rfl rfl rfl rfl rfl ?_)
      | (refine call_rd rfl rfl rfl rfl rfl ?_)
      | (refine CallOp.std ?_; (conv => whnf); fail_if_success refine (?_ : False)))
      | (apply CallDet.id; first
      | (refine call_sel h2 rfl rfl rfl rfl ?_; conv => whnf)
      | (refine call_selD h2 rfl rfl rfl rfl ?_; conv => whnf)
      | (refine call_atD rfl rfl rfl rfl rfl ?_)
      | (refine call_rdD rfl rfl rfl rfl rfl ?_)
      | (refine CallDet.std ?_; (conv => whnf); fail_if_success refine (?_ : False)))
      | (apply CallAt.id; first
      | (apply CallAt.mk1 (h1); conv => whnf))
      | (apply CallRd.id; first
      | (apply CallRd.mk1 (h1); (· rfl); conv => whnf))
      | (refine EndOk.mk (by kernel_rfl) ?_; conv => whnf)
      | (refine And.intro (by (first | decide | exact trivial | omega | exact Nat.le_refl _ | (((try simp only [decide_eq_true_eq, decide_eq_false_iff_not, cond_true, cond_false, beq_iff_eq, beq_eq_false_iff_ne, bne_iff_ne, bne_eq_false_iff_eq, ne_eq, Bool.not_eq_true', Bool.not_eq_false', Bool.not_eq_eq_eq_not, Bool.not_true, Bool.not_false, sLe_eq, Bool.and_eq_true, Bool.and_eq_false_iff, List.length_map, List.length_set, List.length_append, List.length_take, List.length_drop, List.length_replicate, List.length_cons, List.length_nil, lenMax, capMax, Int.toNat_natCast, gt_iff_lt, ge_iff_le] at *); (try simp (disch := omega) only [wr, wru, shr1, Int.tdiv_eq_ediv_of_nonneg] at *)); omega) | (((try simp only [decide_eq_true_eq, decide_eq_false_iff_not, cond_true, cond_false, beq_iff_eq, beq_eq_false_iff_ne, bne_iff_ne, bne_eq_false_iff_eq, ne_eq, Bool.not_eq_true', Bool.not_eq_false', Bool.not_eq_eq_eq_not, Bool.not_true, Bool.not_false, sLe_eq, Bool.and_eq_true, Bool.and_eq_false_iff, List.length_map, List.length_set, List.length_append, List.length_take, List.length_drop, List.length_replicate, List.length_cons, List.length_nil, lenMax, capMax, Int.toNat_natCast, gt_iff_lt, ge_iff_le] at *); (try simp (disch := omega) only [wr, wru, shr1, Int.tdiv_eq_ediv_of_nonneg] at *)); assumption))) ?_; conv => whnf)
      | (refine idxOld (by assumption) ?_; conv => whnf)
      | (refine idxMap (by (first | decide | exact trivial | omega | exact Nat.le_refl _ | (((try simp only [decide_eq_true_eq, decide_eq_false_iff_not, cond_true, cond_false, beq_iff_eq, beq_eq_false_iff_ne, bne_iff_ne, bne_eq_false_iff_eq, ne_eq, Bool.not_eq_true', Bool.not_eq_false', Bool.not_eq_eq_eq_not, Bool.not_true, Bool.not_false, sLe_eq, Bool.and_eq_true, Bool.and_eq_false_iff, List.length_map, List.length_set, List.length_append, List.length_take, List.length_drop, List.length_replicate, List.length_cons, List.length_nil, lenMax, capMax, Int.toNat_natCast, gt_iff_lt, ge_iff_le] at *); (try simp (disch := omega) only [wr, wru, shr1, Int.tdiv_eq_ediv_of_nonneg] at *)); omega) | (((try simp only [decide_eq_true_eq, decide_eq_false_iff_not, cond_true, cond_false, beq_iff_eq, beq_eq_false_iff_ne, bne_iff_ne, bne_eq_false_iff_eq, ne_eq, Bool.not_eq_true', Bool.not_eq_false', Bool.not_eq_eq_eq_not, Bool.not_true, Bool.not_false, sLe_eq, Bool.and_eq_true, Bool.and_eq_false_iff, List.length_map, List.length_set, List.length_append, List.length_take, List.length_drop, List.length_replicate, List.length_cons, List.length_nil, lenMax, capMax, Int.toNat_natCast, gt_iff_lt, ge_iff_le] at *); (try simp (disch := omega) only [wr, wru, shr1, Int.tdiv_eq_ediv_of_nonneg] at *)); assumption))) (fun _ _ => ?_); conv => whnf)
      | refine Exists.intro _ (And.intro (DV_toV rfl) ?_)
      | (refine rowSet (by (first | decide | exact trivial | omega | exact Nat.le_refl _ | (((try simp only [decide_eq_true_eq, decide_eq_false_iff_not, cond_true, cond_false, beq_iff_eq, beq_eq_false_iff_ne, bne_iff_ne, bne_eq_false_iff_eq, ne_eq, Bool.not_eq_true', Bool.not_eq_false', Bool.not_eq_eq_eq_not, Bool.not_true, Bool.not_false, sLe_eq, Bool.and_eq_true, Bool.and_eq_false_iff, List.length_map, List.length_set, List.length_append, List.length_take, List.length_drop, List.length_replicate, List.length_cons, List.length_nil, lenMax, capMax, Int.toNat_natCast, gt_iff_lt, ge_iff_le] at *); (try simp (disch := omega) only [wr, wru, shr1, Int.tdiv_eq_ediv_of_nonneg] at *)); omega) | (((try simp only [decide_eq_true_eq, decide_eq_false_iff_not, cond_true, cond_false, beq_iff_eq, beq_eq_false_iff_ne, bne_iff_ne, bne_eq_false_iff_eq, ne_eq, Bool.not_eq_true', Bool.not_eq_false', Bool.not_eq_eq_eq_not, Bool.not_true, Bool.not_false, sLe_eq, Bool.and_eq_true, Bool.and_eq_false_iff, List.length_map, List.length_set, List.length_append, List.length_take, List.length_drop, List.length_replicate, List.length_cons, List.length_nil, lenMax, capMax, Int.toNat_natCast, gt_iff_lt, ge_iff_le] at *); (try simp (disch := omega) only [wr, wru, shr1, Int.tdiv_eq_ediv_of_nonneg] at *)); assumption))) ?_; conv => whnf)
      | (refine rowOld (by assumption) ?_; conv => whnf)
      | (refine rowNew (by (first | decide | exact trivial | omega | exact Nat.le_refl _ | (((try simp only [decide_eq_true_eq, decide_eq_false_iff_not, cond_true, cond_false, beq_iff_eq, beq_eq_false_iff_ne, bne_iff_ne, bne_eq_false_iff_eq, ne_eq, Bool.not_eq_true', Bool.not_eq_false', Bool.not_eq_eq_eq_not, Bool.not_true, Bool.not_false, sLe_eq, Bool.and_eq_true, Bool.and_eq_false_iff, List.length_map, List.length_set, List.length_append, List.length_take, List.length_drop, List.length_replicate, List.length_cons, List.length_nil, lenMax, capMax, Int.toNat_natCast, gt_iff_lt, ge_iff_le] at *); (try simp (disch := omega) only [wr, wru, shr1, Int.tdiv_eq_ediv_of_nonneg] at *)); omega) | (((try simp only [decide_eq_true_eq, decide_eq_false_iff_not, cond_true, cond_false, beq_iff_eq, beq_eq_false_iff_ne, bne_iff_ne, bne_eq_false_iff_eq, ne_eq, Bool.not_eq_true', Bool.not_eq_false', Bool.not_eq_eq_eq_not, Bool.not_true, Bool.not_false, sLe_eq, Bool.and_eq_true, Bool.and_eq_false_iff, List.length_map, List.length_set, List.length_append, List.length_take, List.length_drop, List.length_replicate, List.length_cons, List.length_nil, lenMax, capMax, Int.toNat_natCast, gt_iff_lt, ge_iff_le] at *); (try simp (disch := omega) only [wr, wru, shr1, Int.tdiv_eq_ediv_of_nonneg] at *)); assumption))) (fun _ _ => ?_); conv => whnf)
      | (apply WpD.id; first
      | (refine WpD.walk rfl ?_; conv => whnf))
    all_goals clear h1 h2
    all_goals ((try simp only [decide_eq_true_eq, decide_eq_false_iff_not, cond_true, cond_false, beq_iff_eq, beq_eq_false_iff_ne, bne_iff_ne, bne_eq_false_iff_eq, ne_eq, Bool.not_eq_true', Bool.not_eq_false', Bool.not_eq_eq_eq_not, Bool.not_true, Bool.not_false, sLe_eq, Bool.and_eq_true, Bool.and_eq_false_iff, List.length_map, List.length_set, List.length_append, List.length_take, List.length_drop, List.length_replicate, List.length_cons, List.length_nil, lenMax, capMax, Int.toNat_natCast, gt_iff_lt, ge_iff_le] at *); (try simp (disch := omega) only [wr, wru, shr1, Int.tdiv_eq_ediv_of_nonneg] at *))
    all_goals first
      | (exfalso; rename _ ∨ _ => q; rename _ ∧ _ ∧ True => q'; rcases q with q | q | q <;> simp_all; done)
      | (have hne : cF w l ≠ (0, 0) := by intro e; rename _ ∨ _ => q; rw [e] at q; simp at q
         rw [lF, if_pos hne]; rfl)
      | (have he : cF w l = (0, 0) := by rename _ ∧ _ ∧ True => q; exact Prod.ext q.1 q.2.1
         have e : lF w l false 0 = (8, -4) := by rw [lF, if_neg (by simp [he]), if_pos (by simpa [cnt] using ‹_ = (0 : Int)›)]
         rw [e]; rfl)
      | (have he : cF w l = (0, 0) := by rename _ ∧ _ ∧ True => q; exact Prod.ext q.1 q.2.1
         exfalso; apply h
         rw [lF, if_neg (by simp [he]), if_neg (by simpa [cnt] using ‹¬ _ = (0 : Int)›)])
      | skip
    all_goals trace_state
  · have h2 := c_of true
    refine callV_of Try.func31 rfl (Nat.le_of_ble_eq_true rfl) (by kernel_rfl) ?_
    repeat' first
      | (apply Br.id; first
      | (apply Br.tt; try conv => whnf)
      | (apply Br.ff; try conv => whnf)
      | (refine Br.of_t (by assumption) ?_; conv => whnf)
      | (refine Br.of_f (by assumption) ?_; conv => whnf)
      | (refine Br.mk (fun _ => ?_) (fun _ => ?_) <;> try conv => whnf))
      | (apply CallOp.id; first
      | (refine call_sel h2 rfl rfl rfl rfl ?_; conv => whnf)
      | (refine call_selD h2 rfl rfl rfl rfl ?_; conv => whnf)
      | (refine call_at rfl rfl rfl rfl rfl ?_)
      | (refine call_rd rfl rfl rfl rfl rfl ?_)
      | (refine CallOp.std ?_; (conv => whnf); fail_if_success refine (?_ : False)))
      | (apply CallDet.id; first
      | (refine call_sel h2 rfl rfl rfl rfl ?_; conv => whnf)
      | (refine call_selD h2 rfl rfl rfl rfl ?_; conv => whnf)
      | (refine call_atD rfl rfl rfl rfl rfl ?_)
      | (refine call_rdD rfl rfl rfl rfl rfl ?_)
      | (refine CallDet.std ?_; (conv => whnf); fail_if_success refine (?_ : False)))
      | (apply CallAt.id; first
      | (apply CallAt.mk1 (h1); conv => whnf))
      | (apply CallRd.id; first
      | (apply CallRd.mk1 (h1); (· rfl); conv => whnf))
      | (refine EndOk.mk (by kernel_rfl) ?_; conv => whnf)
      | (refine And.intro (by (first | decide | exact trivial | omega | exact Nat.le_refl _ | (((try simp only [decide_eq_true_eq, decide_eq_false_iff_not, cond_true, cond_false, beq_iff_eq, beq_eq_false_iff_ne, bne_iff_ne, bne_eq_false_iff_eq, ne_eq, Bool.not_eq_true', Bool.not_eq_false', Bool.not_eq_eq_eq_not, Bool.not_true, Bool.not_false, sLe_eq, Bool.and_eq_true, Bool.and_eq_false_iff, List.length_map, List.length_set, List.length_append, List.length_take, List.length_drop, List.length_replicate, List.length_cons, List.length_nil, lenMax, capMax, Int.toNat_natCast, gt_iff_lt, ge_iff_le] at *); (try simp (disch := omega) only [wr, wru, shr1, Int.tdiv_eq_ediv_of_nonneg] at *)); omega) | (((try simp only [decide_eq_true_eq, decide_eq_false_iff_not, cond_true, cond_false, beq_iff_eq, beq_eq_false_iff_ne, bne_iff_ne, bne_eq_false_iff_eq, ne_eq, Bool.not_eq_true', Bool.not_eq_false', Bool.not_eq_eq_eq_not, Bool.not_true, Bool.not_false, sLe_eq, Bool.and_eq_true, Bool.and_eq_false_iff, List.length_map, List.length_set, List.length_append, List.length_take, List.length_drop, List.length_replicate, List.length_cons, List.length_nil, lenMax, capMax, Int.toNat_natCast, gt_iff_lt, ge_iff_le] at *); (try simp (disch := omega) only [wr, wru, shr1, Int.tdiv_eq_ediv_of_nonneg] at *)); assumption))) ?_; conv => whnf)
      | (refine idxOld (by assumption) ?_; conv => whnf)
      | (refine idxMap (by (first | decide | exact trivial | omega | exact Nat.le_refl _ | (((try simp only [decide_eq_true_eq, decide_eq_false_iff_not, cond_true, cond_false, beq_iff_eq, beq_eq_false_iff_ne, bne_iff_ne, bne_eq_false_iff_eq, ne_eq, Bool.not_eq_true', Bool.not_eq_false', Bool.not_eq_eq_eq_not, Bool.not_true, Bool.not_false, sLe_eq, Bool.and_eq_true, Bool.and_eq_false_iff, List.length_map, List.length_set, List.length_append, List.length_take, List.length_drop, List.length_replicate, List.length_cons, List.length_nil, lenMax, capMax, Int.toNat_natCast, gt_iff_lt, ge_iff_le] at *); (try simp (disch := omega) only [wr, wru, shr1, Int.tdiv_eq_ediv_of_nonneg] at *)); omega) | (((try simp only [decide_eq_true_eq, decide_eq_false_iff_not, cond_true, cond_false, beq_iff_eq, beq_eq_false_iff_ne, bne_iff_ne, bne_eq_false_iff_eq, ne_eq, Bool.not_eq_true', Bool.not_eq_false', Bool.not_eq_eq_eq_not, Bool.not_true, Bool.not_false, sLe_eq, Bool.and_eq_true, Bool.and_eq_false_iff, List.length_map, List.length_set, List.length_append, List.length_take, List.length_drop, List.length_replicate, List.length_cons, List.length_nil, lenMax, capMax, Int.toNat_natCast, gt_iff_lt, ge_iff_le] at *); (try simp (disch := omega) only [wr, wru, shr1, Int.tdiv_eq_ediv_of_nonneg] at *)); assumption))) (fun _ _ => ?_); conv => whnf)
      | refine Exists.intro _ (And.intro (DV_toV rfl) ?_)
      | (refine rowSet (by (first | decide | exact trivial | omega | exact Nat.le_refl _ | (((try simp only [decide_eq_true_eq, decide_eq_false_iff_not, cond_true, cond_false, beq_iff_eq, beq_eq_false_iff_ne, bne_iff_ne, bne_eq_false_iff_eq, ne_eq, Bool.not_eq_true', Bool.not_eq_false', Bool.not_eq_eq_eq_not, Bool.not_true, Bool.not_false, sLe_eq, Bool.and_eq_true, Bool.and_eq_false_iff, List.length_map, List.length_set, List.length_append, List.length_take, List.length_drop, List.length_replicate, List.length_cons, List.length_nil, lenMax, capMax, Int.toNat_natCast, gt_iff_lt, ge_iff_le] at *); (try simp (disch := omega) only [wr, wru, shr1, Int.tdiv_eq_ediv_of_nonneg] at *)); omega) | (((try simp only [decide_eq_true_eq, decide_eq_false_iff_not, cond_true, cond_false, beq_iff_eq, beq_eq_false_iff_ne, bne_iff_ne, bne_eq_false_iff_eq, ne_eq, Bool.not_eq_true', Bool.not_eq_false', Bool.not_eq_eq_eq_not, Bool.not_true, Bool.not_false, sLe_eq, Bool.and_eq_true, Bool.and_eq_false_iff, List.length_map, List.length_set, List.length_append, List.length_take, List.length_drop, List.length_replicate, List.length_cons, List.length_nil, lenMax, capMax, Int.toNat_natCast, gt_iff_lt, ge_iff_le] at *); (try simp (disch := omega) only [wr, wru, shr1, Int.tdiv_eq_ediv_of_nonneg] at *)); assumption))) ?_; conv => whnf)
      | (refine rowOld (by assumption) ?_; conv => whnf)
      | (refine rowNew (by (first | decide | exact trivial | omega | exact Nat.le_refl _ | (((try simp only [decide_eq_true_eq, decide_eq_false_iff_not, cond_true, cond_false, beq_iff_eq, beq_eq_false_iff_ne, bne_iff_ne, bne_eq_false_iff_eq, ne_eq, Bool.not_eq_true', Bool.not_eq_false', Bool.not_eq_eq_eq_not, Bool.not_true, Bool.not_false, sLe_eq, Bool.and_eq_true, Bool.and_eq_false_iff, List.length_map, List.length_set, List.length_append, List.length_take, List.length_drop, List.length_replicate, List.length_cons, List.length_nil, lenMax, capMax, Int.toNat_natCast, gt_iff_lt, ge_iff_le] at *); (try simp (disch := omega) only [wr, wru, shr1, Int.tdiv_eq_ediv_of_nonneg] at *)); omega) | (((try simp only [decide_eq_true_eq, decide_eq_false_iff_not, cond_true, cond_false, beq_iff_eq, beq_eq_false_iff_ne, bne_iff_ne, bne_eq_false_iff_eq, ne_eq, Bool.not_eq_true', Bool.not_eq_false', Bool.not_eq_eq_eq_not, Bool.not_true, Bool.not_false, sLe_eq, Bool.and_eq_true, Bool.and_eq_false_iff, List.length_map, List.length_set, List.length_append, List.length_take, List.length_drop, List.length_replicate, List.length_cons, List.length_nil, lenMax, capMax, Int.toNat_natCast, gt_iff_lt, ge_iff_le] at *); (try simp (disch := omega) only [wr, wru, shr1, Int.tdiv_eq_ediv_of_nonneg] at *)); assumption))) (fun _ _ => ?_); conv => whnf)
      | (apply WpD.id; first
      | (refine WpD.walk rfl ?_; conv => whnf))
    all_goals clear h1 h2
    all_goals ((try simp only [decide_eq_true_eq, decide_eq_false_iff_not, cond_true, cond_false, beq_iff_eq, beq_eq_false_iff_ne, bne_iff_ne, bne_eq_false_iff_eq, ne_eq, Bool.not_eq_true', Bool.not_eq_false', Bool.not_eq_eq_eq_not, Bool.not_true, Bool.not_false, sLe_eq, Bool.and_eq_true, Bool.and_eq_false_iff, List.length_map, List.length_set, List.length_append, List.length_take, List.length_drop, List.length_replicate, List.length_cons, List.length_nil, lenMax, capMax, Int.toNat_natCast, gt_iff_lt, ge_iff_le] at *); (try simp (disch := omega) only [wr, wru, shr1, Int.tdiv_eq_ediv_of_nonneg] at *))
    all_goals first
      | (exfalso; rename _ ∨ _ => q; rename _ ∧ _ ∧ True => q'; rcases q with q | q | q <;> simp_all; done)
      | (have hne : cF w l ≠ (0, 0) := by intro e; rename _ ∨ _ => q; rw [e] at q; simp at q
         rw [lF, if_pos hne]; rfl)
      | (have he : cF w l = (0, 0) := by rename _ ∧ _ ∧ True => q; exact Prod.ext q.1 q.2.1
         have e : lF w l true 0 = (8, -4) := by rw [lF, if_neg (by simp [he]), if_pos (by simpa [cnt] using ‹_ = (0 : Int)›)]
         rw [e]; rfl)
      | (have he : cF w l = (0, 0) := by rename _ ∧ _ ∧ True => q; exact Prod.ext q.1 q.2.1
         exfalso; apply h
         rw [lF, if_neg (by simp [he]), if_neg (by simpa [cnt] using ‹¬ _ = (0 : Int)›)])
      | skip
    all_goals trace_state
theorem c_Forget_nf_false (w : Wd) (z : Bool) (l : List ByteArray) (h : lF w l false 0 = (0, 0)) (k0 : Nat) (s0 : ByteArray) (hs00 : l[k0]? = some s0) (hno : ¬ hasN false (fgR w l false k0) s0) (hok : ∀ (k : Nat) s, k < k0 → l[k]? = some s → hasN false (fgR w l false k) s) : CallV tab 31 [.agg w.row, strs z l, .bool false] (· = .tup [.agg w00.row, fv (6, -10 - (k0 : Int))]) := by
  have h1 := c_check w z l
  obtain ⟨hc, hn⟩ := lF_ok h
  obtain ⟨how, htf⟩ := cF_ok hc
  have hg := how.g
  have hj := how.j
  have hll := tF_len htf
  have hwl := how.l
  rw [hc] at h1
  have h3 := c_CloneT w.z w.l (by omega)
  have h2 := c_of false
  have hok0 : okF w.l := ⟨how.s, by omega, fun x hx => by have := (how.t x hx).2; unfold tOk at this; omega⟩
  have hwr : ∀ n : Int, 0 ≤ n → n ≤ 1100000 → IntKind.i64.wrap (n - 1) = n - 1 := fun n a b => wr (by omega) (by omega)
  refine callV_of Try.func31 rfl (Nat.le_of_ble_eq_true rfl) (by kernel_rfl) ?_
  have d0 := beq_eq_false_iff_ne.2 hn
  dsimp only [cnt, Bool.false_eq_true, if_true, if_false] at d0
  repeat' first
    | (apply Br.id; first
      | (apply Br.tt; try conv => whnf)
      | (apply Br.ff; try conv => whnf)
      | (refine Br.of_t (by assumption) ?_; conv => whnf)
      | (refine Br.of_f (by assumption) ?_; conv => whnf)
      | (refine Br.mk (fun _ => ?_) (fun _ => ?_) <;> try conv => whnf))
    | (apply CallOp.id; first
      | (refine call_sel h2 rfl rfl rfl rfl ?_; conv => whnf)
      | (refine call_selD h2 rfl rfl rfl rfl ?_; conv => whnf)
      | (refine call_eat [] h3 rfl rfl rfl rfl rfl rfl (by decide) rfl (by decide) (fun i p h => by simp at h) (fun xs hxs => ?_); subst hxs; conv => whnf)
      | (refine call_eatD [] h3 rfl rfl rfl rfl rfl rfl (by decide) rfl (by decide) (fun i p h => by simp at h) ?_; conv => whnf)
      | (refine call_rdV hfind rfl rfl rfl rfl ⟨DV_arr rfl (by simp), rfl, trivial⟩ rfl ?_; conv => whnf)
      | (refine call_rdVD hfind rfl rfl rfl rfl ⟨DV_arr rfl (by simp), rfl, trivial⟩ rfl ?_; conv => whnf)
      | (refine call_eat [4] hdel rfl rfl rfl rfl rfl rfl (by decide) rfl (by decide) (fun i p h => ?_) (fun xs hxs => ?_); rotate_left; subst hxs; conv => whnf)
      | (refine call_eatD [4] hdel rfl rfl rfl rfl rfl rfl (by decide) rfl (by decide) (fun i p h => ?_) ?_; rotate_left; conv => whnf)
      | (refine call_rp hcon rfl rfl rfl rfl ⟨DP_arr rfl (by simp), ⟨rfl, ⟨_, _, _, _, rfl, rfl, rfl⟩, trivial⟩, trivial⟩ rfl ?_; conv => whnf)
      | (refine call_rpD hcon rfl rfl rfl rfl ⟨DP_arr rfl (by simp), ⟨rfl, ⟨_, _, _, _, rfl, rfl, rfl⟩, trivial⟩, trivial⟩ rfl ?_; conv => whnf)
      | (refine call_at rfl rfl rfl rfl rfl ?_)
      | (refine call_rd rfl rfl rfl rfl rfl ?_)
      | (refine CallOp.std ?_; (conv => whnf); fail_if_success refine (?_ : False)))
    | (apply CallDet.id; first
      | (refine call_sel h2 rfl rfl rfl rfl ?_; conv => whnf)
      | (refine call_selD h2 rfl rfl rfl rfl ?_; conv => whnf)
      | (refine call_eat [] h3 rfl rfl rfl rfl rfl rfl (by decide) rfl (by decide) (fun i p h => by simp at h) (fun xs hxs => ?_); subst hxs; conv => whnf)
      | (refine call_eatD [] h3 rfl rfl rfl rfl rfl rfl (by decide) rfl (by decide) (fun i p h => by simp at h) ?_; conv => whnf)
      | (refine call_rdV hfind rfl rfl rfl rfl ⟨DV_arr rfl (by simp), rfl, trivial⟩ rfl ?_; conv => whnf)
      | (refine call_rdVD hfind rfl rfl rfl rfl ⟨DV_arr rfl (by simp), rfl, trivial⟩ rfl ?_; conv => whnf)
      | (refine call_eat [4] hdel rfl rfl rfl rfl rfl rfl (by decide) rfl (by decide) (fun i p h => ?_) (fun xs hxs => ?_); rotate_left; subst hxs; conv => whnf)
      | (refine call_eatD [4] hdel rfl rfl rfl rfl rfl rfl (by decide) rfl (by decide) (fun i p h => ?_) ?_; rotate_left; conv => whnf)
      | (refine call_rp hcon rfl rfl rfl rfl ⟨DP_arr rfl (by simp), ⟨rfl, ⟨_, _, _, _, rfl, rfl, rfl⟩, trivial⟩, trivial⟩ rfl ?_; conv => whnf)
      | (refine call_rpD hcon rfl rfl rfl rfl ⟨DP_arr rfl (by simp), ⟨rfl, ⟨_, _, _, _, rfl, rfl, rfl⟩, trivial⟩, trivial⟩ rfl ?_; conv => whnf)
      | (refine call_atD rfl rfl rfl rfl rfl ?_)
      | (refine call_rdD rfl rfl rfl rfl rfl ?_)
      | (refine CallDet.std ?_; (conv => whnf); fail_if_success refine (?_ : False)))
    | (apply CallAt.id; first
      | (apply CallAt.mk1 (h1); conv => whnf))
    | (apply CallRd.id; first
      | (apply CallRd.mk1 (h1); (· rfl); conv => whnf))
    | (refine EndOk.mk (by kernel_rfl) ?_; conv => whnf)
    | (refine And.intro (by (first | decide | exact trivial | omega | exact Nat.le_refl _ | (((try simp only [decide_eq_true_eq, decide_eq_false_iff_not, cond_true, cond_false, beq_iff_eq, beq_eq_false_iff_ne, bne_iff_ne, bne_eq_false_iff_eq, ne_eq, Bool.not_eq_true', Bool.not_eq_false', Bool.not_eq_eq_eq_not, Bool.not_true, Bool.not_false, sLe_eq, Bool.and_eq_true, Bool.and_eq_false_iff, List.length_map, List.length_set, List.length_append, List.length_take, List.length_drop, List.length_replicate, List.length_cons, List.length_nil, lenMax, capMax, Int.toNat_natCast, gt_iff_lt, ge_iff_le] at *); (try simp (disch := omega) only [wr, wru, shr1, Int.tdiv_eq_ediv_of_nonneg] at *)); omega) | (((try simp only [decide_eq_true_eq, decide_eq_false_iff_not, cond_true, cond_false, beq_iff_eq, beq_eq_false_iff_ne, bne_iff_ne, bne_eq_false_iff_eq, ne_eq, Bool.not_eq_true', Bool.not_eq_false', Bool.not_eq_eq_eq_not, Bool.not_true, Bool.not_false, sLe_eq, Bool.and_eq_true, Bool.and_eq_false_iff, List.length_map, List.length_set, List.length_append, List.length_take, List.length_drop, List.length_replicate, List.length_cons, List.length_nil, lenMax, capMax, Int.toNat_natCast, gt_iff_lt, ge_iff_le] at *); (try simp (disch := omega) only [wr, wru, shr1, Int.tdiv_eq_ediv_of_nonneg] at *)); assumption))) ?_; conv => whnf)
    | (refine idxOld (by assumption) ?_; conv => whnf)
    | (refine idxMap (by (first | decide | exact trivial | omega | exact Nat.le_refl _ | (((try simp only [decide_eq_true_eq, decide_eq_false_iff_not, cond_true, cond_false, beq_iff_eq, beq_eq_false_iff_ne, bne_iff_ne, bne_eq_false_iff_eq, ne_eq, Bool.not_eq_true', Bool.not_eq_false', Bool.not_eq_eq_eq_not, Bool.not_true, Bool.not_false, sLe_eq, Bool.and_eq_true, Bool.and_eq_false_iff, List.length_map, List.length_set, List.length_append, List.length_take, List.length_drop, List.length_replicate, List.length_cons, List.length_nil, lenMax, capMax, Int.toNat_natCast, gt_iff_lt, ge_iff_le] at *); (try simp (disch := omega) only [wr, wru, shr1, Int.tdiv_eq_ediv_of_nonneg] at *)); omega) | (((try simp only [decide_eq_true_eq, decide_eq_false_iff_not, cond_true, cond_false, beq_iff_eq, beq_eq_false_iff_ne, bne_iff_ne, bne_eq_false_iff_eq, ne_eq, Bool.not_eq_true', Bool.not_eq_false', Bool.not_eq_eq_eq_not, Bool.not_true, Bool.not_false, sLe_eq, Bool.and_eq_true, Bool.and_eq_false_iff, List.length_map, List.length_set, List.length_append, List.length_take, List.length_drop, List.length_replicate, List.length_cons, List.length_nil, lenMax, capMax, Int.toNat_natCast, gt_iff_lt, ge_iff_le] at *); (try simp (disch := omega) only [wr, wru, shr1, Int.tdiv_eq_ediv_of_nonneg] at *)); assumption))) (fun _ _ => ?_); conv => whnf)
    | refine Exists.intro _ (And.intro (DV_toV rfl) ?_)
    | (refine rowSet (by (first | decide | exact trivial | omega | exact Nat.le_refl _ | (((try simp only [decide_eq_true_eq, decide_eq_false_iff_not, cond_true, cond_false, beq_iff_eq, beq_eq_false_iff_ne, bne_iff_ne, bne_eq_false_iff_eq, ne_eq, Bool.not_eq_true', Bool.not_eq_false', Bool.not_eq_eq_eq_not, Bool.not_true, Bool.not_false, sLe_eq, Bool.and_eq_true, Bool.and_eq_false_iff, List.length_map, List.length_set, List.length_append, List.length_take, List.length_drop, List.length_replicate, List.length_cons, List.length_nil, lenMax, capMax, Int.toNat_natCast, gt_iff_lt, ge_iff_le] at *); (try simp (disch := omega) only [wr, wru, shr1, Int.tdiv_eq_ediv_of_nonneg] at *)); omega) | (((try simp only [decide_eq_true_eq, decide_eq_false_iff_not, cond_true, cond_false, beq_iff_eq, beq_eq_false_iff_ne, bne_iff_ne, bne_eq_false_iff_eq, ne_eq, Bool.not_eq_true', Bool.not_eq_false', Bool.not_eq_eq_eq_not, Bool.not_true, Bool.not_false, sLe_eq, Bool.and_eq_true, Bool.and_eq_false_iff, List.length_map, List.length_set, List.length_append, List.length_take, List.length_drop, List.length_replicate, List.length_cons, List.length_nil, lenMax, capMax, Int.toNat_natCast, gt_iff_lt, ge_iff_le] at *); (try simp (disch := omega) only [wr, wru, shr1, Int.tdiv_eq_ediv_of_nonneg] at *)); assumption))) ?_; conv => whnf)
    | (refine rowOld (by assumption) ?_; conv => whnf)
    | (refine rowNew (by (first | decide | exact trivial | omega | exact Nat.le_refl _ | (((try simp only [decide_eq_true_eq, decide_eq_false_iff_not, cond_true, cond_false, beq_iff_eq, beq_eq_false_iff_ne, bne_iff_ne, bne_eq_false_iff_eq, ne_eq, Bool.not_eq_true', Bool.not_eq_false', Bool.not_eq_eq_eq_not, Bool.not_true, Bool.not_false, sLe_eq, Bool.and_eq_true, Bool.and_eq_false_iff, List.length_map, List.length_set, List.length_append, List.length_take, List.length_drop, List.length_replicate, List.length_cons, List.length_nil, lenMax, capMax, Int.toNat_natCast, gt_iff_lt, ge_iff_le] at *); (try simp (disch := omega) only [wr, wru, shr1, Int.tdiv_eq_ediv_of_nonneg] at *)); omega) | (((try simp only [decide_eq_true_eq, decide_eq_false_iff_not, cond_true, cond_false, beq_iff_eq, beq_eq_false_iff_ne, bne_iff_ne, bne_eq_false_iff_eq, ne_eq, Bool.not_eq_true', Bool.not_eq_false', Bool.not_eq_eq_eq_not, Bool.not_true, Bool.not_false, sLe_eq, Bool.and_eq_true, Bool.and_eq_false_iff, List.length_map, List.length_set, List.length_append, List.length_take, List.length_drop, List.length_replicate, List.length_cons, List.length_nil, lenMax, capMax, Int.toNat_natCast, gt_iff_lt, ge_iff_le] at *); (try simp (disch := omega) only [wr, wru, shr1, Int.tdiv_eq_ediv_of_nonneg] at *)); assumption))) (fun _ _ => ?_); conv => whnf)
    | (apply WpD.id; first
      | (refine WpD.loopAt 50 rfl (fun q : Nat × List Tk => fgS w z l false q.1 q.2) (fun q => q.1 ≤ k0 ∧ q.2 = fgR w l false q.1 ∧ okF q.2) (fun q => l.length - q.1) ?_ (fun ⟨k, R⟩ hq => ?_); rotate_left; dsimp only at hq; obtain ⟨hq1, hq2, hq3⟩ := hq; have hlt : k < l.length := Nat.lt_of_le_of_lt hq1 (lt_get hs00); (obtain ⟨s, hs⟩ : ∃ s, l[k]? = some s := ⟨_, List.getElem?_eq_getElem hlt⟩); (have hs0 : l[((k : Nat) : Int).toNat]? = some s := hs); (have dk : decide ((k : Int) < (l.length : Int)) = true := by { simp; omega }); (have hfind := c_find false R s ⟨by have := hq3.l; omega, hq3.s⟩); rcases Nat.lt_or_ge k k0 with hk0 | hk0; (have hN : hasN false R s := by { rw [hq2]; exact hok k s hk0 hs }); (obtain ⟨x, hgx, hxc⟩ := id hN); (obtain ⟨hh, hx, hxs, hile⟩ := find_of_get hq3.s hgx); (have d1 : (cnt false x.g x.j == 0) = false := by simpa using hxc); dsimp only [cnt, Bool.false_eq_true, if_true, if_false] at d1; (rw [hh] at hfind; have hx0 : R[0 + ((pT s R : Nat) : Int).toNat]? = some x := (by rw [Nat.zero_add, Int.toNat_natCast]; exact hx); have hx1 : R[((pT s R : Nat) : Int).toNat]? = some x := (by rw [Int.toNat_natCast]; exact hx); dsimp only [fgS]); rotate_left; (have hkk : k = k0 := Nat.le_antisymm hq1 hk0); (have hN : ¬ hasN false R s := by { rw [hkk] at hs hq2; rw [hs00] at hs; injection hs with hs; rw [hq2, ← hs]; exact hno }); rcases find_cases hq3.s s with ⟨hh, hile⟩ | ⟨x, hh, hx, hxs, hile⟩; rw [hh] at hfind; dsimp only [fgS]; rotate_left; (have d1 : (cnt false x.g x.j == 0) = true := by { have hg : gT s R = some x := (by have := getL_is sOrd hq3.s (List.mem_of_getElem? hx); rw [hxs] at this; exact this); simp only [beq_iff_eq]; exact Classical.byContradiction fun hc => hN ⟨x, hg, hc⟩ }); dsimp only [cnt, Bool.false_eq_true, if_true, if_false] at d1; (rw [hh] at hfind; have hx0 : R[0 + ((pT s R : Nat) : Int).toNat]? = some x := (by rw [Nat.zero_add, Int.toNat_natCast]; exact hx); have hx1 : R[((pT s R : Nat) : Int).toNat]? = some x := (by rw [Int.toNat_natCast]; exact hx); dsimp only [fgS]))
      | (refine WpD.walk rfl ?_; conv => whnf))
  all_goals clear h1 h2 h3
  all_goals try clear hfind
  all_goals try have hxb := hq3.b _ (List.mem_of_getElem? hx)
  all_goals ((try simp only [decide_eq_true_eq, decide_eq_false_iff_not, cond_true, cond_false, beq_iff_eq, beq_eq_false_iff_ne, bne_iff_ne, bne_eq_false_iff_eq, ne_eq, Bool.not_eq_true', Bool.not_eq_false', Bool.not_eq_eq_eq_not, Bool.not_true, Bool.not_false, sLe_eq, Bool.and_eq_true, Bool.and_eq_false_iff, List.length_map, List.length_set, List.length_append, List.length_take, List.length_drop, List.length_replicate, List.length_cons, List.length_nil, lenMax, capMax, Int.toNat_natCast, gt_iff_lt, ge_iff_le] at *); (try simp (disch := omega) only [wr, wru, shr1, Int.tdiv_eq_ediv_of_nonneg] at *))
  all_goals first
    | (rcases i with _ | i
       · simp at h; subst h
         exact obLe_v rfl
       · simp at h
       done)
    | (have w1 : IntKind.wrap .i64 (-10 - (k : Int)) = -10 - (k : Int) := wr (by omega) (by omega)
       rw [hkk] at w1
       first
       | (rw [hkk]; rw [w1]; rfl)
       | (rw [← hkk]; rfl)
       | (rw [hkk]; refine fvEq ?_; rw [w1]; done))
    | (refine ⟨(0, w.l), [0, 1, 2, 3, 4], ⟨Nat.zero_le _, rfl, hok0⟩, ⟨by decide, rfl, ?_, ?_, rfl⟩⟩
       · (repeat' first | exact trivial | rfl | apply And.intro | (refine leInt rfl ?_; first | omega | (dsimp only; omega)) | (refine leArr rfl ?_ rfl; (simp; try omega)) | (refine leBool rfl ?_; assumption))
         done
       · exact ⟨⟨rfl, rfl, rfl⟩, obLe_v rfl, obLe_v rfl, obLe_v rfl, obLe_v rfl, trivial⟩)
    | (have hl1 := fgt_at (junk := false) hq3.s hgx
       have hl2 : (fgt false R s).length = R.length := by rw [hl1]; simp
       refine ⟨(k + 1, fgt false R s), [0, 1, 2, 3, 4], ⟨by dsimp only; omega, by dsimp only; rw [fgR_next hs, ← hq2], okF_next hq3 hN⟩, ⟨⟨by decide, rfl, ?_, ?_, rfl⟩, by dsimp only; omega⟩⟩
       · (repeat' first | exact trivial | apply And.intro | (refine leInt rfl ?_; first | omega | (dsimp only; omega)) | rfl | (refine leArr rfl ?_ rfl; (simp; try omega)) | (refine leBool rfl ?_; assumption))
         done
       · refine ⟨⟨rfl, ?_, rfl⟩, obLe_v rfl, obLe_v rfl, obLe_v rfl, obLe_v ?_, trivial⟩
         · dsimp only; rw [hl2]; rfl
         · dsimp only; rw [hl1]; simp [vrows, List.map_set, Tk.row, upT]; try rfl)
    | skip
  all_goals trace_state
theorem c_Forget_nf_true (w : Wd) (z : Bool) (l : List ByteArray) (h : lF w l true 0 = (0, 0)) (k0 : Nat) (s0 : ByteArray) (hs00 : l[k0]? = some s0) (hno : ¬ hasN true (fgR w l true k0) s0) (hok : ∀ (k : Nat) s, k < k0 → l[k]? = some s → hasN true (fgR w l true k) s) : CallV tab 31 [.agg w.row, strs z l, .bool true] (· = .tup [.agg w00.row, fv (6, -10 - (k0 : Int))]) := by
  have h1 := c_check w z l
  obtain ⟨hc, hn⟩ := lF_ok h
  obtain ⟨how, htf⟩ := cF_ok hc
  have hg := how.g
  have hj := how.j
  have hll := tF_len htf
  have hwl := how.l
  rw [hc] at h1
  have h3 := c_CloneT w.z w.l (by omega)
  have h2 := c_of true
  have hok0 : okF w.l := ⟨how.s, by omega, fun x hx => by have := (how.t x hx).2; unfold tOk at this; omega⟩
  have hwr : ∀ n : Int, 0 ≤ n → n ≤ 1100000 → IntKind.i64.wrap (n - 1) = n - 1 := fun n a b => wr (by omega) (by omega)
  refine callV_of Try.func31 rfl (Nat.le_of_ble_eq_true rfl) (by kernel_rfl) ?_
  have d0 := beq_eq_false_iff_ne.2 hn
  dsimp only [cnt, Bool.false_eq_true, if_true, if_false] at d0
  repeat' first
    | (apply Br.id; first
      | (apply Br.tt; try conv => whnf)
      | (apply Br.ff; try conv => whnf)
      | (refine Br.of_t (by assumption) ?_; conv => whnf)
      | (refine Br.of_f (by assumption) ?_; conv => whnf)
      | (refine Br.mk (fun _ => ?_) (fun _ => ?_) <;> try conv => whnf))
    | (apply CallOp.id; first
      | (refine call_sel h2 rfl rfl rfl rfl ?_; conv => whnf)
      | (refine call_selD h2 rfl rfl rfl rfl ?_; conv => whnf)
      | (refine call_eat [] h3 rfl rfl rfl rfl rfl rfl (by decide) rfl (by decide) (fun i p h => by simp at h) (fun xs hxs => ?_); subst hxs; conv => whnf)
      | (refine call_eatD [] h3 rfl rfl rfl rfl rfl rfl (by decide) rfl (by decide) (fun i p h => by simp at h) ?_; conv => whnf)
      | (refine call_rdV hfind rfl rfl rfl rfl ⟨DV_arr rfl (by simp), rfl, trivial⟩ rfl ?_; conv => whnf)
      | (refine call_rdVD hfind rfl rfl rfl rfl ⟨DV_arr rfl (by simp), rfl, trivial⟩ rfl ?_; conv => whnf)
      | (refine call_eat [4] hdel rfl rfl rfl rfl rfl rfl (by decide) rfl (by decide) (fun i p h => ?_) (fun xs hxs => ?_); rotate_left; subst hxs; conv => whnf)
      | (refine call_eatD [4] hdel rfl rfl rfl rfl rfl rfl (by decide) rfl (by decide) (fun i p h => ?_) ?_; rotate_left; conv => whnf)
      | (refine call_rp hcon rfl rfl rfl rfl ⟨DP_arr rfl (by simp), ⟨rfl, ⟨_, _, _, _, rfl, rfl, rfl⟩, trivial⟩, trivial⟩ rfl ?_; conv => whnf)
      | (refine call_rpD hcon rfl rfl rfl rfl ⟨DP_arr rfl (by simp), ⟨rfl, ⟨_, _, _, _, rfl, rfl, rfl⟩, trivial⟩, trivial⟩ rfl ?_; conv => whnf)
      | (refine call_at rfl rfl rfl rfl rfl ?_)
      | (refine call_rd rfl rfl rfl rfl rfl ?_)
      | (refine CallOp.std ?_; (conv => whnf); fail_if_success refine (?_ : False)))
    | (apply CallDet.id; first
      | (refine call_sel h2 rfl rfl rfl rfl ?_; conv => whnf)
      | (refine call_selD h2 rfl rfl rfl rfl ?_; conv => whnf)
      | (refine call_eat [] h3 rfl rfl rfl rfl rfl rfl (by decide) rfl (by decide) (fun i p h => by simp at h) (fun xs hxs => ?_); subst hxs; conv => whnf)
      | (refine call_eatD [] h3 rfl rfl rfl rfl rfl rfl (by decide) rfl (by decide) (fun i p h => by simp at h) ?_; conv => whnf)
      | (refine call_rdV hfind rfl rfl rfl rfl ⟨DV_arr rfl (by simp), rfl, trivial⟩ rfl ?_; conv => whnf)
      | (refine call_rdVD hfind rfl rfl rfl rfl ⟨DV_arr rfl (by simp), rfl, trivial⟩ rfl ?_; conv => whnf)
      | (refine call_eat [4] hdel rfl rfl rfl rfl rfl rfl (by decide) rfl (by decide) (fun i p h => ?_) (fun xs hxs => ?_); rotate_left; subst hxs; conv => whnf)
      | (refine call_eatD [4] hdel rfl rfl rfl rfl rfl rfl (by decide) rfl (by decide) (fun i p h => ?_) ?_; rotate_left; conv => whnf)
      | (refine call_rp hcon rfl rfl rfl rfl ⟨DP_arr rfl (by simp), ⟨rfl, ⟨_, _, _, _, rfl, rfl, rfl⟩, trivial⟩, trivial⟩ rfl ?_; conv => whnf)
      | (refine call_rpD hcon rfl rfl rfl rfl ⟨DP_arr rfl (by simp), ⟨rfl, ⟨_, _, _, _, rfl, rfl, rfl⟩, trivial⟩, trivial⟩ rfl ?_; conv => whnf)
      | (refine call_atD rfl rfl rfl rfl rfl ?_)
      | (refine call_rdD rfl rfl rfl rfl rfl ?_)
      | (refine CallDet.std ?_; (conv => whnf); fail_if_success refine (?_ : False)))
    | (apply CallAt.id; first
      | (apply CallAt.mk1 (h1); conv => whnf))
    | (apply CallRd.id; first
      | (apply CallRd.mk1 (h1); (· rfl); conv => whnf))
    | (refine EndOk.mk (by kernel_rfl) ?_; conv => whnf)
    | (refine And.intro (by (first | decide | exact trivial | omega | exact Nat.le_refl _ | (((try simp only [decide_eq_true_eq, decide_eq_false_iff_not, cond_true, cond_false, beq_iff_eq, beq_eq_false_iff_ne, bne_iff_ne, bne_eq_false_iff_eq, ne_eq, Bool.not_eq_true', Bool.not_eq_false', Bool.not_eq_eq_eq_not, Bool.not_true, Bool.not_false, sLe_eq, Bool.and_eq_true, Bool.and_eq_false_iff, List.length_map, List.length_set, List.length_append, List.length_take, List.length_drop, List.length_replicate, List.length_cons, List.length_nil, lenMax, capMax, Int.toNat_natCast, gt_iff_lt, ge_iff_le] at *); (try simp (disch := omega) only [wr, wru, shr1, Int.tdiv_eq_ediv_of_nonneg] at *)); omega) | (((try simp only [decide_eq_true_eq, decide_eq_false_iff_not, cond_true, cond_false, beq_iff_eq, beq_eq_false_iff_ne, bne_iff_ne, bne_eq_false_iff_eq, ne_eq, Bool.not_eq_true', Bool.not_eq_false', Bool.not_eq_eq_eq_not, Bool.not_true, Bool.not_false, sLe_eq, Bool.and_eq_true, Bool.and_eq_false_iff, List.length_map, List.length_set, List.length_append, List.length_take, List.length_drop, List.length_replicate, List.length_cons, List.length_nil, lenMax, capMax, Int.toNat_natCast, gt_iff_lt, ge_iff_le] at *); (try simp (disch := omega) only [wr, wru, shr1, Int.tdiv_eq_ediv_of_nonneg] at *)); assumption))) ?_; conv => whnf)
    | (refine idxOld (by assumption) ?_; conv => whnf)
    | (refine idxMap (by (first | decide | exact trivial | omega | exact Nat.le_refl _ | (((try simp only [decide_eq_true_eq, decide_eq_false_iff_not, cond_true, cond_false, beq_iff_eq, beq_eq_false_iff_ne, bne_iff_ne, bne_eq_false_iff_eq, ne_eq, Bool.not_eq_true', Bool.not_eq_false', Bool.not_eq_eq_eq_not, Bool.not_true, Bool.not_false, sLe_eq, Bool.and_eq_true, Bool.and_eq_false_iff, List.length_map, List.length_set, List.length_append, List.length_take, List.length_drop, List.length_replicate, List.length_cons, List.length_nil, lenMax, capMax, Int.toNat_natCast, gt_iff_lt, ge_iff_le] at *); (try simp (disch := omega) only [wr, wru, shr1, Int.tdiv_eq_ediv_of_nonneg] at *)); omega) | (((try simp only [decide_eq_true_eq, decide_eq_false_iff_not, cond_true, cond_false, beq_iff_eq, beq_eq_false_iff_ne, bne_iff_ne, bne_eq_false_iff_eq, ne_eq, Bool.not_eq_true', Bool.not_eq_false', Bool.not_eq_eq_eq_not, Bool.not_true, Bool.not_false, sLe_eq, Bool.and_eq_true, Bool.and_eq_false_iff, List.length_map, List.length_set, List.length_append, List.length_take, List.length_drop, List.length_replicate, List.length_cons, List.length_nil, lenMax, capMax, Int.toNat_natCast, gt_iff_lt, ge_iff_le] at *); (try simp (disch := omega) only [wr, wru, shr1, Int.tdiv_eq_ediv_of_nonneg] at *)); assumption))) (fun _ _ => ?_); conv => whnf)
    | refine Exists.intro _ (And.intro (DV_toV rfl) ?_)
    | (refine rowSet (by (first | decide | exact trivial | omega | exact Nat.le_refl _ | (((try simp only [decide_eq_true_eq, decide_eq_false_iff_not, cond_true, cond_false, beq_iff_eq, beq_eq_false_iff_ne, bne_iff_ne, bne_eq_false_iff_eq, ne_eq, Bool.not_eq_true', Bool.not_eq_false', Bool.not_eq_eq_eq_not, Bool.not_true, Bool.not_false, sLe_eq, Bool.and_eq_true, Bool.and_eq_false_iff, List.length_map, List.length_set, List.length_append, List.length_take, List.length_drop, List.length_replicate, List.length_cons, List.length_nil, lenMax, capMax, Int.toNat_natCast, gt_iff_lt, ge_iff_le] at *); (try simp (disch := omega) only [wr, wru, shr1, Int.tdiv_eq_ediv_of_nonneg] at *)); omega) | (((try simp only [decide_eq_true_eq, decide_eq_false_iff_not, cond_true, cond_false, beq_iff_eq, beq_eq_false_iff_ne, bne_iff_ne, bne_eq_false_iff_eq, ne_eq, Bool.not_eq_true', Bool.not_eq_false', Bool.not_eq_eq_eq_not, Bool.not_true, Bool.not_false, sLe_eq, Bool.and_eq_true, Bool.and_eq_false_iff, List.length_map, List.length_set, List.length_append, List.length_take, List.length_drop, List.length_replicate, List.length_cons, List.length_nil, lenMax, capMax, Int.toNat_natCast, gt_iff_lt, ge_iff_le] at *); (try simp (disch := omega) only [wr, wru, shr1, Int.tdiv_eq_ediv_of_nonneg] at *)); assumption))) ?_; conv => whnf)
    | (refine rowOld (by assumption) ?_; conv => whnf)
    | (refine rowNew (by (first | decide | exact trivial | omega | exact Nat.le_refl _ | (((try simp only [decide_eq_true_eq, decide_eq_false_iff_not, cond_true, cond_false, beq_iff_eq, beq_eq_false_iff_ne, bne_iff_ne, bne_eq_false_iff_eq, ne_eq, Bool.not_eq_true', Bool.not_eq_false', Bool.not_eq_eq_eq_not, Bool.not_true, Bool.not_false, sLe_eq, Bool.and_eq_true, Bool.and_eq_false_iff, List.length_map, List.length_set, List.length_append, List.length_take, List.length_drop, List.length_replicate, List.length_cons, List.length_nil, lenMax, capMax, Int.toNat_natCast, gt_iff_lt, ge_iff_le] at *); (try simp (disch := omega) only [wr, wru, shr1, Int.tdiv_eq_ediv_of_nonneg] at *)); omega) | (((try simp only [decide_eq_true_eq, decide_eq_false_iff_not, cond_true, cond_false, beq_iff_eq, beq_eq_false_iff_ne, bne_iff_ne, bne_eq_false_iff_eq, ne_eq, Bool.not_eq_true', Bool.not_eq_false', Bool.not_eq_eq_eq_not, Bool.not_true, Bool.not_false, sLe_eq, Bool.and_eq_true, Bool.and_eq_false_iff, List.length_map, List.length_set, List.length_append, List.length_take, List.length_drop, List.length_replicate, List.length_cons, List.length_nil, lenMax, capMax, Int.toNat_natCast, gt_iff_lt, ge_iff_le] at *); (try simp (disch := omega) only [wr, wru, shr1, Int.tdiv_eq_ediv_of_nonneg] at *)); assumption))) (fun _ _ => ?_); conv => whnf)
    | (apply WpD.id; first
      | (refine WpD.loopAt 50 rfl (fun q : Nat × List Tk => fgS w z l true q.1 q.2) (fun q => q.1 ≤ k0 ∧ q.2 = fgR w l true q.1 ∧ okF q.2) (fun q => l.length - q.1) ?_ (fun ⟨k, R⟩ hq => ?_); rotate_left; dsimp only at hq; obtain ⟨hq1, hq2, hq3⟩ := hq; have hlt : k < l.length := Nat.lt_of_le_of_lt hq1 (lt_get hs00); (obtain ⟨s, hs⟩ : ∃ s, l[k]? = some s := ⟨_, List.getElem?_eq_getElem hlt⟩); (have hs0 : l[((k : Nat) : Int).toNat]? = some s := hs); (have dk : decide ((k : Int) < (l.length : Int)) = true := by { simp; omega }); (have hfind := c_find false R s ⟨by have := hq3.l; omega, hq3.s⟩); rcases Nat.lt_or_ge k k0 with hk0 | hk0; (have hN : hasN true R s := by { rw [hq2]; exact hok k s hk0 hs }); (obtain ⟨x, hgx, hxc⟩ := id hN); (obtain ⟨hh, hx, hxs, hile⟩ := find_of_get hq3.s hgx); (have d1 : (cnt true x.g x.j == 0) = false := by simpa using hxc); dsimp only [cnt, Bool.false_eq_true, if_true, if_false] at d1; (rw [hh] at hfind; have hx0 : R[0 + ((pT s R : Nat) : Int).toNat]? = some x := (by rw [Nat.zero_add, Int.toNat_natCast]; exact hx); have hx1 : R[((pT s R : Nat) : Int).toNat]? = some x := (by rw [Int.toNat_natCast]; exact hx); dsimp only [fgS]); rotate_left; (have hkk : k = k0 := Nat.le_antisymm hq1 hk0); (have hN : ¬ hasN true R s := by { rw [hkk] at hs hq2; rw [hs00] at hs; injection hs with hs; rw [hq2, ← hs]; exact hno }); rcases find_cases hq3.s s with ⟨hh, hile⟩ | ⟨x, hh, hx, hxs, hile⟩; rw [hh] at hfind; dsimp only [fgS]; rotate_left; (have d1 : (cnt true x.g x.j == 0) = true := by { have hg : gT s R = some x := (by have := getL_is sOrd hq3.s (List.mem_of_getElem? hx); rw [hxs] at this; exact this); simp only [beq_iff_eq]; exact Classical.byContradiction fun hc => hN ⟨x, hg, hc⟩ }); dsimp only [cnt, Bool.false_eq_true, if_true, if_false] at d1; (rw [hh] at hfind; have hx0 : R[0 + ((pT s R : Nat) : Int).toNat]? = some x := (by rw [Nat.zero_add, Int.toNat_natCast]; exact hx); have hx1 : R[((pT s R : Nat) : Int).toNat]? = some x := (by rw [Int.toNat_natCast]; exact hx); dsimp only [fgS]))
      | (refine WpD.walk rfl ?_; conv => whnf))
  all_goals clear h1 h2 h3
  all_goals try clear hfind
  all_goals try have hxb := hq3.b _ (List.mem_of_getElem? hx)
  all_goals ((try simp only [decide_eq_true_eq, decide_eq_false_iff_not, cond_true, cond_false, beq_iff_eq, beq_eq_false_iff_ne, bne_iff_ne, bne_eq_false_iff_eq, ne_eq, Bool.not_eq_true', Bool.not_eq_false', Bool.not_eq_eq_eq_not, Bool.not_true, Bool.not_false, sLe_eq, Bool.and_eq_true, Bool.and_eq_false_iff, List.length_map, List.length_set, List.length_append, List.length_take, List.length_drop, List.length_replicate, List.length_cons, List.length_nil, lenMax, capMax, Int.toNat_natCast, gt_iff_lt, ge_iff_le] at *); (try simp (disch := omega) only [wr, wru, shr1, Int.tdiv_eq_ediv_of_nonneg] at *))
  all_goals first
    | (rcases i with _ | i
       · simp at h; subst h
         exact obLe_v rfl
       · simp at h
       done)
    | (have w1 : IntKind.wrap .i64 (-10 - (k : Int)) = -10 - (k : Int) := wr (by omega) (by omega)
       rw [hkk] at w1
       first
       | (rw [hkk]; rw [w1]; rfl)
       | (rw [← hkk]; rfl)
       | (rw [hkk]; refine fvEq ?_; rw [w1]; done))
    | (refine ⟨(0, w.l), [0, 1, 2, 3, 4], ⟨Nat.zero_le _, rfl, hok0⟩, ⟨by decide, rfl, ?_, ?_, rfl⟩⟩
       · (repeat' first | exact trivial | rfl | apply And.intro | (refine leInt rfl ?_; first | omega | (dsimp only; omega)) | (refine leArr rfl ?_ rfl; (simp; try omega)) | (refine leBool rfl ?_; assumption))
         done
       · exact ⟨⟨rfl, rfl, rfl⟩, obLe_v rfl, obLe_v rfl, obLe_v rfl, obLe_v rfl, trivial⟩)
    | (have hl1 := fgt_at (junk := true) hq3.s hgx
       have hl2 : (fgt true R s).length = R.length := by rw [hl1]; simp
       refine ⟨(k + 1, fgt true R s), [0, 1, 2, 3, 4], ⟨by dsimp only; omega, by dsimp only; rw [fgR_next hs, ← hq2], okF_next hq3 hN⟩, ⟨⟨by decide, rfl, ?_, ?_, rfl⟩, by dsimp only; omega⟩⟩
       · (repeat' first | exact trivial | apply And.intro | (refine leInt rfl ?_; first | omega | (dsimp only; omega)) | rfl | (refine leArr rfl ?_ rfl; (simp; try omega)) | (refine leBool rfl ?_; assumption))
         done
       · refine ⟨⟨rfl, ?_, rfl⟩, obLe_v rfl, obLe_v rfl, obLe_v rfl, obLe_v ?_, trivial⟩
         · dsimp only; rw [hl2]; rfl
         · dsimp only; rw [hl1]; simp [vrows, List.map_set, Tk.row, upT]; try rfl)
    | skip
  all_goals trace_state
end Go.DL
