/- Verdict: the reference's Decided, SameReasons. No condition. -/
import Derived.Test.YtmeaagnamlilgaaDoorV5
import Derived.Test.YtmeaagnamlilgaaDoorDl24
set_option linter.unusedVariables false
set_option linter.unusedSimpArgs false
set_option maxHeartbeats 4000000
namespace Go.DL
open Go.Proofs

theorem c_SameReasons (z y : Bool) (l m : List Rn) (hl : l.length ≤ 1000000) : CallV tab 11 [rns z l, rns y m] (· = .bool (decide (l = m))) := by
  refine callV_of Tryd.func11 rfl (Nat.le_of_ble_eq_true rfl) (by kernel_rfl) ?_
  repeat' first
    | (apply Br.id; first
      | (apply Br.tt; try conv => whnf)
      | (apply Br.ff; try conv => whnf)
      | (refine Br.of_t (by assumption) ?_; conv => whnf)
      | (refine Br.of_f (by assumption) ?_; conv => whnf)
      | (refine Br.mk (fun _ => ?_) (fun _ => ?_) <;> try conv => whnf))
    | (apply CallOp.id; first
      | (refine call_at rfl rfl rfl rfl rfl ?_)
      | (refine call_rd rfl rfl rfl rfl rfl ?_)
      | (refine CallOp.std ?_; (conv => whnf); fail_if_success refine (?_ : False)))
    | (apply CallDet.id; first
      | (refine call_atD rfl rfl rfl rfl rfl ?_)
      | (refine call_rdD rfl rfl rfl rfl rfl ?_)
      | (refine CallDet.std ?_; (conv => whnf); fail_if_success refine (?_ : False)))
    | (refine EndOk.mk (by kernel_rfl) ?_; conv => whnf)
    | (refine And.intro (by (first | decide | exact trivial | omega | exact Nat.le_refl _ | (((try simp only [decide_eq_true_eq, decide_eq_false_iff_not, cond_true, cond_false, beq_iff_eq, beq_eq_false_iff_ne, bne_iff_ne, bne_eq_false_iff_eq, ne_eq, Bool.not_eq_true', Bool.not_eq_false', Bool.not_eq_eq_eq_not, Bool.not_true, Bool.not_false, sLe_eq, Bool.and_eq_true, Bool.and_eq_false_iff, List.length_map, List.length_set, List.length_append, List.length_take, List.length_drop, List.length_replicate, List.length_cons, List.length_nil, lenMax, capMax, Int.toNat_natCast, gt_iff_lt, ge_iff_le] at *); (try simp (disch := omega) only [wr, wru, shr1, Int.tdiv_eq_ediv_of_nonneg] at *)); omega) | (((try simp only [decide_eq_true_eq, decide_eq_false_iff_not, cond_true, cond_false, beq_iff_eq, beq_eq_false_iff_ne, bne_iff_ne, bne_eq_false_iff_eq, ne_eq, Bool.not_eq_true', Bool.not_eq_false', Bool.not_eq_eq_eq_not, Bool.not_true, Bool.not_false, sLe_eq, Bool.and_eq_true, Bool.and_eq_false_iff, List.length_map, List.length_set, List.length_append, List.length_take, List.length_drop, List.length_replicate, List.length_cons, List.length_nil, lenMax, capMax, Int.toNat_natCast, gt_iff_lt, ge_iff_le] at *); (try simp (disch := omega) only [wr, wru, shr1, Int.tdiv_eq_ediv_of_nonneg] at *)); assumption))) ?_; conv => whnf)
    | (refine idxOld (by assumption) ?_; conv => whnf)
    | (refine idxMap (by (first | decide | exact trivial | omega | exact Nat.le_refl _ | (((try simp only [decide_eq_true_eq, decide_eq_false_iff_not, cond_true, cond_false, beq_iff_eq, beq_eq_false_iff_ne, bne_iff_ne, bne_eq_false_iff_eq, ne_eq, Bool.not_eq_true', Bool.not_eq_false', Bool.not_eq_eq_eq_not, Bool.not_true, Bool.not_false, sLe_eq, Bool.and_eq_true, Bool.and_eq_false_iff, List.length_map, List.length_set, List.length_append, List.length_take, List.length_drop, List.length_replicate, List.length_cons, List.length_nil, lenMax, capMax, Int.toNat_natCast, gt_iff_lt, ge_iff_le] at *); (try simp (disch := omega) only [wr, wru, shr1, Int.tdiv_eq_ediv_of_nonneg] at *)); omega) | (((try simp only [decide_eq_true_eq, decide_eq_false_iff_not, cond_true, cond_false, beq_iff_eq, beq_eq_false_iff_ne, bne_iff_ne, bne_eq_false_iff_eq, ne_eq, Bool.not_eq_true', Bool.not_eq_false', Bool.not_eq_eq_eq_not, Bool.not_true, Bool.not_false, sLe_eq, Bool.and_eq_true, Bool.and_eq_false_iff, List.length_map, List.length_set, List.length_append, List.length_take, List.length_drop, List.length_replicate, List.length_cons, List.length_nil, lenMax, capMax, Int.toNat_natCast, gt_iff_lt, ge_iff_le] at *); (try simp (disch := omega) only [wr, wru, shr1, Int.tdiv_eq_ediv_of_nonneg] at *)); assumption))) (fun _ _ => ?_); conv => whnf)
    | refine Exists.intro _ (And.intro (DV_toV rfl) ?_)
    | (refine rowSet (by (first | decide | exact trivial | omega | exact Nat.le_refl _ | (((try simp only [decide_eq_true_eq, decide_eq_false_iff_not, cond_true, cond_false, beq_iff_eq, beq_eq_false_iff_ne, bne_iff_ne, bne_eq_false_iff_eq, ne_eq, Bool.not_eq_true', Bool.not_eq_false', Bool.not_eq_eq_eq_not, Bool.not_true, Bool.not_false, sLe_eq, Bool.and_eq_true, Bool.and_eq_false_iff, List.length_map, List.length_set, List.length_append, List.length_take, List.length_drop, List.length_replicate, List.length_cons, List.length_nil, lenMax, capMax, Int.toNat_natCast, gt_iff_lt, ge_iff_le] at *); (try simp (disch := omega) only [wr, wru, shr1, Int.tdiv_eq_ediv_of_nonneg] at *)); omega) | (((try simp only [decide_eq_true_eq, decide_eq_false_iff_not, cond_true, cond_false, beq_iff_eq, beq_eq_false_iff_ne, bne_iff_ne, bne_eq_false_iff_eq, ne_eq, Bool.not_eq_true', Bool.not_eq_false', Bool.not_eq_eq_eq_not, Bool.not_true, Bool.not_false, sLe_eq, Bool.and_eq_true, Bool.and_eq_false_iff, List.length_map, List.length_set, List.length_append, List.length_take, List.length_drop, List.length_replicate, List.length_cons, List.length_nil, lenMax, capMax, Int.toNat_natCast, gt_iff_lt, ge_iff_le] at *); (try simp (disch := omega) only [wr, wru, shr1, Int.tdiv_eq_ediv_of_nonneg] at *)); assumption))) ?_; conv => whnf)
    | (refine rowOld (by assumption) ?_; conv => whnf)
    | (refine rowNew (by (first | decide | exact trivial | omega | exact Nat.le_refl _ | (((try simp only [decide_eq_true_eq, decide_eq_false_iff_not, cond_true, cond_false, beq_iff_eq, beq_eq_false_iff_ne, bne_iff_ne, bne_eq_false_iff_eq, ne_eq, Bool.not_eq_true', Bool.not_eq_false', Bool.not_eq_eq_eq_not, Bool.not_true, Bool.not_false, sLe_eq, Bool.and_eq_true, Bool.and_eq_false_iff, List.length_map, List.length_set, List.length_append, List.length_take, List.length_drop, List.length_replicate, List.length_cons, List.length_nil, lenMax, capMax, Int.toNat_natCast, gt_iff_lt, ge_iff_le] at *); (try simp (disch := omega) only [wr, wru, shr1, Int.tdiv_eq_ediv_of_nonneg] at *)); omega) | (((try simp only [decide_eq_true_eq, decide_eq_false_iff_not, cond_true, cond_false, beq_iff_eq, beq_eq_false_iff_ne, bne_iff_ne, bne_eq_false_iff_eq, ne_eq, Bool.not_eq_true', Bool.not_eq_false', Bool.not_eq_eq_eq_not, Bool.not_true, Bool.not_false, sLe_eq, Bool.and_eq_true, Bool.and_eq_false_iff, List.length_map, List.length_set, List.length_append, List.length_take, List.length_drop, List.length_replicate, List.length_cons, List.length_nil, lenMax, capMax, Int.toNat_natCast, gt_iff_lt, ge_iff_le] at *); (try simp (disch := omega) only [wr, wru, shr1, Int.tdiv_eq_ediv_of_nonneg] at *)); assumption))) (fun _ _ => ?_); conv => whnf)
    | (apply WpD.id; first
      | (refine WpD.loop (fun k : Nat => ⟨[(0, .v (rns z l)), (1, .v (rns y m)), (5, .v (.int .i64 k))], [], []⟩) (fun k => k ≤ l.length ∧ m.length = l.length ∧ ∀ i : Nat, i < k → l[i]? = m[i]?) (fun k => l.length - k) ?_ (fun k hk => ?_))
      | (refine WpD.walk rfl ?_; conv => whnf))
  all_goals ((try simp only [decide_eq_true_eq, decide_eq_false_iff_not, cond_true, cond_false, beq_iff_eq, beq_eq_false_iff_ne, bne_iff_ne, bne_eq_false_iff_eq, ne_eq, Bool.not_eq_true', Bool.not_eq_false', Bool.not_eq_eq_eq_not, Bool.not_true, Bool.not_false, sLe_eq, Bool.and_eq_true, Bool.and_eq_false_iff, List.length_map, List.length_set, List.length_append, List.length_take, List.length_drop, List.length_replicate, List.length_cons, List.length_nil, lenMax, capMax, Int.toNat_natCast, gt_iff_lt, ge_iff_le] at *); (try simp (disch := omega) only [wr, wru, shr1, Int.tdiv_eq_ediv_of_nonneg] at *))
  · refine congrArg V.bool ?_
    have : l ≠ m := by rintro rfl; omega
    simp [this]
  · refine ⟨0, [], ⟨Nat.zero_le _, by omega, fun i hi => absurd hi (Nat.not_lt_zero i)⟩, ⟨by decide, rfl, ?_, trivial, rfl⟩⟩
    (repeat' first | exact trivial | rfl | apply And.intro | (refine leInt rfl ?_; first | omega | (dsimp only; omega)) | (refine leArr rfl ?_ rfl; (simp; try omega)) | (refine leBool rfl ?_; assumption))
  all_goals obtain ⟨hk, hm, hi⟩ := hk
  all_goals try rename l[k]? = some _ => hx
  all_goals try rename m[k]? = some _ => hy
  · rename_i h
    refine congrArg V.bool ?_
    have : l ≠ m := by
      rintro rfl
      rw [hx] at hy
      injection hy with hy; subst hy
      simp at h
    simp [this]
  · rename_i h
    refine ⟨k + 1, [], ⟨by omega, hm, fun i hi' => ?_⟩, ⟨⟨by decide, rfl, ?_, trivial, rfl⟩, by omega⟩⟩
    · by_cases hik : i = k
      · subst hik
        rw [hx, hy]; congr 1
        rename_i x y _ _
        cases x; cases y; simp_all
      · exact hi i (by omega)
    · (repeat' first | exact trivial | rfl | apply And.intro | (refine leInt rfl ?_; first | omega | (dsimp only; omega)) | (refine leArr rfl ?_ rfl; (simp; try omega)) | (refine leBool rfl ?_; assumption))
  · refine congrArg V.bool ?_
    have : l = m := by
      apply List.ext_getElem? 
      intro i
      by_cases hik : i < k
      · exact hi i hik
      · rw [List.getElem?_eq_none (by omega), List.getElem?_eq_none (by omega)]
    simp [this]
def DS (r : Rs) (q : Nat × Int × List Rn) : St := ⟨[(1, .ptr 0 0 0), (4, .arr 1 0 (ptsV r).length), (5, .arr 2 0 5), (6, .v (.int .i64 q.2.1)), (7, .arr 3 0 q.2.2.length), (8, .v (.int .i64 q.1))], [.arr 7 (vrows [r.row]), .arr 1 (vrows ((allR r).map fun x => [V.int .i64 x.p])), .arr 1 (vrows ((allR r).map fun x => [V.str x.a])), .arr 2 (vrows (q.2.2.map Rn.row))], []⟩
theorem c_Decided (r : Rs) (hh : 0 ≤ r.h ∧ r.h ≤ 5) (hl : r.s.length ≤ 60) (hp : -1000 ≤ r.p ∧ r.p ≤ 1000) (hj : 0 ≤ r.j ∧ r.j ≤ 1000) : CallV tab 10 [.agg r.row] (· = .tup [.int .i64 (decP r), rns false (outR r)]) := by
  have h1 := (c_Points r hh hl hp hj).agg1
  have hb := all_b hp hj
  refine callV_of Tryd.func10 rfl (Nat.le_of_ble_eq_true rfl) (by kernel_rfl) ?_
  have hal := all_len r
  have hpl : (ptsV r).length = 5 := rfl
  repeat' first
    | (apply Br.id; first
      | (apply Br.tt; try conv => whnf)
      | (apply Br.ff; try conv => whnf)
      | (refine Br.of_t (by assumption) ?_; conv => whnf)
      | (refine Br.of_f (by assumption) ?_; conv => whnf)
      | (refine Br.mk (fun _ => ?_) (fun _ => ?_) <;> try conv => whnf))
    | (apply CallOp.id; first
      | (refine call_eat [] h1 rfl rfl rfl rfl rfl rfl (by decide) rfl (by decide) (fun i p h => by simp at h) (fun xs hxs => ?_); subst hxs; conv => whnf)
      | (refine call_eatD [] h1 rfl rfl rfl rfl rfl rfl (by decide) rfl (by decide) (fun i p h => by simp at h) ?_; conv => whnf)
      | (refine call_at rfl rfl rfl rfl rfl ?_)
      | (refine call_rd rfl rfl rfl rfl rfl ?_)
      | (refine CallOp.std ?_; (conv => whnf); fail_if_success refine (?_ : False)))
    | (apply CallDet.id; first
      | (refine call_eat [] h1 rfl rfl rfl rfl rfl rfl (by decide) rfl (by decide) (fun i p h => by simp at h) (fun xs hxs => ?_); subst hxs; conv => whnf)
      | (refine call_eatD [] h1 rfl rfl rfl rfl rfl rfl (by decide) rfl (by decide) (fun i p h => by simp at h) ?_; conv => whnf)
      | (refine call_atD rfl rfl rfl rfl rfl ?_)
      | (refine call_rdD rfl rfl rfl rfl rfl ?_)
      | (refine CallDet.std ?_; (conv => whnf); fail_if_success refine (?_ : False)))
    | (refine EndOk.mk (by kernel_rfl) ?_; conv => whnf)
    | (refine And.intro (by (first | decide | exact trivial | omega | exact Nat.le_refl _ | (((try simp only [decide_eq_true_eq, decide_eq_false_iff_not, cond_true, cond_false, beq_iff_eq, beq_eq_false_iff_ne, bne_iff_ne, bne_eq_false_iff_eq, ne_eq, Bool.not_eq_true', Bool.not_eq_false', Bool.not_eq_eq_eq_not, Bool.not_true, Bool.not_false, sLe_eq, Bool.and_eq_true, Bool.and_eq_false_iff, List.length_map, List.length_set, List.length_append, List.length_take, List.length_drop, List.length_replicate, List.length_cons, List.length_nil, lenMax, capMax, Int.toNat_natCast, gt_iff_lt, ge_iff_le] at *); (try simp (disch := omega) only [wr, wru, shr1, Int.tdiv_eq_ediv_of_nonneg] at *)); omega) | (((try simp only [decide_eq_true_eq, decide_eq_false_iff_not, cond_true, cond_false, beq_iff_eq, beq_eq_false_iff_ne, bne_iff_ne, bne_eq_false_iff_eq, ne_eq, Bool.not_eq_true', Bool.not_eq_false', Bool.not_eq_eq_eq_not, Bool.not_true, Bool.not_false, sLe_eq, Bool.and_eq_true, Bool.and_eq_false_iff, List.length_map, List.length_set, List.length_append, List.length_take, List.length_drop, List.length_replicate, List.length_cons, List.length_nil, lenMax, capMax, Int.toNat_natCast, gt_iff_lt, ge_iff_le] at *); (try simp (disch := omega) only [wr, wru, shr1, Int.tdiv_eq_ediv_of_nonneg] at *)); assumption))) ?_; conv => whnf)
    | (refine idxOld (by assumption) ?_; conv => whnf)
    | (refine idxMap (by (first | decide | exact trivial | omega | exact Nat.le_refl _ | (((try simp only [decide_eq_true_eq, decide_eq_false_iff_not, cond_true, cond_false, beq_iff_eq, beq_eq_false_iff_ne, bne_iff_ne, bne_eq_false_iff_eq, ne_eq, Bool.not_eq_true', Bool.not_eq_false', Bool.not_eq_eq_eq_not, Bool.not_true, Bool.not_false, sLe_eq, Bool.and_eq_true, Bool.and_eq_false_iff, List.length_map, List.length_set, List.length_append, List.length_take, List.length_drop, List.length_replicate, List.length_cons, List.length_nil, lenMax, capMax, Int.toNat_natCast, gt_iff_lt, ge_iff_le] at *); (try simp (disch := omega) only [wr, wru, shr1, Int.tdiv_eq_ediv_of_nonneg] at *)); omega) | (((try simp only [decide_eq_true_eq, decide_eq_false_iff_not, cond_true, cond_false, beq_iff_eq, beq_eq_false_iff_ne, bne_iff_ne, bne_eq_false_iff_eq, ne_eq, Bool.not_eq_true', Bool.not_eq_false', Bool.not_eq_eq_eq_not, Bool.not_true, Bool.not_false, sLe_eq, Bool.and_eq_true, Bool.and_eq_false_iff, List.length_map, List.length_set, List.length_append, List.length_take, List.length_drop, List.length_replicate, List.length_cons, List.length_nil, lenMax, capMax, Int.toNat_natCast, gt_iff_lt, ge_iff_le] at *); (try simp (disch := omega) only [wr, wru, shr1, Int.tdiv_eq_ediv_of_nonneg] at *)); assumption))) (fun _ _ => ?_); conv => whnf)
    | refine Exists.intro _ (And.intro (DV_toV rfl) ?_)
    | (refine rowSet (by (first | decide | exact trivial | omega | exact Nat.le_refl _ | (((try simp only [decide_eq_true_eq, decide_eq_false_iff_not, cond_true, cond_false, beq_iff_eq, beq_eq_false_iff_ne, bne_iff_ne, bne_eq_false_iff_eq, ne_eq, Bool.not_eq_true', Bool.not_eq_false', Bool.not_eq_eq_eq_not, Bool.not_true, Bool.not_false, sLe_eq, Bool.and_eq_true, Bool.and_eq_false_iff, List.length_map, List.length_set, List.length_append, List.length_take, List.length_drop, List.length_replicate, List.length_cons, List.length_nil, lenMax, capMax, Int.toNat_natCast, gt_iff_lt, ge_iff_le] at *); (try simp (disch := omega) only [wr, wru, shr1, Int.tdiv_eq_ediv_of_nonneg] at *)); omega) | (((try simp only [decide_eq_true_eq, decide_eq_false_iff_not, cond_true, cond_false, beq_iff_eq, beq_eq_false_iff_ne, bne_iff_ne, bne_eq_false_iff_eq, ne_eq, Bool.not_eq_true', Bool.not_eq_false', Bool.not_eq_eq_eq_not, Bool.not_true, Bool.not_false, sLe_eq, Bool.and_eq_true, Bool.and_eq_false_iff, List.length_map, List.length_set, List.length_append, List.length_take, List.length_drop, List.length_replicate, List.length_cons, List.length_nil, lenMax, capMax, Int.toNat_natCast, gt_iff_lt, ge_iff_le] at *); (try simp (disch := omega) only [wr, wru, shr1, Int.tdiv_eq_ediv_of_nonneg] at *)); assumption))) ?_; conv => whnf)
    | (refine rowOld (by assumption) ?_; conv => whnf)
    | (refine rowNew (by (first | decide | exact trivial | omega | exact Nat.le_refl _ | (((try simp only [decide_eq_true_eq, decide_eq_false_iff_not, cond_true, cond_false, beq_iff_eq, beq_eq_false_iff_ne, bne_iff_ne, bne_eq_false_iff_eq, ne_eq, Bool.not_eq_true', Bool.not_eq_false', Bool.not_eq_eq_eq_not, Bool.not_true, Bool.not_false, sLe_eq, Bool.and_eq_true, Bool.and_eq_false_iff, List.length_map, List.length_set, List.length_append, List.length_take, List.length_drop, List.length_replicate, List.length_cons, List.length_nil, lenMax, capMax, Int.toNat_natCast, gt_iff_lt, ge_iff_le] at *); (try simp (disch := omega) only [wr, wru, shr1, Int.tdiv_eq_ediv_of_nonneg] at *)); omega) | (((try simp only [decide_eq_true_eq, decide_eq_false_iff_not, cond_true, cond_false, beq_iff_eq, beq_eq_false_iff_ne, bne_iff_ne, bne_eq_false_iff_eq, ne_eq, Bool.not_eq_true', Bool.not_eq_false', Bool.not_eq_eq_eq_not, Bool.not_true, Bool.not_false, sLe_eq, Bool.and_eq_true, Bool.and_eq_false_iff, List.length_map, List.length_set, List.length_append, List.length_take, List.length_drop, List.length_replicate, List.length_cons, List.length_nil, lenMax, capMax, Int.toNat_natCast, gt_iff_lt, ge_iff_le] at *); (try simp (disch := omega) only [wr, wru, shr1, Int.tdiv_eq_ediv_of_nonneg] at *)); assumption))) (fun _ _ => ?_); conv => whnf)
    | (apply WpD.id; first
      | (refine WpD.nil 7 2 3 rfl rfl rfl rfl ?_; refine WpD.loop (DS r) (fun q => q.1 ≤ 5 ∧ q.2.1 = sumP ((allR r).take q.1) ∧ -50 * (q.1 : Int) ≤ q.2.1 ∧ q.2.1 ≤ 50 * (q.1 : Int) ∧ q.2.2 = ((allR r).take q.1).filter (fun x => !z0 x)) (fun q => 5 - q.1) ?_ (fun ⟨k, s, o⟩ hq => ?_); rotate_left; dsimp only at hq; obtain ⟨hq1, hq2, hq3, hq4, hq5⟩ := hq; have hol : o.length ≤ 5 := (by rw [hq5]; exact Nat.le_trans (List.length_filter_le _ _) (Nat.le_trans (List.length_take_le _ _) hq1)); dsimp only [DS])
      | (refine WpD.walk rfl ?_; conv => whnf))
  all_goals clear h1
  all_goals ((try simp only [decide_eq_true_eq, decide_eq_false_iff_not, cond_true, cond_false, beq_iff_eq, beq_eq_false_iff_ne, bne_iff_ne, bne_eq_false_iff_eq, ne_eq, Bool.not_eq_true', Bool.not_eq_false', Bool.not_eq_eq_eq_not, Bool.not_true, Bool.not_false, sLe_eq, Bool.and_eq_true, Bool.and_eq_false_iff, List.length_map, List.length_set, List.length_append, List.length_take, List.length_drop, List.length_replicate, List.length_cons, List.length_nil, lenMax, capMax, Int.toNat_natCast, gt_iff_lt, ge_iff_le] at *); (try simp (disch := omega) only [wr, wru, shr1, Int.tdiv_eq_ediv_of_nonneg] at *))
  all_goals first
    | (rename Rn => x
       rename (allR r)[_]? = some _ => hx
       have hbx := hb _ (List.mem_of_getElem? hx)
       have hx' : (allR r)[k]? = some x := by simpa using hx
       have hs' : sumP ((allR r).take (k + 1)) = s + x.p := by rw [take_get hx', sumP, List.map_append, List.sum_append, ← sumP, ← hq2]; simp
       have hwr : IntKind.i64.wrap (s + x.p) = s + x.p := wr (by omega) (by omega)
       have hf : ((allR r).take (k + 1)).filter (fun x => !z0 x) = o ++ (if x.p = 0 then [] else [x]) := by
         rw [take_get hx', List.filter_append, ← hq5]
         by_cases hz : x.p = 0 <;> simp [z0, hz]
       try rw [hwr]
       first
       | (rename x.p = 0 => hz
          rw [if_pos hz] at hf
          refine ⟨(k + 1, s + x.p, o), [0, 1, 2, 3], ⟨by dsimp only; omega, hs'.symm, by dsimp only; omega, by dsimp only; omega, by dsimp only; rw [hf]; simp⟩, ⟨⟨by decide, rfl, ?_, ?_, rfl⟩, by dsimp only; omega⟩⟩
          · (repeat' first | exact trivial | apply And.intro | (refine leInt rfl ?_; first | omega | (dsimp only; omega)) | rfl | (refine leArr rfl ?_ rfl; (simp; try omega)) | (refine leBool rfl ?_; assumption))
            done
          · (repeat' first | exact trivial | (refine obLe_v ?_; try dsimp only) | rfl | apply And.intro)
            done)
       | (rename ¬ x.p = 0 => hz
          rw [if_neg hz] at hf
          refine ⟨(k + 1, s + x.p, o ++ [x]), [0, 1, 2, 5], ⟨by dsimp only; omega, hs'.symm, by dsimp only; omega, by dsimp only; omega, by dsimp only; rw [hf]⟩, ⟨⟨by decide, rfl, ?_, ?_, rfl⟩, by dsimp only; omega⟩⟩
          · (repeat' first | exact trivial | apply And.intro | (refine leInt rfl ?_; first | omega | (dsimp only; omega)) | rfl | (refine leArr rfl ?_ rfl; (simp; try omega)) | (refine leBool rfl ?_; assumption))
            all_goals (simp; done)
            done
          · (repeat' first | exact trivial | (refine obLe_v ?_; try dsimp only) | rfl | apply And.intro)
            all_goals (simp [vrows, Rn.row, List.take_of_length_le]; done)
            done))
    | (have hk5 : k = 5 := by omega
       subst hk5
       have hs : s = sumP (allR r) := by rw [hq2, List.take_of_length_le (by rw [all_len]; omega)]
       have ho : o = (allR r).filter (fun x => !z0 x) := by rw [hq5, List.take_of_length_le (by rw [all_len]; omega)]
       have hO : outR r = o ++ (if r.t then [] else [⟨sRate, 0⟩]) ++ (if r.g then [] else [⟨sGrey, 0⟩]) := by unfold outR; rw [← ho]
       have hdc : decP r = if 80 ≤ s then 4 else if r.t = false ∨ (r.g = false ∧ 0 < s) then 3 else if 40 ≤ s then 2 else 1 := by unfold decP; rw [← hs]
       clear ho hq5 hq2 hs hb hal hpl hol
       rw [hO, hdc]
       refine ⟨_, ?_, rfl⟩
       refine ⟨?_, ⟨rfl, _, rfl, ?_, ?_⟩, trivial⟩
       · refine congrArg (V.int .i64) ?_
         simp [*]; try omega
       · simp [*, Rn.row, List.take_append, List.take_of_length_le, vrows] <;> first | done | exact ⟨rfl, rfl⟩ | rfl
       · simp [*]; try omega
       done)
    | (refine ⟨(0, 0, []), [0, 1, 2, 3], ⟨by decide, rfl, by decide, by decide, rfl⟩, ⟨by decide, rfl, ?_, ?_, rfl⟩⟩
       · (repeat' first | exact trivial | rfl | apply And.intro | (refine leInt rfl ?_; first | omega | (dsimp only; omega)) | (refine leArr rfl ?_ rfl; (simp; try omega)) | (refine leBool rfl ?_; assumption))
         done
       · (repeat' first | exact trivial | (refine obLe_v ?_; try dsimp only) | rfl | apply And.intro)
         done)
    | skip
  all_goals trace_state
end Go.DL
