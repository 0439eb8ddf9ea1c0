import Derived.Test.YtdadnjhfennenaaB2
set_option linter.unusedVariables false
set_option linter.unusedSimpArgs false
set_option maxHeartbeats 4000000
namespace Go.DL
open Go.Proofs

theorem Sd.ext' {x y : Sd} (h1 : x.n = y.n) (h2 : x.g = y.g) (h3 : x.b = y.b) (h4 : x.d = y.d) : x = y := by
  cases x; cases y; simp at *; exact ⟨h1, h2, h3, h4⟩
theorem c_SendersFault (z : Bool) (l : List Sd) : CallV tab 15 [sds z l] (· = fv (sFault l)) := by
  refine callV_of Try.func15 rfl (Nat.le_of_ble_eq_true rfl) (by kernel_rfl) ?_
  repeat' first
    | (refine WpD.loop (fun k : Nat => ⟨[(0, .v (sds z l)), (2, .ptr 0 0 0), (3, .v (.int .i64 k))], [.arr 2 [[.v (.int .i64 0), .v (.int .i64 0)]]], []⟩) (fun k => k ≤ l.length ∧ l.length ≤ 300 ∧ flt 0 none l = flt k (prevOf l k) (l.drop k)) (fun k => l.length - k) ?_ (fun k hk => ?_))
    | (refine call_pure1 (c_In _ _ _) rfl rfl rfl rfl rfl ?_; conv => whnf)
    | (refine call_pureD (c_In _ _ _) rfl rfl rfl rfl rfl ?_; conv => whnf)
    | (refine call_pure1 (c_At _ _) rfl rfl rfl rfl rfl ?_; conv => whnf)
    | (refine call_pureD (c_At _ _) rfl rfl rfl rfl rfl ?_; conv => whnf)
    | (refine idxMap (by (first | decide | exact trivial | omega | exact Nat.le_refl _ | (((try simp only [decide_eq_true_eq, decide_eq_false_iff_not, cond_true, cond_false, beq_iff_eq, beq_eq_false_iff_ne, bne_iff_ne, bne_eq_false_iff_eq, ne_eq, Bool.not_eq_true', Bool.not_eq_false', Bool.not_eq_eq_eq_not, Bool.not_true, Bool.not_false, sLe_eq, Bool.and_eq_true, Bool.and_eq_false_iff, List.length_map, List.length_append, List.length_take, List.length_drop, List.length_replicate, List.length_cons, List.length_nil, lenMax, capMax, Int.toNat_natCast, gt_iff_lt, ge_iff_le] at *); (try simp (disch := omega) only [wr, wru, shr1, Int.tdiv_eq_ediv_of_nonneg] at *)); omega) | (((try simp only [decide_eq_true_eq, decide_eq_false_iff_not, cond_true, cond_false, beq_iff_eq, beq_eq_false_iff_ne, bne_iff_ne, bne_eq_false_iff_eq, ne_eq, Bool.not_eq_true', Bool.not_eq_false', Bool.not_eq_eq_eq_not, Bool.not_true, Bool.not_false, sLe_eq, Bool.and_eq_true, Bool.and_eq_false_iff, List.length_map, List.length_append, List.length_take, List.length_drop, List.length_replicate, List.length_cons, List.length_nil, lenMax, capMax, Int.toNat_natCast, gt_iff_lt, ge_iff_le] at *); (try simp (disch := omega) only [wr, wru, shr1, Int.tdiv_eq_ediv_of_nonneg] at *)); assumption))) (fun _ _ => ?_); conv => whnf)
    | refine WpD.seq ?_
    | (refine WpD.region ?_; conv => whnf)
    | (refine WpD.draw ?_; conv => whnf)
    | (refine EndOk.mk (by kernel_rfl) ?_; conv => whnf)
    | refine WpD.block ?_
    | (refine WpD.exit ?_; conv => whnf)
    | (refine WpD.skip ?_; conv => whnf)
    | (refine WpD.ret ?_; conv => whnf)
    | refine WpD.cond rfl ?_
    | (refine Br.tt ?_; try conv => whnf)
    | (refine Br.ff ?_; try conv => whnf)
    | (refine Br.of_t (by assumption) ?_; conv => whnf)
    | (refine Br.of_f (by assumption) ?_; conv => whnf)
    | (refine Br.mk (fun _ => ?_) (fun _ => ?_) <;> try conv => whnf)
    | refine Exists.intro _ (And.intro (DV_toV rfl) ?_)
    | (refine CallOp.std ?_; (conv => whnf); fail_if_success refine (?_ : False))
    | (refine CallDet.std ?_; (conv => whnf); fail_if_success refine (?_ : False))
    | (refine And.intro (by (first | decide | exact trivial | omega | exact Nat.le_refl _ | (((try simp only [decide_eq_true_eq, decide_eq_false_iff_not, cond_true, cond_false, beq_iff_eq, beq_eq_false_iff_ne, bne_iff_ne, bne_eq_false_iff_eq, ne_eq, Bool.not_eq_true', Bool.not_eq_false', Bool.not_eq_eq_eq_not, Bool.not_true, Bool.not_false, sLe_eq, Bool.and_eq_true, Bool.and_eq_false_iff, List.length_map, List.length_append, List.length_take, List.length_drop, List.length_replicate, List.length_cons, List.length_nil, lenMax, capMax, Int.toNat_natCast, gt_iff_lt, ge_iff_le] at *); (try simp (disch := omega) only [wr, wru, shr1, Int.tdiv_eq_ediv_of_nonneg] at *)); omega) | (((try simp only [decide_eq_true_eq, decide_eq_false_iff_not, cond_true, cond_false, beq_iff_eq, beq_eq_false_iff_ne, bne_iff_ne, bne_eq_false_iff_eq, ne_eq, Bool.not_eq_true', Bool.not_eq_false', Bool.not_eq_eq_eq_not, Bool.not_true, Bool.not_false, sLe_eq, Bool.and_eq_true, Bool.and_eq_false_iff, List.length_map, List.length_append, List.length_take, List.length_drop, List.length_replicate, List.length_cons, List.length_nil, lenMax, capMax, Int.toNat_natCast, gt_iff_lt, ge_iff_le] at *); (try simp (disch := omega) only [wr, wru, shr1, Int.tdiv_eq_ediv_of_nonneg] at *)); assumption))) ?_; conv => whnf)
  all_goals ((try simp only [decide_eq_true_eq, decide_eq_false_iff_not, cond_true, cond_false, beq_iff_eq, beq_eq_false_iff_ne, bne_iff_ne, bne_eq_false_iff_eq, ne_eq, Bool.not_eq_true', Bool.not_eq_false', Bool.not_eq_eq_eq_not, Bool.not_true, Bool.not_false, sLe_eq, Bool.and_eq_true, Bool.and_eq_false_iff, List.length_map, List.length_append, List.length_take, List.length_drop, List.length_replicate, List.length_cons, List.length_nil, lenMax, capMax, Int.toNat_natCast, gt_iff_lt, ge_iff_le] at *); (try simp (disch := omega) only [wr, wru, shr1, Int.tdiv_eq_ediv_of_nonneg] at *))
  · refine fvEq ?_; rw [sFault, if_pos (by omega)]
  · refine ⟨0, [0], ⟨Nat.zero_le _, by omega, rfl⟩, ⟨by decide, rfl, ?_, ?_, rfl⟩⟩
    (repeat' first | exact trivial | rfl | apply And.intro | (refine leInt rfl ?_; first | omega | (dsimp only; omega)) | (refine leArr rfl ?_ rfl; (simp; try omega)) | (refine leBool rfl ?_; assumption))
    (repeat' first | exact trivial | rfl | apply And.intro | (refine leInt rfl ?_; first | omega | (dsimp only; omega)) | (refine leArr rfl ?_ rfl; (simp; try omega)) | (refine leBool rfl ?_; assumption))
  all_goals try rcases hk with ⟨hk, h300, hi⟩
  all_goals try rename l[k]? = some _ => hx
  all_goals try rw [drop_get hx] at hi
  all_goals first
    | (refine fvEq ?_
       rw [sFault, if_neg (by omega), hi]
       simp only [flt]
       repeat first | rw [if_pos (by simp only [nOk, rOk]; omega)] | rw [if_neg (by simp only [nOk, rOk]; omega)]
       done)
    | (refine fvEq ?_
       rw [sFault, if_neg (by omega), hi]
       simp only [flt]
       repeat first | rw [if_pos (by simp only [nOk, rOk]; omega)] | rw [if_neg (by simp only [nOk, rOk]; omega)]
       rw [if_pos (oOk_t ‹_› ‹_› ‹_›)]
       done)
    | (refine ⟨k + 1, [0], ⟨by omega, by omega, ?_⟩, ⟨⟨by decide, rfl, ?_, ?_, rfl⟩, by omega⟩⟩
       · rw [hi]
         simp only [flt]
         repeat first | rw [if_pos (by simp only [nOk, rOk]; omega)] | rw [if_neg (by simp only [nOk, rOk]; omega)]
         rw [prev_succ hx]
         first | rw [if_neg (by rw [oOk_t ‹_› ‹_› ‹_›]; simp)] | rw [if_neg (by rw [oOk_0 ‹_›]; simp)]
       · (repeat' first | exact trivial | rfl | apply And.intro | (refine leInt rfl ?_; first | omega | (dsimp only; omega)) | (refine leArr rfl ?_ rfl; (simp; try omega)) | (refine leBool rfl ?_; assumption))
       · (repeat' first | exact trivial | rfl | apply And.intro | (refine leInt rfl ?_; first | omega | (dsimp only; omega)) | (refine leArr rfl ?_ rfl; (simp; try omega)) | (refine leBool rfl ?_; assumption)))
    | (refine fvEq ?_
       rw [sFault, if_neg (by omega), hi, show k = l.length by omega, List.drop_length]; rfl)
    | skip
  all_goals trace_state
theorem c_SameSenders (z y : Bool) (l m : List Sd) (hl : l.length ≤ 1000000) : CallV tab 20 [sds z l, sds y m] (· = .bool (decide (l = m))) := by
  refine callV_of Try.func20 rfl (Nat.le_of_ble_eq_true rfl) (by kernel_rfl) ?_
  repeat' first
    | (refine WpD.loop (fun k : Nat => ⟨[(0, .v (sds z l)), (1, .v (sds y m)), (5, .v (.int .i64 k))], [], []⟩) (fun k => k ≤ l.length ∧ m.length = l.length ∧ ∀ i : Nat, i < k → l[i]? = m[i]?) (fun k => l.length - k) ?_ (fun k hk => ?_))
    | (refine idxMap (by (first | decide | exact trivial | omega | exact Nat.le_refl _ | (((try simp only [decide_eq_true_eq, decide_eq_false_iff_not, cond_true, cond_false, beq_iff_eq, beq_eq_false_iff_ne, bne_iff_ne, bne_eq_false_iff_eq, ne_eq, Bool.not_eq_true', Bool.not_eq_false', Bool.not_eq_eq_eq_not, Bool.not_true, Bool.not_false, sLe_eq, Bool.and_eq_true, Bool.and_eq_false_iff, List.length_map, List.length_append, List.length_take, List.length_drop, List.length_replicate, List.length_cons, List.length_nil, lenMax, capMax, Int.toNat_natCast, gt_iff_lt, ge_iff_le] at *); (try simp (disch := omega) only [wr, wru, shr1, Int.tdiv_eq_ediv_of_nonneg] at *)); omega) | (((try simp only [decide_eq_true_eq, decide_eq_false_iff_not, cond_true, cond_false, beq_iff_eq, beq_eq_false_iff_ne, bne_iff_ne, bne_eq_false_iff_eq, ne_eq, Bool.not_eq_true', Bool.not_eq_false', Bool.not_eq_eq_eq_not, Bool.not_true, Bool.not_false, sLe_eq, Bool.and_eq_true, Bool.and_eq_false_iff, List.length_map, List.length_append, List.length_take, List.length_drop, List.length_replicate, List.length_cons, List.length_nil, lenMax, capMax, Int.toNat_natCast, gt_iff_lt, ge_iff_le] at *); (try simp (disch := omega) only [wr, wru, shr1, Int.tdiv_eq_ediv_of_nonneg] at *)); assumption))) (fun _ _ => ?_); conv => whnf)
    | refine WpD.seq ?_
    | (refine WpD.region ?_; conv => whnf)
    | (refine WpD.draw ?_; conv => whnf)
    | (refine EndOk.mk (by kernel_rfl) ?_; conv => whnf)
    | refine WpD.block ?_
    | (refine WpD.exit ?_; conv => whnf)
    | (refine WpD.skip ?_; conv => whnf)
    | (refine WpD.ret ?_; conv => whnf)
    | refine WpD.cond rfl ?_
    | (refine Br.tt ?_; try conv => whnf)
    | (refine Br.ff ?_; try conv => whnf)
    | (refine Br.of_t (by assumption) ?_; conv => whnf)
    | (refine Br.of_f (by assumption) ?_; conv => whnf)
    | (refine Br.mk (fun _ => ?_) (fun _ => ?_) <;> try conv => whnf)
    | refine Exists.intro _ (And.intro (DV_toV rfl) ?_)
    | (refine CallOp.std ?_; (conv => whnf); fail_if_success refine (?_ : False))
    | (refine CallDet.std ?_; (conv => whnf); fail_if_success refine (?_ : False))
    | (refine And.intro (by (first | decide | exact trivial | omega | exact Nat.le_refl _ | (((try simp only [decide_eq_true_eq, decide_eq_false_iff_not, cond_true, cond_false, beq_iff_eq, beq_eq_false_iff_ne, bne_iff_ne, bne_eq_false_iff_eq, ne_eq, Bool.not_eq_true', Bool.not_eq_false', Bool.not_eq_eq_eq_not, Bool.not_true, Bool.not_false, sLe_eq, Bool.and_eq_true, Bool.and_eq_false_iff, List.length_map, List.length_append, List.length_take, List.length_drop, List.length_replicate, List.length_cons, List.length_nil, lenMax, capMax, Int.toNat_natCast, gt_iff_lt, ge_iff_le] at *); (try simp (disch := omega) only [wr, wru, shr1, Int.tdiv_eq_ediv_of_nonneg] at *)); omega) | (((try simp only [decide_eq_true_eq, decide_eq_false_iff_not, cond_true, cond_false, beq_iff_eq, beq_eq_false_iff_ne, bne_iff_ne, bne_eq_false_iff_eq, ne_eq, Bool.not_eq_true', Bool.not_eq_false', Bool.not_eq_eq_eq_not, Bool.not_true, Bool.not_false, sLe_eq, Bool.and_eq_true, Bool.and_eq_false_iff, List.length_map, List.length_append, List.length_take, List.length_drop, List.length_replicate, List.length_cons, List.length_nil, lenMax, capMax, Int.toNat_natCast, gt_iff_lt, ge_iff_le] at *); (try simp (disch := omega) only [wr, wru, shr1, Int.tdiv_eq_ediv_of_nonneg] at *)); assumption))) ?_; conv => whnf)
  all_goals ((try simp only [decide_eq_true_eq, decide_eq_false_iff_not, cond_true, cond_false, beq_iff_eq, beq_eq_false_iff_ne, bne_iff_ne, bne_eq_false_iff_eq, ne_eq, Bool.not_eq_true', Bool.not_eq_false', Bool.not_eq_eq_eq_not, Bool.not_true, Bool.not_false, sLe_eq, Bool.and_eq_true, Bool.and_eq_false_iff, List.length_map, List.length_append, List.length_take, List.length_drop, List.length_replicate, List.length_cons, List.length_nil, lenMax, capMax, Int.toNat_natCast, gt_iff_lt, ge_iff_le] at *); (try simp (disch := omega) only [wr, wru, shr1, Int.tdiv_eq_ediv_of_nonneg] at *))
  · refine congrArg V.bool ?_
    have : l ≠ m := by rintro rfl; omega
    simp [this]
  · refine ⟨0, [], ⟨Nat.zero_le _, by omega, fun i hi => absurd hi (Nat.not_lt_zero i)⟩, ⟨by decide, rfl, ?_, trivial, rfl⟩⟩
    (repeat' first | exact trivial | rfl | apply And.intro | (refine leInt rfl ?_; first | omega | (dsimp only; omega)) | (refine leArr rfl ?_ rfl; (simp; try omega)) | (refine leBool rfl ?_; assumption))
  all_goals obtain ⟨hk, hm, hi⟩ := hk
  all_goals try rename l[k]? = some _ => hx
  all_goals try rename m[k]? = some _ => hy
  · rename_i h
    refine congrArg V.bool ?_
    have : l ≠ m := by
      rintro rfl
      rw [hx] at hy
      injection hy with hy; subst hy
      simp at h
    simp [this]
  · rename_i h
    refine ⟨k + 1, [], ⟨by omega, hm, fun i hi' => ?_⟩, ⟨⟨by decide, rfl, ?_, trivial, rfl⟩, by omega⟩⟩
    · by_cases hik : i = k
      · subst hik
        rw [hx, hy]; congr 1
        exact Sd.ext' h.1 h.2.1 h.2.2.1 h.2.2.2.1
      · exact hi i (by omega)
    · (repeat' first | exact trivial | rfl | apply And.intro | (refine leInt rfl ?_; first | omega | (dsimp only; omega)) | (refine leArr rfl ?_ rfl; (simp; try omega)) | (refine leBool rfl ?_; assumption))
  · refine congrArg V.bool ?_
    have : l = m := by
      apply List.ext_getElem? 
      intro i
      by_cases hik : i < k
      · exact hi i hik
      · rw [List.getElem?_eq_none (by omega), List.getElem?_eq_none (by omega)]
    simp [this]
theorem c_Compare (a b : ByteArray) : CallV tab 66 [.str a, .str b] (· = .int .i64 (sCmp a b)) := by
  have h77 : CallV tab 77 [.str a, .str b] (· = .int .i64 (sCmp a b)) := by
    refine callV_of Try.func77 rfl (Nat.le_of_ble_eq_true rfl) (by kernel_rfl) ?_
    repeat' first
      | (refine call_cmp Try.func83 rfl (by kernel_rfl) (by kernel_rfl) (by kernel_rfl) rfl rfl rfl ?_; conv => whnf)
      | (refine idxMap (by (first | decide | exact trivial | omega | exact Nat.le_refl _ | (((try simp only [decide_eq_true_eq, decide_eq_false_iff_not, cond_true, cond_false, beq_iff_eq, beq_eq_false_iff_ne, bne_iff_ne, bne_eq_false_iff_eq, ne_eq, Bool.not_eq_true', Bool.not_eq_false', Bool.not_eq_eq_eq_not, Bool.not_true, Bool.not_false, sLe_eq, Bool.and_eq_true, Bool.and_eq_false_iff, List.length_map, List.length_append, List.length_take, List.length_drop, List.length_replicate, List.length_cons, List.length_nil, lenMax, capMax, Int.toNat_natCast, gt_iff_lt, ge_iff_le] at *); (try simp (disch := omega) only [wr, wru, shr1, Int.tdiv_eq_ediv_of_nonneg] at *)); omega) | (((try simp only [decide_eq_true_eq, decide_eq_false_iff_not, cond_true, cond_false, beq_iff_eq, beq_eq_false_iff_ne, bne_iff_ne, bne_eq_false_iff_eq, ne_eq, Bool.not_eq_true', Bool.not_eq_false', Bool.not_eq_eq_eq_not, Bool.not_true, Bool.not_false, sLe_eq, Bool.and_eq_true, Bool.and_eq_false_iff, List.length_map, List.length_append, List.length_take, List.length_drop, List.length_replicate, List.length_cons, List.length_nil, lenMax, capMax, Int.toNat_natCast, gt_iff_lt, ge_iff_le] at *); (try simp (disch := omega) only [wr, wru, shr1, Int.tdiv_eq_ediv_of_nonneg] at *)); assumption))) (fun _ _ => ?_); conv => whnf)
      | refine WpD.seq ?_
      | (refine WpD.region ?_; conv => whnf)
      | (refine WpD.draw ?_; conv => whnf)
      | (refine EndOk.mk (by kernel_rfl) ?_; conv => whnf)
      | refine WpD.block ?_
      | (refine WpD.exit ?_; conv => whnf)
      | (refine WpD.skip ?_; conv => whnf)
      | (refine WpD.ret ?_; conv => whnf)
      | refine WpD.cond rfl ?_
      | (refine Br.tt ?_; try conv => whnf)
      | (refine Br.ff ?_; try conv => whnf)
      | (refine Br.of_t (by assumption) ?_; conv => whnf)
      | (refine Br.of_f (by assumption) ?_; conv => whnf)
      | (refine Br.mk (fun _ => ?_) (fun _ => ?_) <;> try conv => whnf)
      | refine Exists.intro _ (And.intro (DV_toV rfl) ?_)
      | (refine CallOp.std ?_; (conv => whnf); fail_if_success refine (?_ : False))
      | (refine CallDet.std ?_; (conv => whnf); fail_if_success refine (?_ : False))
      | (refine And.intro (by (first | decide | exact trivial | omega | exact Nat.le_refl _ | (((try simp only [decide_eq_true_eq, decide_eq_false_iff_not, cond_true, cond_false, beq_iff_eq, beq_eq_false_iff_ne, bne_iff_ne, bne_eq_false_iff_eq, ne_eq, Bool.not_eq_true', Bool.not_eq_false', Bool.not_eq_eq_eq_not, Bool.not_true, Bool.not_false, sLe_eq, Bool.and_eq_true, Bool.and_eq_false_iff, List.length_map, List.length_append, List.length_take, List.length_drop, List.length_replicate, List.length_cons, List.length_nil, lenMax, capMax, Int.toNat_natCast, gt_iff_lt, ge_iff_le] at *); (try simp (disch := omega) only [wr, wru, shr1, Int.tdiv_eq_ediv_of_nonneg] at *)); omega) | (((try simp only [decide_eq_true_eq, decide_eq_false_iff_not, cond_true, cond_false, beq_iff_eq, beq_eq_false_iff_ne, bne_iff_ne, bne_eq_false_iff_eq, ne_eq, Bool.not_eq_true', Bool.not_eq_false', Bool.not_eq_eq_eq_not, Bool.not_true, Bool.not_false, sLe_eq, Bool.and_eq_true, Bool.and_eq_false_iff, List.length_map, List.length_append, List.length_take, List.length_drop, List.length_replicate, List.length_cons, List.length_nil, lenMax, capMax, Int.toNat_natCast, gt_iff_lt, ge_iff_le] at *); (try simp (disch := omega) only [wr, wru, shr1, Int.tdiv_eq_ediv_of_nonneg] at *)); assumption))) ?_; conv => whnf)
    all_goals rfl
  refine callV_of Try.func66 rfl (Nat.le_of_ble_eq_true rfl) (by kernel_rfl) ?_
  repeat' first
    | (refine call_pure1 (h77) rfl rfl rfl rfl rfl ?_; conv => whnf)
    | (refine call_pureD (h77) rfl rfl rfl rfl rfl ?_; conv => whnf)
    | (refine idxMap (by (first | decide | exact trivial | omega | exact Nat.le_refl _ | (((try simp only [decide_eq_true_eq, decide_eq_false_iff_not, cond_true, cond_false, beq_iff_eq, beq_eq_false_iff_ne, bne_iff_ne, bne_eq_false_iff_eq, ne_eq, Bool.not_eq_true', Bool.not_eq_false', Bool.not_eq_eq_eq_not, Bool.not_true, Bool.not_false, sLe_eq, Bool.and_eq_true, Bool.and_eq_false_iff, List.length_map, List.length_append, List.length_take, List.length_drop, List.length_replicate, List.length_cons, List.length_nil, lenMax, capMax, Int.toNat_natCast, gt_iff_lt, ge_iff_le] at *); (try simp (disch := omega) only [wr, wru, shr1, Int.tdiv_eq_ediv_of_nonneg] at *)); omega) | (((try simp only [decide_eq_true_eq, decide_eq_false_iff_not, cond_true, cond_false, beq_iff_eq, beq_eq_false_iff_ne, bne_iff_ne, bne_eq_false_iff_eq, ne_eq, Bool.not_eq_true', Bool.not_eq_false', Bool.not_eq_eq_eq_not, Bool.not_true, Bool.not_false, sLe_eq, Bool.and_eq_true, Bool.and_eq_false_iff, List.length_map, List.length_append, List.length_take, List.length_drop, List.length_replicate, List.length_cons, List.length_nil, lenMax, capMax, Int.toNat_natCast, gt_iff_lt, ge_iff_le] at *); (try simp (disch := omega) only [wr, wru, shr1, Int.tdiv_eq_ediv_of_nonneg] at *)); assumption))) (fun _ _ => ?_); conv => whnf)
    | refine WpD.seq ?_
    | (refine WpD.region ?_; conv => whnf)
    | (refine WpD.draw ?_; conv => whnf)
    | (refine EndOk.mk (by kernel_rfl) ?_; conv => whnf)
    | refine WpD.block ?_
    | (refine WpD.exit ?_; conv => whnf)
    | (refine WpD.skip ?_; conv => whnf)
    | (refine WpD.ret ?_; conv => whnf)
    | refine WpD.cond rfl ?_
    | (refine Br.tt ?_; try conv => whnf)
    | (refine Br.ff ?_; try conv => whnf)
    | (refine Br.of_t (by assumption) ?_; conv => whnf)
    | (refine Br.of_f (by assumption) ?_; conv => whnf)
    | (refine Br.mk (fun _ => ?_) (fun _ => ?_) <;> try conv => whnf)
    | refine Exists.intro _ (And.intro (DV_toV rfl) ?_)
    | (refine CallOp.std ?_; (conv => whnf); fail_if_success refine (?_ : False))
    | (refine CallDet.std ?_; (conv => whnf); fail_if_success refine (?_ : False))
    | (refine And.intro (by (first | decide | exact trivial | omega | exact Nat.le_refl _ | (((try simp only [decide_eq_true_eq, decide_eq_false_iff_not, cond_true, cond_false, beq_iff_eq, beq_eq_false_iff_ne, bne_iff_ne, bne_eq_false_iff_eq, ne_eq, Bool.not_eq_true', Bool.not_eq_false', Bool.not_eq_eq_eq_not, Bool.not_true, Bool.not_false, sLe_eq, Bool.and_eq_true, Bool.and_eq_false_iff, List.length_map, List.length_append, List.length_take, List.length_drop, List.length_replicate, List.length_cons, List.length_nil, lenMax, capMax, Int.toNat_natCast, gt_iff_lt, ge_iff_le] at *); (try simp (disch := omega) only [wr, wru, shr1, Int.tdiv_eq_ediv_of_nonneg] at *)); omega) | (((try simp only [decide_eq_true_eq, decide_eq_false_iff_not, cond_true, cond_false, beq_iff_eq, beq_eq_false_iff_ne, bne_iff_ne, bne_eq_false_iff_eq, ne_eq, Bool.not_eq_true', Bool.not_eq_false', Bool.not_eq_eq_eq_not, Bool.not_true, Bool.not_false, sLe_eq, Bool.and_eq_true, Bool.and_eq_false_iff, List.length_map, List.length_append, List.length_take, List.length_drop, List.length_replicate, List.length_cons, List.length_nil, lenMax, capMax, Int.toNat_natCast, gt_iff_lt, ge_iff_le] at *); (try simp (disch := omega) only [wr, wru, shr1, Int.tdiv_eq_ediv_of_nonneg] at *)); assumption))) ?_; conv => whnf)
  all_goals rfl
theorem c_find1 (x : Sd) (s : ByteArray) : CallV tab 75 [.agg x.row, .str s] (· = .int .i64 (sCmp x.n s)) := by
  refine callV_of Try.func75 rfl (Nat.le_of_ble_eq_true rfl) (by kernel_rfl) ?_
  repeat' first
    | (refine call_pure1 (c_Compare _ _) rfl rfl rfl rfl rfl ?_; conv => whnf)
    | (refine call_pureD (c_Compare _ _) rfl rfl rfl rfl rfl ?_; conv => whnf)
    | (refine idxMap (by (first | decide | exact trivial | omega | exact Nat.le_refl _ | (((try simp only [decide_eq_true_eq, decide_eq_false_iff_not, cond_true, cond_false, beq_iff_eq, beq_eq_false_iff_ne, bne_iff_ne, bne_eq_false_iff_eq, ne_eq, Bool.not_eq_true', Bool.not_eq_false', Bool.not_eq_eq_eq_not, Bool.not_true, Bool.not_false, sLe_eq, Bool.and_eq_true, Bool.and_eq_false_iff, List.length_map, List.length_append, List.length_take, List.length_drop, List.length_replicate, List.length_cons, List.length_nil, lenMax, capMax, Int.toNat_natCast, gt_iff_lt, ge_iff_le] at *); (try simp (disch := omega) only [wr, wru, shr1, Int.tdiv_eq_ediv_of_nonneg] at *)); omega) | (((try simp only [decide_eq_true_eq, decide_eq_false_iff_not, cond_true, cond_false, beq_iff_eq, beq_eq_false_iff_ne, bne_iff_ne, bne_eq_false_iff_eq, ne_eq, Bool.not_eq_true', Bool.not_eq_false', Bool.not_eq_eq_eq_not, Bool.not_true, Bool.not_false, sLe_eq, Bool.and_eq_true, Bool.and_eq_false_iff, List.length_map, List.length_append, List.length_take, List.length_drop, List.length_replicate, List.length_cons, List.length_nil, lenMax, capMax, Int.toNat_natCast, gt_iff_lt, ge_iff_le] at *); (try simp (disch := omega) only [wr, wru, shr1, Int.tdiv_eq_ediv_of_nonneg] at *)); assumption))) (fun _ _ => ?_); conv => whnf)
    | refine WpD.seq ?_
    | (refine WpD.region ?_; conv => whnf)
    | (refine WpD.draw ?_; conv => whnf)
    | (refine EndOk.mk (by kernel_rfl) ?_; conv => whnf)
    | refine WpD.block ?_
    | (refine WpD.exit ?_; conv => whnf)
    | (refine WpD.skip ?_; conv => whnf)
    | (refine WpD.ret ?_; conv => whnf)
    | refine WpD.cond rfl ?_
    | (refine Br.tt ?_; try conv => whnf)
    | (refine Br.ff ?_; try conv => whnf)
    | (refine Br.of_t (by assumption) ?_; conv => whnf)
    | (refine Br.of_f (by assumption) ?_; conv => whnf)
    | (refine Br.mk (fun _ => ?_) (fun _ => ?_) <;> try conv => whnf)
    | refine Exists.intro _ (And.intro (DV_toV rfl) ?_)
    | (refine CallOp.std ?_; (conv => whnf); fail_if_success refine (?_ : False))
    | (refine CallDet.std ?_; (conv => whnf); fail_if_success refine (?_ : False))
    | (refine And.intro (by (first | decide | exact trivial | omega | exact Nat.le_refl _ | (((try simp only [decide_eq_true_eq, decide_eq_false_iff_not, cond_true, cond_false, beq_iff_eq, beq_eq_false_iff_ne, bne_iff_ne, bne_eq_false_iff_eq, ne_eq, Bool.not_eq_true', Bool.not_eq_false', Bool.not_eq_eq_eq_not, Bool.not_true, Bool.not_false, sLe_eq, Bool.and_eq_true, Bool.and_eq_false_iff, List.length_map, List.length_append, List.length_take, List.length_drop, List.length_replicate, List.length_cons, List.length_nil, lenMax, capMax, Int.toNat_natCast, gt_iff_lt, ge_iff_le] at *); (try simp (disch := omega) only [wr, wru, shr1, Int.tdiv_eq_ediv_of_nonneg] at *)); omega) | (((try simp only [decide_eq_true_eq, decide_eq_false_iff_not, cond_true, cond_false, beq_iff_eq, beq_eq_false_iff_ne, bne_iff_ne, bne_eq_false_iff_eq, ne_eq, Bool.not_eq_true', Bool.not_eq_false', Bool.not_eq_eq_eq_not, Bool.not_true, Bool.not_false, sLe_eq, Bool.and_eq_true, Bool.and_eq_false_iff, List.length_map, List.length_append, List.length_take, List.length_drop, List.length_replicate, List.length_cons, List.length_nil, lenMax, capMax, Int.toNat_natCast, gt_iff_lt, ge_iff_le] at *); (try simp (disch := omega) only [wr, wru, shr1, Int.tdiv_eq_ediv_of_nonneg] at *)); assumption))) ?_; conv => whnf)
  all_goals rfl
/-- How many are ahead of a name. -/
def posF (s : ByteArray) (l : List Sd) : Nat := l.findIdx (fun x => !sLt x.n s)
def hasF (s : ByteArray) (l : List Sd) : Bool := match l[posF s l]? with | some x => decide (x.n = s) | none => false
def Sorted (l : List Sd) : Prop := ∀ (i j : Nat) x y, i < j → l[i]? = some x → l[j]? = some y → sLt x.n y.n = true
theorem pos_eq {s : ByteArray} {l : List Sd} {i : Nat} (h0 : i ≤ l.length) (h1 : ∀ (j : Nat) x, j < i → l[j]? = some x → sLt x.n s = true) (h2 : ∀ x, l[i]? = some x → sLt x.n s = false) : posF s l = i := by
  unfold posF
  by_cases h : i < l.length
  · rw [List.findIdx_eq h]
    refine ⟨by simp [h2 l[i] (by simp [h])], fun j hj => ?_⟩
    simp [h1 j l[j] hj (by simp)]
  · have : i = l.length := by omega
    subst this
    rw [List.findIdx_eq_length]
    intro x hx
    obtain ⟨j, hj, rfl⟩ := List.mem_iff_getElem.1 hx
    simp [h1 j l[j] hj (by simp [hj])]
theorem c_Search (z : Bool) (l : List Sd) (s : ByteArray) (hp : l.length ≤ 1000000 ∧ Sorted l) : CallV tab 74 [sds z l, .str s, .fn 75 []] (· = .tup [.int .i64 (posF s l), .bool (hasF s l)]) := by
  obtain ⟨hl, hs⟩ := hp
  refine callV_of Try.func74 rfl (Nat.le_of_ble_eq_true rfl) (by kernel_rfl) ?_
  repeat' first
    | (refine call_pure1 (c_find1 _ _) rfl rfl rfl rfl rfl ?_; conv => whnf)
    | (refine call_pureD (c_find1 _ _) rfl rfl rfl rfl rfl ?_; conv => whnf)
    | (refine WpD.loop (fun k : Nat × Nat => ⟨[(0, .v (sds z l)), (1, .v (.str s)), (2, .v (.fn 75 [])), (8, .v (.int .i64 l.length)), (9, .v (.int .i64 k.1)), (10, .v (.int .i64 k.2))], [], []⟩) (fun k => k.1 ≤ k.2 ∧ k.2 ≤ l.length ∧ (∀ (j : Nat) x, j < k.1 → l[j]? = some x → sLt x.n s = true) ∧ (∀ (j : Nat) x, k.2 ≤ j → l[j]? = some x → sLt x.n s = false)) (fun k => k.2 - k.1) ?_ (fun k hk => ?_))
    | (refine idxMap (by (first | decide | exact trivial | omega | exact Nat.le_refl _ | (((try simp only [decide_eq_true_eq, decide_eq_false_iff_not, cond_true, cond_false, beq_iff_eq, beq_eq_false_iff_ne, bne_iff_ne, bne_eq_false_iff_eq, ne_eq, Bool.not_eq_true', Bool.not_eq_false', Bool.not_eq_eq_eq_not, Bool.not_true, Bool.not_false, sLe_eq, Bool.and_eq_true, Bool.and_eq_false_iff, List.length_map, List.length_append, List.length_take, List.length_drop, List.length_replicate, List.length_cons, List.length_nil, lenMax, capMax, Int.toNat_natCast, gt_iff_lt, ge_iff_le] at *); (try simp (disch := omega) only [wr, wru, shr1, Int.tdiv_eq_ediv_of_nonneg] at *)); omega) | (((try simp only [decide_eq_true_eq, decide_eq_false_iff_not, cond_true, cond_false, beq_iff_eq, beq_eq_false_iff_ne, bne_iff_ne, bne_eq_false_iff_eq, ne_eq, Bool.not_eq_true', Bool.not_eq_false', Bool.not_eq_eq_eq_not, Bool.not_true, Bool.not_false, sLe_eq, Bool.and_eq_true, Bool.and_eq_false_iff, List.length_map, List.length_append, List.length_take, List.length_drop, List.length_replicate, List.length_cons, List.length_nil, lenMax, capMax, Int.toNat_natCast, gt_iff_lt, ge_iff_le] at *); (try simp (disch := omega) only [wr, wru, shr1, Int.tdiv_eq_ediv_of_nonneg] at *)); assumption))) (fun _ _ => ?_); conv => whnf)
    | refine WpD.seq ?_
    | (refine WpD.region ?_; conv => whnf)
    | (refine WpD.draw ?_; conv => whnf)
    | (refine EndOk.mk (by kernel_rfl) ?_; conv => whnf)
    | refine WpD.block ?_
    | (refine WpD.exit ?_; conv => whnf)
    | (refine WpD.skip ?_; conv => whnf)
    | (refine WpD.ret ?_; conv => whnf)
    | refine WpD.cond rfl ?_
    | (refine Br.tt ?_; try conv => whnf)
    | (refine Br.ff ?_; try conv => whnf)
    | (refine Br.of_t (by assumption) ?_; conv => whnf)
    | (refine Br.of_f (by assumption) ?_; conv => whnf)
    | (refine Br.mk (fun _ => ?_) (fun _ => ?_) <;> try conv => whnf)
    | refine Exists.intro _ (And.intro (DV_toV rfl) ?_)
    | (refine CallOp.std ?_; (conv => whnf); fail_if_success refine (?_ : False))
    | (refine CallDet.std ?_; (conv => whnf); fail_if_success refine (?_ : False))
    | (refine And.intro (by (first | decide | exact trivial | omega | exact Nat.le_refl _ | (((try simp only [decide_eq_true_eq, decide_eq_false_iff_not, cond_true, cond_false, beq_iff_eq, beq_eq_false_iff_ne, bne_iff_ne, bne_eq_false_iff_eq, ne_eq, Bool.not_eq_true', Bool.not_eq_false', Bool.not_eq_eq_eq_not, Bool.not_true, Bool.not_false, sLe_eq, Bool.and_eq_true, Bool.and_eq_false_iff, List.length_map, List.length_append, List.length_take, List.length_drop, List.length_replicate, List.length_cons, List.length_nil, lenMax, capMax, Int.toNat_natCast, gt_iff_lt, ge_iff_le] at *); (try simp (disch := omega) only [wr, wru, shr1, Int.tdiv_eq_ediv_of_nonneg] at *)); omega) | (((try simp only [decide_eq_true_eq, decide_eq_false_iff_not, cond_true, cond_false, beq_iff_eq, beq_eq_false_iff_ne, bne_iff_ne, bne_eq_false_iff_eq, ne_eq, Bool.not_eq_true', Bool.not_eq_false', Bool.not_eq_eq_eq_not, Bool.not_true, Bool.not_false, sLe_eq, Bool.and_eq_true, Bool.and_eq_false_iff, List.length_map, List.length_append, List.length_take, List.length_drop, List.length_replicate, List.length_cons, List.length_nil, lenMax, capMax, Int.toNat_natCast, gt_iff_lt, ge_iff_le] at *); (try simp (disch := omega) only [wr, wru, shr1, Int.tdiv_eq_ediv_of_nonneg] at *)); assumption))) ?_; conv => whnf)
  all_goals ((try simp only [decide_eq_true_eq, decide_eq_false_iff_not, cond_true, cond_false, beq_iff_eq, beq_eq_false_iff_ne, bne_iff_ne, bne_eq_false_iff_eq, ne_eq, Bool.not_eq_true', Bool.not_eq_false', Bool.not_eq_eq_eq_not, Bool.not_true, Bool.not_false, sLe_eq, Bool.and_eq_true, Bool.and_eq_false_iff, List.length_map, List.length_append, List.length_take, List.length_drop, List.length_replicate, List.length_cons, List.length_nil, lenMax, capMax, Int.toNat_natCast, gt_iff_lt, ge_iff_le] at *); (try simp (disch := omega) only [wr, wru, shr1, Int.tdiv_eq_ediv_of_nonneg] at *))
  · refine ⟨(0, l.length), [], ⟨Nat.zero_le _, Nat.le_refl _, fun j x h => absurd h (Nat.not_lt_zero j), fun j x h hx => ?_⟩, ⟨by decide, rfl, ?_, trivial, rfl⟩⟩
    · have := (List.getElem?_eq_some_iff.1 hx).1; omega
    · (repeat' first | exact trivial | rfl | apply And.intro | (refine leInt rfl ?_; first | omega | (dsimp only; omega)) | (refine leArr rfl ?_ rfl; (simp; try omega)) | (refine leBool rfl ?_; assumption))
  all_goals obtain ⟨h1, h2, h3, h4⟩ := hk
  · rename_i x _ hc hx
    refine ⟨((((k.1 : Int) + k.2) / 2).toNat + 1, k.2), [], ⟨by dsimp only; omega, h2, fun j y hj hy => ?_, h4⟩, ⟨⟨by decide, rfl, ?_, trivial, rfl⟩, by dsimp only; omega⟩⟩
    · rw [sCmp_neg] at hc
      by_cases hjm : j = (((k.1 : Int) + k.2) / 2).toNat
      · subst hjm; rw [hx] at hy; injection hy with hy; subst hy; exact hc
      · exact sLt_trans (hs _ _ _ _ (by dsimp only at hj; omega) hy hx) hc
    · (repeat' first | exact trivial | rfl | apply And.intro | (refine leInt rfl ?_; first | omega | (dsimp only; omega)) | (refine leArr rfl ?_ rfl; (simp; try omega)) | (refine leBool rfl ?_; assumption))
  · rename_i x _ hc hx
    refine ⟨(k.1, (((k.1 : Int) + k.2) / 2).toNat), [], ⟨by dsimp only; omega, by dsimp only; omega, h3, fun j y hj hy => ?_⟩, ⟨⟨by decide, rfl, ?_, trivial, rfl⟩, by dsimp only; omega⟩⟩
    · rw [sCmp_neg] at hc
      by_cases hjm : j = (((k.1 : Int) + k.2) / 2).toNat
      · subst hjm; rw [hx] at hy; injection hy with hy; subst hy; simpa using hc
      · cases hlt : sLt y.n s with
        | false => rfl
        | true => exact absurd (sLt_trans (hs _ _ _ _ (by dsimp only at hj; omega) hx hy) hlt) hc
    · (repeat' first | exact trivial | rfl | apply And.intro | (refine leInt rfl ?_; first | omega | (dsimp only; omega)) | (refine leArr rfl ?_ rfl; (simp; try omega)) | (refine leBool rfl ?_; assumption))
  all_goals have he : k.2 = k.1 := by omega
  all_goals have hpos : posF s l = k.1 := pos_eq (by omega) h3 (fun x hx => h4 k.1 x (by omega) hx)
  · rename_i x hx _ _
    unfold hasF
    rw [hpos, hx]
    dsimp only
    rw [show (sCmp x.n s == 0) = decide (x.n = s) from by rw [Bool.eq_iff_iff]; simp [sCmp_zero]]
  · unfold hasF
    rw [hpos, List.getElem?_eq_none (by omega)]
    rfl
theorem c_find (z : Bool) (l : List Sd) (s : ByteArray) (hp : l.length ≤ 1000000 ∧ Sorted l) : CallV tab 61 [sds z l, .str s] (· = .tup [.int .i64 (posF s l), .bool (hasF s l)]) := by
  refine callV_of Try.func61 rfl (Nat.le_of_ble_eq_true rfl) (by kernel_rfl) ?_
  repeat' first
    | (refine call_pure1 (c_Search _ _ _ hp) rfl rfl rfl rfl rfl ?_; conv => whnf)
    | (refine call_pureD (c_Search _ _ _ hp) rfl rfl rfl rfl rfl ?_; conv => whnf)
    | (refine idxMap (by (first | decide | exact trivial | omega | exact Nat.le_refl _ | (((try simp only [decide_eq_true_eq, decide_eq_false_iff_not, cond_true, cond_false, beq_iff_eq, beq_eq_false_iff_ne, bne_iff_ne, bne_eq_false_iff_eq, ne_eq, Bool.not_eq_true', Bool.not_eq_false', Bool.not_eq_eq_eq_not, Bool.not_true, Bool.not_false, sLe_eq, Bool.and_eq_true, Bool.and_eq_false_iff, List.length_map, List.length_append, List.length_take, List.length_drop, List.length_replicate, List.length_cons, List.length_nil, lenMax, capMax, Int.toNat_natCast, gt_iff_lt, ge_iff_le] at *); (try simp (disch := omega) only [wr, wru, shr1, Int.tdiv_eq_ediv_of_nonneg] at *)); omega) | (((try simp only [decide_eq_true_eq, decide_eq_false_iff_not, cond_true, cond_false, beq_iff_eq, beq_eq_false_iff_ne, bne_iff_ne, bne_eq_false_iff_eq, ne_eq, Bool.not_eq_true', Bool.not_eq_false', Bool.not_eq_eq_eq_not, Bool.not_true, Bool.not_false, sLe_eq, Bool.and_eq_true, Bool.and_eq_false_iff, List.length_map, List.length_append, List.length_take, List.length_drop, List.length_replicate, List.length_cons, List.length_nil, lenMax, capMax, Int.toNat_natCast, gt_iff_lt, ge_iff_le] at *); (try simp (disch := omega) only [wr, wru, shr1, Int.tdiv_eq_ediv_of_nonneg] at *)); assumption))) (fun _ _ => ?_); conv => whnf)
    | refine WpD.seq ?_
    | (refine WpD.region ?_; conv => whnf)
    | (refine WpD.draw ?_; conv => whnf)
    | (refine EndOk.mk (by kernel_rfl) ?_; conv => whnf)
    | refine WpD.block ?_
    | (refine WpD.exit ?_; conv => whnf)
    | (refine WpD.skip ?_; conv => whnf)
    | (refine WpD.ret ?_; conv => whnf)
    | refine WpD.cond rfl ?_
    | (refine Br.tt ?_; try conv => whnf)
    | (refine Br.ff ?_; try conv => whnf)
    | (refine Br.of_t (by assumption) ?_; conv => whnf)
    | (refine Br.of_f (by assumption) ?_; conv => whnf)
    | (refine Br.mk (fun _ => ?_) (fun _ => ?_) <;> try conv => whnf)
    | refine Exists.intro _ (And.intro (DV_toV rfl) ?_)
    | (refine CallOp.std ?_; (conv => whnf); fail_if_success refine (?_ : False))
    | (refine CallDet.std ?_; (conv => whnf); fail_if_success refine (?_ : False))
    | (refine And.intro (by (first | decide | exact trivial | omega | exact Nat.le_refl _ | (((try simp only [decide_eq_true_eq, decide_eq_false_iff_not, cond_true, cond_false, beq_iff_eq, beq_eq_false_iff_ne, bne_iff_ne, bne_eq_false_iff_eq, ne_eq, Bool.not_eq_true', Bool.not_eq_false', Bool.not_eq_eq_eq_not, Bool.not_true, Bool.not_false, sLe_eq, Bool.and_eq_true, Bool.and_eq_false_iff, List.length_map, List.length_append, List.length_take, List.length_drop, List.length_replicate, List.length_cons, List.length_nil, lenMax, capMax, Int.toNat_natCast, gt_iff_lt, ge_iff_le] at *); (try simp (disch := omega) only [wr, wru, shr1, Int.tdiv_eq_ediv_of_nonneg] at *)); omega) | (((try simp only [decide_eq_true_eq, decide_eq_false_iff_not, cond_true, cond_false, beq_iff_eq, beq_eq_false_iff_ne, bne_iff_ne, bne_eq_false_iff_eq, ne_eq, Bool.not_eq_true', Bool.not_eq_false', Bool.not_eq_eq_eq_not, Bool.not_true, Bool.not_false, sLe_eq, Bool.and_eq_true, Bool.and_eq_false_iff, List.length_map, List.length_append, List.length_take, List.length_drop, List.length_replicate, List.length_cons, List.length_nil, lenMax, capMax, Int.toNat_natCast, gt_iff_lt, ge_iff_le] at *); (try simp (disch := omega) only [wr, wru, shr1, Int.tdiv_eq_ediv_of_nonneg] at *)); assumption))) ?_; conv => whnf)
  all_goals rfl
end Go.DL
