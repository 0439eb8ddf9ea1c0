import Derived.Test.YtdadnjhfennenaaB6
set_option linter.unusedVariables false
set_option linter.unusedSimpArgs false
set_option maxHeartbeats 4000000
namespace Go.DL
open Go.Proofs

set_option maxHeartbeats 4000000 in
theorem c_SenderScore (z : Bool) (l : List Sd) (s : ByteArray) (now : Int) (ha : aFault l s now = (0, 0)) : CallV tab 23 [sds z l, .str s, .int .i64 now] (· = .int .i64 (scoreF l s now)) := by
  obtain ⟨hc, _⟩ := aF_ok ha
  obtain ⟨hs, _, hi⟩ := cF_ok hc
  obtain ⟨hl, _, hso⟩ := sf_ok hs
  have hat := at_pos hso s
  have hl' : l.length ≤ 1000000 := by omega
  have hck := c_SenderAt z l s hl'
  cases hh : hasF s l with
  | true =>
    have hl := has_lt hh
    obtain ⟨x, hx⟩ : ∃ x, l[posF s l]? = some x := ⟨l[posF s l]'(by simpa using hl), by simp at hl; simp [hl]⟩
    obtain ⟨t1, t2, t3, t4, t5⟩ := there ha hh hx
    have b1 := lv_le (n := x.g) (d := dayOf now - x.d) t1.1
    have b2 := lv_le (n := x.b) (d := dayOf now - x.d) t1.2.2.1
    have b3 := t1.2.1
    have b4 := t1.2.2.2.1
    have b5 := t1.2.2.2.2.1
    have b6 := t1.1
    have b7 := t1.2.2.1
    unfold instOk at t2
    rw [hat, hh, if_pos rfl] at hck
    have hix : (List.map Sd.row l)[((posF s l : Nat) : Int).toNat]? = some x.row := by rw [Int.toNat_natCast, List.getElem?_map, hx]; rfl
    have e : scoreF l s now = scoreOf x now := by unfold scoreF; rw [hx]; simp [has_n hh hx]
    rw [e]
    have w0 : IntKind.wrap .i64 (dayOf now - x.d) = dayOf now - x.d := wr (by omega) (by omega)
    have hL1 : CallV tab 44 [.int .i64 x.g, .int .i64 (IntKind.wrap .i64 (dayOf now - x.d))] (· = .int .i64 (lv x.g (dayOf now - x.d))) := by
      rw [w0]; exact c_Left x.g (dayOf now - x.d) (by omega)
    have hL2 : CallV tab 44 [.int .i64 x.b, .int .i64 (IntKind.wrap .i64 (dayOf now - x.d))] (· = .int .i64 (lv x.b (dayOf now - x.d))) := by
      rw [w0]; exact c_Left x.b (dayOf now - x.d) (by omega)
    have hp : 0 ≤ ((posF s l : Nat) : Int) := by omega
    have hdec : decide (((posF s l : Nat) : Int) < 0) = false := by simp
    refine callV_of Try.func23 rfl (Nat.le_of_ble_eq_true rfl) (by kernel_rfl) ?_
    repeat' first
      | (refine Exists.intro _ (And.intro hix ?_); conv => whnf)
      | (refine call_pure1 (hck) rfl rfl rfl rfl rfl ?_; conv => whnf)
      | (refine call_pureD (hck) rfl rfl rfl rfl rfl ?_; conv => whnf)
      | (refine call_pureP (c_DayOf _) rfl rfl rfl rfl rfl (by (first | decide | exact trivial | omega | exact Nat.le_refl _ | (((try simp only [decide_eq_true_eq, decide_eq_false_iff_not, cond_true, cond_false, beq_iff_eq, beq_eq_false_iff_ne, bne_iff_ne, bne_eq_false_iff_eq, ne_eq, Bool.not_eq_true', Bool.not_eq_false', Bool.not_eq_eq_eq_not, Bool.not_true, Bool.not_false, sLe_eq, Bool.and_eq_true, Bool.and_eq_false_iff, List.length_map, List.length_append, List.length_take, List.length_drop, List.length_replicate, List.length_cons, List.length_nil, lenMax, capMax, Int.toNat_natCast, gt_iff_lt, ge_iff_le] at *); (try simp (disch := omega) only [wr, wru, shr1, Int.tdiv_eq_ediv_of_nonneg] at *)); omega) | (((try simp only [decide_eq_true_eq, decide_eq_false_iff_not, cond_true, cond_false, beq_iff_eq, beq_eq_false_iff_ne, bne_iff_ne, bne_eq_false_iff_eq, ne_eq, Bool.not_eq_true', Bool.not_eq_false', Bool.not_eq_eq_eq_not, Bool.not_true, Bool.not_false, sLe_eq, Bool.and_eq_true, Bool.and_eq_false_iff, List.length_map, List.length_append, List.length_take, List.length_drop, List.length_replicate, List.length_cons, List.length_nil, lenMax, capMax, Int.toNat_natCast, gt_iff_lt, ge_iff_le] at *); (try simp (disch := omega) only [wr, wru, shr1, Int.tdiv_eq_ediv_of_nonneg] at *)); assumption))) ?_; conv => whnf)
      | (refine call_purePD (c_DayOf _) rfl rfl rfl rfl rfl (by (first | decide | exact trivial | omega | exact Nat.le_refl _ | (((try simp only [decide_eq_true_eq, decide_eq_false_iff_not, cond_true, cond_false, beq_iff_eq, beq_eq_false_iff_ne, bne_iff_ne, bne_eq_false_iff_eq, ne_eq, Bool.not_eq_true', Bool.not_eq_false', Bool.not_eq_eq_eq_not, Bool.not_true, Bool.not_false, sLe_eq, Bool.and_eq_true, Bool.and_eq_false_iff, List.length_map, List.length_append, List.length_take, List.length_drop, List.length_replicate, List.length_cons, List.length_nil, lenMax, capMax, Int.toNat_natCast, gt_iff_lt, ge_iff_le] at *); (try simp (disch := omega) only [wr, wru, shr1, Int.tdiv_eq_ediv_of_nonneg] at *)); omega) | (((try simp only [decide_eq_true_eq, decide_eq_false_iff_not, cond_true, cond_false, beq_iff_eq, beq_eq_false_iff_ne, bne_iff_ne, bne_eq_false_iff_eq, ne_eq, Bool.not_eq_true', Bool.not_eq_false', Bool.not_eq_eq_eq_not, Bool.not_true, Bool.not_false, sLe_eq, Bool.and_eq_true, Bool.and_eq_false_iff, List.length_map, List.length_append, List.length_take, List.length_drop, List.length_replicate, List.length_cons, List.length_nil, lenMax, capMax, Int.toNat_natCast, gt_iff_lt, ge_iff_le] at *); (try simp (disch := omega) only [wr, wru, shr1, Int.tdiv_eq_ediv_of_nonneg] at *)); assumption))) ?_; conv => whnf)
      | (refine call_pure1 (hL1) rfl rfl rfl rfl rfl ?_; conv => whnf)
      | (refine call_pureD (hL1) rfl rfl rfl rfl rfl ?_; conv => whnf)
      | (refine call_pure1 (hL2) rfl rfl rfl rfl rfl ?_; conv => whnf)
      | (refine call_pureD (hL2) rfl rfl rfl rfl rfl ?_; conv => whnf)
      | (refine idxMap (by (first | decide | exact trivial | omega | exact Nat.le_refl _ | (((try simp only [decide_eq_true_eq, decide_eq_false_iff_not, cond_true, cond_false, beq_iff_eq, beq_eq_false_iff_ne, bne_iff_ne, bne_eq_false_iff_eq, ne_eq, Bool.not_eq_true', Bool.not_eq_false', Bool.not_eq_eq_eq_not, Bool.not_true, Bool.not_false, sLe_eq, Bool.and_eq_true, Bool.and_eq_false_iff, List.length_map, List.length_append, List.length_take, List.length_drop, List.length_replicate, List.length_cons, List.length_nil, lenMax, capMax, Int.toNat_natCast, gt_iff_lt, ge_iff_le] at *); (try simp (disch := omega) only [wr, wru, shr1, Int.tdiv_eq_ediv_of_nonneg] at *)); omega) | (((try simp only [decide_eq_true_eq, decide_eq_false_iff_not, cond_true, cond_false, beq_iff_eq, beq_eq_false_iff_ne, bne_iff_ne, bne_eq_false_iff_eq, ne_eq, Bool.not_eq_true', Bool.not_eq_false', Bool.not_eq_eq_eq_not, Bool.not_true, Bool.not_false, sLe_eq, Bool.and_eq_true, Bool.and_eq_false_iff, List.length_map, List.length_append, List.length_take, List.length_drop, List.length_replicate, List.length_cons, List.length_nil, lenMax, capMax, Int.toNat_natCast, gt_iff_lt, ge_iff_le] at *); (try simp (disch := omega) only [wr, wru, shr1, Int.tdiv_eq_ediv_of_nonneg] at *)); assumption))) (fun _ _ => ?_); conv => whnf)
      | refine WpD.seq ?_
      | (refine WpD.region ?_; conv => whnf)
      | (refine WpD.draw ?_; conv => whnf)
      | (refine EndOk.mk (by kernel_rfl) ?_; conv => whnf)
      | refine WpD.block ?_
      | (refine WpD.exit ?_; conv => whnf)
      | (refine WpD.skip ?_; conv => whnf)
      | (refine WpD.ret ?_; conv => whnf)
      | refine WpD.cond rfl ?_
      | (refine Br.tt ?_; try conv => whnf)
      | (refine Br.ff ?_; try conv => whnf)
      | (refine Br.of_t (by assumption) ?_; conv => whnf)
      | (refine Br.of_f (by assumption) ?_; conv => whnf)
      | (refine Br.mk (fun _ => ?_) (fun _ => ?_) <;> try conv => whnf)
      | refine Exists.intro _ (And.intro (DV_toV rfl) ?_)
      | (refine CallOp.std ?_; (conv => whnf); fail_if_success refine (?_ : False))
      | (refine CallDet.std ?_; (conv => whnf); fail_if_success refine (?_ : False))
      | (refine And.intro (by (first | decide | exact trivial | omega | exact Nat.le_refl _ | (((try simp only [decide_eq_true_eq, decide_eq_false_iff_not, cond_true, cond_false, beq_iff_eq, beq_eq_false_iff_ne, bne_iff_ne, bne_eq_false_iff_eq, ne_eq, Bool.not_eq_true', Bool.not_eq_false', Bool.not_eq_eq_eq_not, Bool.not_true, Bool.not_false, sLe_eq, Bool.and_eq_true, Bool.and_eq_false_iff, List.length_map, List.length_append, List.length_take, List.length_drop, List.length_replicate, List.length_cons, List.length_nil, lenMax, capMax, Int.toNat_natCast, gt_iff_lt, ge_iff_le] at *); (try simp (disch := omega) only [wr, wru, shr1, Int.tdiv_eq_ediv_of_nonneg] at *)); omega) | (((try simp only [decide_eq_true_eq, decide_eq_false_iff_not, cond_true, cond_false, beq_iff_eq, beq_eq_false_iff_ne, bne_iff_ne, bne_eq_false_iff_eq, ne_eq, Bool.not_eq_true', Bool.not_eq_false', Bool.not_eq_eq_eq_not, Bool.not_true, Bool.not_false, sLe_eq, Bool.and_eq_true, Bool.and_eq_false_iff, List.length_map, List.length_append, List.length_take, List.length_drop, List.length_replicate, List.length_cons, List.length_nil, lenMax, capMax, Int.toNat_natCast, gt_iff_lt, ge_iff_le] at *); (try simp (disch := omega) only [wr, wru, shr1, Int.tdiv_eq_ediv_of_nonneg] at *)); assumption))) ?_; conv => whnf)
    all_goals refine congrArg (V.int .i64) ?_
    all_goals simp only [decide_eq_true_eq, decide_eq_false_iff_not] at *
    · rename_i hlt
      rw [wr (x := lv _ _ - lv _ _) (by omega) (by omega), wr (x := lv _ _ + lv _ _) (by omega) (by omega), wr (x := 1000 * _) (by omega) (by omega), wr (x := _ + 1000) (by omega) (by omega)]
      rw [wr (wtdiv1 (by omega) (by omega)) (wtdiv2 (by omega) (by omega))]
      have h1 := wtdiv1 (a := 1000 * (lv x.b (dayOf now - x.d) - lv x.g (dayOf now - x.d))) (b := lv x.g (dayOf now - x.d) + lv x.b (dayOf now - x.d) + 1000) (by omega) (by omega)
      have h2 := wtdiv2 (a := 1000 * (lv x.b (dayOf now - x.d) - lv x.g (dayOf now - x.d))) (b := lv x.g (dayOf now - x.d) + lv x.b (dayOf now - x.d) + 1000) (by omega) (by omega)
      have h3 : 0 ≤ (1000 * (lv x.b (dayOf now - x.d) - lv x.g (dayOf now - x.d))).tdiv (lv x.g (dayOf now - x.d) + lv x.b (dayOf now - x.d) + 1000) := Int.tdiv_nonneg (by omega) (by omega)
      rw [wr (by omega) (by omega), scoreOf, show 1000 * (lv x.g (dayOf now - x.d) - lv x.b (dayOf now - x.d)) = - (1000 * (lv x.b (dayOf now - x.d) - lv x.g (dayOf now - x.d))) by omega, Int.neg_tdiv]
      omega
    · rename_i hlt
      rw [wr (x := lv _ _ - lv _ _) (by omega) (by omega), wr (x := lv _ _ + lv _ _) (by omega) (by omega), wr (x := 1000 * _) (by omega) (by omega), wr (x := _ + 1000) (by omega) (by omega)]
      rw [wr (wtdiv1 (by omega) (by omega)) (wtdiv2 (by omega) (by omega))]
      rfl
  | false =>
    rw [hat, hh] at hck
    have hck' : CallV tab 17 [sds z l, .str s] (· = .int .i64 (-1)) := hck
    refine callV_of Try.func23 rfl (Nat.le_of_ble_eq_true rfl) (by kernel_rfl) ?_
    repeat' first
      | (refine call_pure1 (hck') rfl rfl rfl rfl rfl ?_; conv => whnf)
      | (refine call_pureD (hck') rfl rfl rfl rfl rfl ?_; conv => whnf)
      | (refine idxMap (by (first | decide | exact trivial | omega | exact Nat.le_refl _ | (((try simp only [decide_eq_true_eq, decide_eq_false_iff_not, cond_true, cond_false, beq_iff_eq, beq_eq_false_iff_ne, bne_iff_ne, bne_eq_false_iff_eq, ne_eq, Bool.not_eq_true', Bool.not_eq_false', Bool.not_eq_eq_eq_not, Bool.not_true, Bool.not_false, sLe_eq, Bool.and_eq_true, Bool.and_eq_false_iff, List.length_map, List.length_append, List.length_take, List.length_drop, List.length_replicate, List.length_cons, List.length_nil, lenMax, capMax, Int.toNat_natCast, gt_iff_lt, ge_iff_le] at *); (try simp (disch := omega) only [wr, wru, shr1, Int.tdiv_eq_ediv_of_nonneg] at *)); omega) | (((try simp only [decide_eq_true_eq, decide_eq_false_iff_not, cond_true, cond_false, beq_iff_eq, beq_eq_false_iff_ne, bne_iff_ne, bne_eq_false_iff_eq, ne_eq, Bool.not_eq_true', Bool.not_eq_false', Bool.not_eq_eq_eq_not, Bool.not_true, Bool.not_false, sLe_eq, Bool.and_eq_true, Bool.and_eq_false_iff, List.length_map, List.length_append, List.length_take, List.length_drop, List.length_replicate, List.length_cons, List.length_nil, lenMax, capMax, Int.toNat_natCast, gt_iff_lt, ge_iff_le] at *); (try simp (disch := omega) only [wr, wru, shr1, Int.tdiv_eq_ediv_of_nonneg] at *)); assumption))) (fun _ _ => ?_); conv => whnf)
      | refine WpD.seq ?_
      | (refine WpD.region ?_; conv => whnf)
      | (refine WpD.draw ?_; conv => whnf)
      | (refine EndOk.mk (by kernel_rfl) ?_; conv => whnf)
      | refine WpD.block ?_
      | (refine WpD.exit ?_; conv => whnf)
      | (refine WpD.skip ?_; conv => whnf)
      | (refine WpD.ret ?_; conv => whnf)
      | refine WpD.cond rfl ?_
      | (refine Br.tt ?_; try conv => whnf)
      | (refine Br.ff ?_; try conv => whnf)
      | (refine Br.of_t (by assumption) ?_; conv => whnf)
      | (refine Br.of_f (by assumption) ?_; conv => whnf)
      | (refine Br.mk (fun _ => ?_) (fun _ => ?_) <;> try conv => whnf)
      | refine Exists.intro _ (And.intro (DV_toV rfl) ?_)
      | (refine CallOp.std ?_; (conv => whnf); fail_if_success refine (?_ : False))
      | (refine CallDet.std ?_; (conv => whnf); fail_if_success refine (?_ : False))
      | (refine And.intro (by (first | decide | exact trivial | omega | exact Nat.le_refl _ | (((try simp only [decide_eq_true_eq, decide_eq_false_iff_not, cond_true, cond_false, beq_iff_eq, beq_eq_false_iff_ne, bne_iff_ne, bne_eq_false_iff_eq, ne_eq, Bool.not_eq_true', Bool.not_eq_false', Bool.not_eq_eq_eq_not, Bool.not_true, Bool.not_false, sLe_eq, Bool.and_eq_true, Bool.and_eq_false_iff, List.length_map, List.length_append, List.length_take, List.length_drop, List.length_replicate, List.length_cons, List.length_nil, lenMax, capMax, Int.toNat_natCast, gt_iff_lt, ge_iff_le] at *); (try simp (disch := omega) only [wr, wru, shr1, Int.tdiv_eq_ediv_of_nonneg] at *)); omega) | (((try simp only [decide_eq_true_eq, decide_eq_false_iff_not, cond_true, cond_false, beq_iff_eq, beq_eq_false_iff_ne, bne_iff_ne, bne_eq_false_iff_eq, ne_eq, Bool.not_eq_true', Bool.not_eq_false', Bool.not_eq_eq_eq_not, Bool.not_true, Bool.not_false, sLe_eq, Bool.and_eq_true, Bool.and_eq_false_iff, List.length_map, List.length_append, List.length_take, List.length_drop, List.length_replicate, List.length_cons, List.length_nil, lenMax, capMax, Int.toNat_natCast, gt_iff_lt, ge_iff_le] at *); (try simp (disch := omega) only [wr, wru, shr1, Int.tdiv_eq_ediv_of_nonneg] at *)); assumption))) ?_; conv => whnf)
    all_goals
      have : scoreF l s now = 0 := by
        unfold scoreF
        unfold hasF at hh
        split
        · rename_i x hx; rw [hx] at hh; simp at hh; simp [hh]
        · rfl
    · rw [this]; rfl
end Go.DL
