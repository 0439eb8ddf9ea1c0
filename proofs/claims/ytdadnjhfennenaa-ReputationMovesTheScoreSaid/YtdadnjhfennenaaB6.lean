import Derived.Test.YtdadnjhfennenaaB5
set_option linter.unusedVariables false
set_option linter.unusedSimpArgs false
set_option maxHeartbeats 4000000
namespace Go.DL
open Go.Proofs

theorem c_check_ok (z : Bool) {l : List Sd} {s : ByteArray} {now : Int} (h : cFault l s now = (0, 0)) : CallV tab 36 [sds z l, .str s, .int .i64 now] (· = .tup [.int .i64 (posF s l), .bool (hasF s l), fv (aFault l s now)]) := by
  have := c_check z l s now
  rwa [if_pos h] at this
theorem c_check_bad (z : Bool) {l : List Sd} {s : ByteArray} {now : Int} (h : cFault l s now ≠ (0, 0)) : CallV tab 36 [sds z l, .str s, .int .i64 now] (· = .tup [.int .i64 0, .bool false, fv (cFault l s now)]) := by
  have := c_check z l s now
  rwa [if_neg h] at this
theorem cF_ok {l : List Sd} {s : ByteArray} {now : Int} (h : cFault l s now = (0, 0)) : sFault l = (0, 0) ∧ nOk s ∧ instOk now := by
  unfold cFault at h
  split at h
  · rename_i h1; exact absurd h h1
  rename_i h1
  split at h
  · simp at h
  rename_i h2
  split at h
  · simp at h
  rename_i h3
  exact ⟨by simpa using h1, by simpa using h2, by simpa using h3⟩
theorem cF_ne {l : List Sd} {s : ByteArray} {now : Int} (h : (cFault l s now).1 = 0) : cFault l s now = (0, 0) := by
  unfold cFault at h ⊢
  split
  · rename_i h1; rw [if_pos h1] at h; exact absurd (sf_ne h) h1
  · rename_i h1; rw [if_neg h1] at h
    split
    · rename_i h2; rw [if_pos h2] at h; simp at h
    · rename_i h2; rw [if_neg h2] at h
      split
      · rename_i h3; rw [if_pos h3] at h; simp at h
      · rfl
theorem aF_z {l : List Sd} {s : ByteArray} {now : Int} (h : (aFault l s now).1 = 0) : aFault l s now = (0, 0) := by
  unfold aFault at h ⊢
  split
  · rename_i h1; rw [if_pos h1] at h; exact absurd (cF_ne h) h1
  · rename_i h1; rw [if_neg h1] at h
    split
    · rename_i h2; rw [if_pos h2] at h; simp at h
    · rfl
theorem aF_ok {l : List Sd} {s : ByteArray} {now : Int} (h : aFault l s now = (0, 0)) : cFault l s now = (0, 0) ∧ later l s now = false := by
  unfold aFault at h
  split at h
  · rename_i h1; exact absurd h h1
  · rename_i h1
    split at h
    · simp at h
    · rename_i h2; exact ⟨by simpa using h1, by simpa using h2⟩
/-- What is known of one who is there. -/
theorem there {l : List Sd} {s : ByteArray} {now : Int} {x : Sd} (h : aFault l s now = (0, 0)) (hh : hasF s l = true) (hx : l[posF s l]? = some x) : rOk x ∧ instOk now ∧ x.d ≤ dayOf now ∧ -795365 ≤ dayOf now ∧ dayOf now ≤ 795365 := by
  obtain ⟨h1, h2⟩ := aF_ok h
  obtain ⟨h3, h4, h5⟩ := cF_ok h1
  have h6 := (sf_ok h3).2.1 x (List.mem_of_getElem? hx)
  rw [later_of hh hx] at h2
  unfold instOk dayOf at *
  simp only [decide_eq_false_iff_not] at h2
  exact ⟨h6.2, h5, by omega, by omega, by omega⟩
def lv (n d : Int) : Int := n / 2 ^ d.toNat
theorem lv_le {n d : Int} (h : 0 ≤ n) : 0 ≤ lv n d ∧ lv n d ≤ n := by
  have p : (0:Int) ≤ 2 ^ d.toNat := by exact_mod_cast Nat.zero_le (2 ^ d.toNat)
  exact ⟨Int.ediv_nonneg h p, Int.ediv_le_self _ h⟩
theorem lv_dec {n d : Int} (h : 0 ≤ n) (h2 : n ≤ 1000000) : n / 2 ^ (min d 40).toNat = lv n d := by
  unfold lv
  by_cases hd : d ≤ 40
  · rw [Int.min_eq_left hd]
  · rw [Int.min_eq_right (by omega)]
    have e : (40 : Int).toNat = 40 := rfl
    rw [e, Int.ediv_eq_zero_of_lt h (by omega)]
    rw [Int.ediv_eq_zero_of_lt h]
    have : (2:Int) ^ 40 ≤ 2 ^ d.toNat := by exact_mod_cast Nat.pow_le_pow_right (by decide) (by omega)
    omega
theorem wtdiv1 {a b : Int} (h : -2000000000 ≤ a ∧ a ≤ 2000000000) (hb : 0 < b) : -9223372036854775808 ≤ a.tdiv b := by
  rw [td hb]; split
  · have := Int.ediv_nonneg (a := a) (b := b) (by omega) (by omega); omega
  · have := Int.ediv_le_self (a := -a) b (by omega); omega
theorem wtdiv2 {a b : Int} (h : -2000000000 ≤ a ∧ a ≤ 2000000000) (hb : 0 < b) : a.tdiv b ≤ 9223372036854775807 := by
  rw [td hb]; split
  · have := Int.ediv_le_self (a := a) b (by omega); omega
  · have := Int.ediv_nonneg (a := -a) (b := b) (by omega) (by omega); omega
def scoreOf (x : Sd) (now : Int) : Int := (1000 * (lv x.g (dayOf now - x.d) - lv x.b (dayOf now - x.d))).tdiv (lv x.g (dayOf now - x.d) + lv x.b (dayOf now - x.d) + 1000)
def scoreF (l : List Sd) (s : ByteArray) (now : Int) : Int := match l[posF s l]? with | some x => if x.n = s then scoreOf x now else 0 | none => 0
theorem c_dec {x : Sd} {now : Int} (hr : rOk x) (hd : x.d ≤ dayOf now) (h1 : dayOf now ≤ 795365) : CallV tab 40 [.agg [.str x.n, .int .i64 x.g, .int .i64 x.b, .int .i64 x.d], .int .i64 (dayOf now)] (· = .agg [.str x.n, .int .i64 (lv x.g (dayOf now - x.d)), .int .i64 (lv x.b (dayOf now - x.d)), .int .i64 (dayOf now)]) := by
  unfold rOk at hr
  have := c_decayed x.n x.g x.b x.d (dayOf now) (by omega)
  rwa [lv_dec (by omega) (by omega), lv_dec (by omega) (by omega)] at this
set_option maxHeartbeats 4000000 in
theorem c_Score (z : Bool) (l : List Sd) (s : ByteArray) (now : Int) : CallV tab 22 [sds z l, .str s, .int .i64 now] (· = .tup [.int .i64 (if aFault l s now = (0, 0) then scoreF l s now else 0), fv (aFault l s now)]) := by
  by_cases hc : cFault l s now = (0, 0)
  · by_cases ha : aFault l s now = (0, 0)
    · cases hh : hasF s l with
      | true =>
        have hl := has_lt hh
        obtain ⟨x, hx⟩ : ∃ x, l[posF s l]? = some x := ⟨l[posF s l]'(by simpa using hl), by simp at hl; simp [hl]⟩
        obtain ⟨t1, t2, t3, t4, t5⟩ := there ha hh hx
        have b1 := lv_le (n := x.g) (d := dayOf now - x.d) t1.1
        have b2 := lv_le (n := x.b) (d := dayOf now - x.d) t1.2.2.1
        have b3 := t1.2.1
        have b4 := t1.2.2.2.1
        have hck := c_check_ok z hc
        rw [hh, ha] at hck
        have hix : (List.map Sd.row l)[((posF s l : Nat) : Int).toNat]? = some x.row := by rw [Int.toNat_natCast, List.getElem?_map, hx]; rfl
        rw [if_pos ha, ha]
        refine callV_of Try.func22 rfl (Nat.le_of_ble_eq_true rfl) (by kernel_rfl) ?_
        repeat' first
          | (refine Exists.intro _ (And.intro hix ?_); conv => whnf)
          | (refine call_pure1 (hck) rfl rfl rfl rfl rfl ?_; conv => whnf)
          | (refine call_pureD (hck) rfl rfl rfl rfl rfl ?_; conv => whnf)
          | (refine call_purePD (c_day _) rfl rfl rfl rfl rfl (by unfold instOk at t2; omega) ?_; conv => whnf)
          | (refine call_pure1 (c_dec t1 t3 t5) rfl rfl rfl rfl rfl ?_; conv => whnf)
          | (refine call_pureD (c_dec t1 t3 t5) rfl rfl rfl rfl rfl ?_; conv => whnf)
          | (refine idxMap (by (first | decide | exact trivial | omega | exact Nat.le_refl _ | (((try simp only [decide_eq_true_eq, decide_eq_false_iff_not, cond_true, cond_false, beq_iff_eq, beq_eq_false_iff_ne, bne_iff_ne, bne_eq_false_iff_eq, ne_eq, Bool.not_eq_true', Bool.not_eq_false', Bool.not_eq_eq_eq_not, Bool.not_true, Bool.not_false, sLe_eq, Bool.and_eq_true, Bool.and_eq_false_iff, List.length_map, List.length_append, List.length_take, List.length_drop, List.length_replicate, List.length_cons, List.length_nil, lenMax, capMax, Int.toNat_natCast, gt_iff_lt, ge_iff_le] at *); (try simp (disch := omega) only [wr, wru, shr1, Int.tdiv_eq_ediv_of_nonneg] at *)); omega) | (((try simp only [decide_eq_true_eq, decide_eq_false_iff_not, cond_true, cond_false, beq_iff_eq, beq_eq_false_iff_ne, bne_iff_ne, bne_eq_false_iff_eq, ne_eq, Bool.not_eq_true', Bool.not_eq_false', Bool.not_eq_eq_eq_not, Bool.not_true, Bool.not_false, sLe_eq, Bool.and_eq_true, Bool.and_eq_false_iff, List.length_map, List.length_append, List.length_take, List.length_drop, List.length_replicate, List.length_cons, List.length_nil, lenMax, capMax, Int.toNat_natCast, gt_iff_lt, ge_iff_le] at *); (try simp (disch := omega) only [wr, wru, shr1, Int.tdiv_eq_ediv_of_nonneg] at *)); assumption))) (fun _ _ => ?_); conv => whnf)
          | refine WpD.seq ?_
          | (refine WpD.region ?_; conv => whnf)
          | (refine WpD.draw ?_; conv => whnf)
          | (refine EndOk.mk (by kernel_rfl) ?_; conv => whnf)
          | refine WpD.block ?_
          | (refine WpD.exit ?_; conv => whnf)
          | (refine WpD.skip ?_; conv => whnf)
          | (refine WpD.ret ?_; conv => whnf)
          | refine WpD.cond rfl ?_
          | (refine Br.tt ?_; try conv => whnf)
          | (refine Br.ff ?_; try conv => whnf)
          | (refine Br.of_t (by assumption) ?_; conv => whnf)
          | (refine Br.of_f (by assumption) ?_; conv => whnf)
          | (refine Br.mk (fun _ => ?_) (fun _ => ?_) <;> try conv => whnf)
          | refine Exists.intro _ (And.intro (DV_toV rfl) ?_)
          | (refine CallOp.std ?_; (conv => whnf); fail_if_success refine (?_ : False))
          | (refine CallDet.std ?_; (conv => whnf); fail_if_success refine (?_ : False))
          | (refine And.intro (by (first | decide | exact trivial | omega | exact Nat.le_refl _ | (((try simp only [decide_eq_true_eq, decide_eq_false_iff_not, cond_true, cond_false, beq_iff_eq, beq_eq_false_iff_ne, bne_iff_ne, bne_eq_false_iff_eq, ne_eq, Bool.not_eq_true', Bool.not_eq_false', Bool.not_eq_eq_eq_not, Bool.not_true, Bool.not_false, sLe_eq, Bool.and_eq_true, Bool.and_eq_false_iff, List.length_map, List.length_append, List.length_take, List.length_drop, List.length_replicate, List.length_cons, List.length_nil, lenMax, capMax, Int.toNat_natCast, gt_iff_lt, ge_iff_le] at *); (try simp (disch := omega) only [wr, wru, shr1, Int.tdiv_eq_ediv_of_nonneg] at *)); omega) | (((try simp only [decide_eq_true_eq, decide_eq_false_iff_not, cond_true, cond_false, beq_iff_eq, beq_eq_false_iff_ne, bne_iff_ne, bne_eq_false_iff_eq, ne_eq, Bool.not_eq_true', Bool.not_eq_false', Bool.not_eq_eq_eq_not, Bool.not_true, Bool.not_false, sLe_eq, Bool.and_eq_true, Bool.and_eq_false_iff, List.length_map, List.length_append, List.length_take, List.length_drop, List.length_replicate, List.length_cons, List.length_nil, lenMax, capMax, Int.toNat_natCast, gt_iff_lt, ge_iff_le] at *); (try simp (disch := omega) only [wr, wru, shr1, Int.tdiv_eq_ediv_of_nonneg] at *)); assumption))) ?_; conv => whnf)
        all_goals
          rw [scoreF, hx]
          simp only [has_n hh hx, if_true, scoreOf]
          rw [wr (x := lv _ _ - lv _ _) (by omega) (by omega), wr (x := lv _ _ + lv _ _) (by omega) (by omega), wr (x := 1000 * _) (by omega) (by omega), wr (x := _ + 1000) (by omega) (by omega)]
          rw [wr (wtdiv1 (by omega) (by omega)) (wtdiv2 (by omega) (by omega))]
          rfl
      | false =>
        have hck := c_check_ok z hc
        rw [hh, ha] at hck
        rw [if_pos ha, ha]
        refine callV_of Try.func22 rfl (Nat.le_of_ble_eq_true rfl) (by kernel_rfl) ?_
        repeat' first
          | (refine call_pure1 (hck) rfl rfl rfl rfl rfl ?_; conv => whnf)
          | (refine call_pureD (hck) rfl rfl rfl rfl rfl ?_; conv => whnf)
          | (refine idxMap (by (first | decide | exact trivial | omega | exact Nat.le_refl _ | (((try simp only [decide_eq_true_eq, decide_eq_false_iff_not, cond_true, cond_false, beq_iff_eq, beq_eq_false_iff_ne, bne_iff_ne, bne_eq_false_iff_eq, ne_eq, Bool.not_eq_true', Bool.not_eq_false', Bool.not_eq_eq_eq_not, Bool.not_true, Bool.not_false, sLe_eq, Bool.and_eq_true, Bool.and_eq_false_iff, List.length_map, List.length_append, List.length_take, List.length_drop, List.length_replicate, List.length_cons, List.length_nil, lenMax, capMax, Int.toNat_natCast, gt_iff_lt, ge_iff_le] at *); (try simp (disch := omega) only [wr, wru, shr1, Int.tdiv_eq_ediv_of_nonneg] at *)); omega) | (((try simp only [decide_eq_true_eq, decide_eq_false_iff_not, cond_true, cond_false, beq_iff_eq, beq_eq_false_iff_ne, bne_iff_ne, bne_eq_false_iff_eq, ne_eq, Bool.not_eq_true', Bool.not_eq_false', Bool.not_eq_eq_eq_not, Bool.not_true, Bool.not_false, sLe_eq, Bool.and_eq_true, Bool.and_eq_false_iff, List.length_map, List.length_append, List.length_take, List.length_drop, List.length_replicate, List.length_cons, List.length_nil, lenMax, capMax, Int.toNat_natCast, gt_iff_lt, ge_iff_le] at *); (try simp (disch := omega) only [wr, wru, shr1, Int.tdiv_eq_ediv_of_nonneg] at *)); assumption))) (fun _ _ => ?_); conv => whnf)
          | refine WpD.seq ?_
          | (refine WpD.region ?_; conv => whnf)
          | (refine WpD.draw ?_; conv => whnf)
          | (refine EndOk.mk (by kernel_rfl) ?_; conv => whnf)
          | refine WpD.block ?_
          | (refine WpD.exit ?_; conv => whnf)
          | (refine WpD.skip ?_; conv => whnf)
          | (refine WpD.ret ?_; conv => whnf)
          | refine WpD.cond rfl ?_
          | (refine Br.tt ?_; try conv => whnf)
          | (refine Br.ff ?_; try conv => whnf)
          | (refine Br.of_t (by assumption) ?_; conv => whnf)
          | (refine Br.of_f (by assumption) ?_; conv => whnf)
          | (refine Br.mk (fun _ => ?_) (fun _ => ?_) <;> try conv => whnf)
          | refine Exists.intro _ (And.intro (DV_toV rfl) ?_)
          | (refine CallOp.std ?_; (conv => whnf); fail_if_success refine (?_ : False))
          | (refine CallDet.std ?_; (conv => whnf); fail_if_success refine (?_ : False))
          | (refine And.intro (by (first | decide | exact trivial | omega | exact Nat.le_refl _ | (((try simp only [decide_eq_true_eq, decide_eq_false_iff_not, cond_true, cond_false, beq_iff_eq, beq_eq_false_iff_ne, bne_iff_ne, bne_eq_false_iff_eq, ne_eq, Bool.not_eq_true', Bool.not_eq_false', Bool.not_eq_eq_eq_not, Bool.not_true, Bool.not_false, sLe_eq, Bool.and_eq_true, Bool.and_eq_false_iff, List.length_map, List.length_append, List.length_take, List.length_drop, List.length_replicate, List.length_cons, List.length_nil, lenMax, capMax, Int.toNat_natCast, gt_iff_lt, ge_iff_le] at *); (try simp (disch := omega) only [wr, wru, shr1, Int.tdiv_eq_ediv_of_nonneg] at *)); omega) | (((try simp only [decide_eq_true_eq, decide_eq_false_iff_not, cond_true, cond_false, beq_iff_eq, beq_eq_false_iff_ne, bne_iff_ne, bne_eq_false_iff_eq, ne_eq, Bool.not_eq_true', Bool.not_eq_false', Bool.not_eq_eq_eq_not, Bool.not_true, Bool.not_false, sLe_eq, Bool.and_eq_true, Bool.and_eq_false_iff, List.length_map, List.length_append, List.length_take, List.length_drop, List.length_replicate, List.length_cons, List.length_nil, lenMax, capMax, Int.toNat_natCast, gt_iff_lt, ge_iff_le] at *); (try simp (disch := omega) only [wr, wru, shr1, Int.tdiv_eq_ediv_of_nonneg] at *)); assumption))) ?_; conv => whnf)
        all_goals
          have : scoreF l s now = 0 := by
            unfold scoreF
            unfold hasF at hh
            split
            · rename_i x hx; rw [hx] at hh; simp at hh; simp [hh]
            · rfl
          rw [this]; rfl
    · have hck := c_check_ok z hc
      rw [if_neg ha]
      have hn : ((aFault l s now).1 == 0 && ((aFault l s now).2 == 0 && true)) = false := by
        cases h : ((aFault l s now).1 == 0) with
        | false => rfl
        | true => exact absurd (aF_z (by simpa using h)) ha
      have hn' : (!((aFault l s now).1 == 0 && ((aFault l s now).2 == 0 && true))) = true := by rw [hn]; rfl
      refine callV_of Try.func22 rfl (Nat.le_of_ble_eq_true rfl) (by kernel_rfl) ?_
      repeat' first
        | (refine call_pure1 (hck) rfl rfl rfl rfl rfl ?_; conv => whnf)
        | (refine call_pureD (hck) rfl rfl rfl rfl rfl ?_; conv => whnf)
        | (refine idxMap (by (first | decide | exact trivial | omega | exact Nat.le_refl _ | (((try simp only [decide_eq_true_eq, decide_eq_false_iff_not, cond_true, cond_false, beq_iff_eq, beq_eq_false_iff_ne, bne_iff_ne, bne_eq_false_iff_eq, ne_eq, Bool.not_eq_true', Bool.not_eq_false', Bool.not_eq_eq_eq_not, Bool.not_true, Bool.not_false, sLe_eq, Bool.and_eq_true, Bool.and_eq_false_iff, List.length_map, List.length_append, List.length_take, List.length_drop, List.length_replicate, List.length_cons, List.length_nil, lenMax, capMax, Int.toNat_natCast, gt_iff_lt, ge_iff_le] at *); (try simp (disch := omega) only [wr, wru, shr1, Int.tdiv_eq_ediv_of_nonneg] at *)); omega) | (((try simp only [decide_eq_true_eq, decide_eq_false_iff_not, cond_true, cond_false, beq_iff_eq, beq_eq_false_iff_ne, bne_iff_ne, bne_eq_false_iff_eq, ne_eq, Bool.not_eq_true', Bool.not_eq_false', Bool.not_eq_eq_eq_not, Bool.not_true, Bool.not_false, sLe_eq, Bool.and_eq_true, Bool.and_eq_false_iff, List.length_map, List.length_append, List.length_take, List.length_drop, List.length_replicate, List.length_cons, List.length_nil, lenMax, capMax, Int.toNat_natCast, gt_iff_lt, ge_iff_le] at *); (try simp (disch := omega) only [wr, wru, shr1, Int.tdiv_eq_ediv_of_nonneg] at *)); assumption))) (fun _ _ => ?_); conv => whnf)
        | refine WpD.seq ?_
        | (refine WpD.region ?_; conv => whnf)
        | (refine WpD.draw ?_; conv => whnf)
        | (refine EndOk.mk (by kernel_rfl) ?_; conv => whnf)
        | refine WpD.block ?_
        | (refine WpD.exit ?_; conv => whnf)
        | (refine WpD.skip ?_; conv => whnf)
        | (refine WpD.ret ?_; conv => whnf)
        | refine WpD.cond rfl ?_
        | (refine Br.tt ?_; try conv => whnf)
        | (refine Br.ff ?_; try conv => whnf)
        | (refine Br.of_t (by assumption) ?_; conv => whnf)
        | (refine Br.of_f (by assumption) ?_; conv => whnf)
        | (refine Br.mk (fun _ => ?_) (fun _ => ?_) <;> try conv => whnf)
        | refine Exists.intro _ (And.intro (DV_toV rfl) ?_)
        | (refine CallOp.std ?_; (conv => whnf); fail_if_success refine (?_ : False))
        | (refine CallDet.std ?_; (conv => whnf); fail_if_success refine (?_ : False))
        | (refine And.intro (by (first | decide | exact trivial | omega | exact Nat.le_refl _ | (((try simp only [decide_eq_true_eq, decide_eq_false_iff_not, cond_true, cond_false, beq_iff_eq, beq_eq_false_iff_ne, bne_iff_ne, bne_eq_false_iff_eq, ne_eq, Bool.not_eq_true', Bool.not_eq_false', Bool.not_eq_eq_eq_not, Bool.not_true, Bool.not_false, sLe_eq, Bool.and_eq_true, Bool.and_eq_false_iff, List.length_map, List.length_append, List.length_take, List.length_drop, List.length_replicate, List.length_cons, List.length_nil, lenMax, capMax, Int.toNat_natCast, gt_iff_lt, ge_iff_le] at *); (try simp (disch := omega) only [wr, wru, shr1, Int.tdiv_eq_ediv_of_nonneg] at *)); omega) | (((try simp only [decide_eq_true_eq, decide_eq_false_iff_not, cond_true, cond_false, beq_iff_eq, beq_eq_false_iff_ne, bne_iff_ne, bne_eq_false_iff_eq, ne_eq, Bool.not_eq_true', Bool.not_eq_false', Bool.not_eq_eq_eq_not, Bool.not_true, Bool.not_false, sLe_eq, Bool.and_eq_true, Bool.and_eq_false_iff, List.length_map, List.length_append, List.length_take, List.length_drop, List.length_replicate, List.length_cons, List.length_nil, lenMax, capMax, Int.toNat_natCast, gt_iff_lt, ge_iff_le] at *); (try simp (disch := omega) only [wr, wru, shr1, Int.tdiv_eq_ediv_of_nonneg] at *)); assumption))) ?_; conv => whnf)
      all_goals rfl
  · have hck := c_check_bad z hc
    have ha : aFault l s now = cFault l s now := by unfold aFault; rw [if_pos hc]
    rw [ha, if_neg hc]
    have hn : ((cFault l s now).1 == 0 && ((cFault l s now).2 == 0 && true)) = false := by
      cases h : ((cFault l s now).1 == 0) with
      | false => rfl
      | true => exact absurd (cF_ne (by simpa using h)) hc
    have hn' : (!((cFault l s now).1 == 0 && ((cFault l s now).2 == 0 && true))) = true := by rw [hn]; rfl
    refine callV_of Try.func22 rfl (Nat.le_of_ble_eq_true rfl) (by kernel_rfl) ?_
    repeat' first
      | (refine call_pure1 (hck) rfl rfl rfl rfl rfl ?_; conv => whnf)
      | (refine call_pureD (hck) rfl rfl rfl rfl rfl ?_; conv => whnf)
      | (refine idxMap (by (first | decide | exact trivial | omega | exact Nat.le_refl _ | (((try simp only [decide_eq_true_eq, decide_eq_false_iff_not, cond_true, cond_false, beq_iff_eq, beq_eq_false_iff_ne, bne_iff_ne, bne_eq_false_iff_eq, ne_eq, Bool.not_eq_true', Bool.not_eq_false', Bool.not_eq_eq_eq_not, Bool.not_true, Bool.not_false, sLe_eq, Bool.and_eq_true, Bool.and_eq_false_iff, List.length_map, List.length_append, List.length_take, List.length_drop, List.length_replicate, List.length_cons, List.length_nil, lenMax, capMax, Int.toNat_natCast, gt_iff_lt, ge_iff_le] at *); (try simp (disch := omega) only [wr, wru, shr1, Int.tdiv_eq_ediv_of_nonneg] at *)); omega) | (((try simp only [decide_eq_true_eq, decide_eq_false_iff_not, cond_true, cond_false, beq_iff_eq, beq_eq_false_iff_ne, bne_iff_ne, bne_eq_false_iff_eq, ne_eq, Bool.not_eq_true', Bool.not_eq_false', Bool.not_eq_eq_eq_not, Bool.not_true, Bool.not_false, sLe_eq, Bool.and_eq_true, Bool.and_eq_false_iff, List.length_map, List.length_append, List.length_take, List.length_drop, List.length_replicate, List.length_cons, List.length_nil, lenMax, capMax, Int.toNat_natCast, gt_iff_lt, ge_iff_le] at *); (try simp (disch := omega) only [wr, wru, shr1, Int.tdiv_eq_ediv_of_nonneg] at *)); assumption))) (fun _ _ => ?_); conv => whnf)
      | refine WpD.seq ?_
      | (refine WpD.region ?_; conv => whnf)
      | (refine WpD.draw ?_; conv => whnf)
      | (refine EndOk.mk (by kernel_rfl) ?_; conv => whnf)
      | refine WpD.block ?_
      | (refine WpD.exit ?_; conv => whnf)
      | (refine WpD.skip ?_; conv => whnf)
      | (refine WpD.ret ?_; conv => whnf)
      | refine WpD.cond rfl ?_
      | (refine Br.tt ?_; try conv => whnf)
      | (refine Br.ff ?_; try conv => whnf)
      | (refine Br.of_t (by assumption) ?_; conv => whnf)
      | (refine Br.of_f (by assumption) ?_; conv => whnf)
      | (refine Br.mk (fun _ => ?_) (fun _ => ?_) <;> try conv => whnf)
      | refine Exists.intro _ (And.intro (DV_toV rfl) ?_)
      | (refine CallOp.std ?_; (conv => whnf); fail_if_success refine (?_ : False))
      | (refine CallDet.std ?_; (conv => whnf); fail_if_success refine (?_ : False))
      | (refine And.intro (by (first | decide | exact trivial | omega | exact Nat.le_refl _ | (((try simp only [decide_eq_true_eq, decide_eq_false_iff_not, cond_true, cond_false, beq_iff_eq, beq_eq_false_iff_ne, bne_iff_ne, bne_eq_false_iff_eq, ne_eq, Bool.not_eq_true', Bool.not_eq_false', Bool.not_eq_eq_eq_not, Bool.not_true, Bool.not_false, sLe_eq, Bool.and_eq_true, Bool.and_eq_false_iff, List.length_map, List.length_append, List.length_take, List.length_drop, List.length_replicate, List.length_cons, List.length_nil, lenMax, capMax, Int.toNat_natCast, gt_iff_lt, ge_iff_le] at *); (try simp (disch := omega) only [wr, wru, shr1, Int.tdiv_eq_ediv_of_nonneg] at *)); omega) | (((try simp only [decide_eq_true_eq, decide_eq_false_iff_not, cond_true, cond_false, beq_iff_eq, beq_eq_false_iff_ne, bne_iff_ne, bne_eq_false_iff_eq, ne_eq, Bool.not_eq_true', Bool.not_eq_false', Bool.not_eq_eq_eq_not, Bool.not_true, Bool.not_false, sLe_eq, Bool.and_eq_true, Bool.and_eq_false_iff, List.length_map, List.length_append, List.length_take, List.length_drop, List.length_replicate, List.length_cons, List.length_nil, lenMax, capMax, Int.toNat_natCast, gt_iff_lt, ge_iff_le] at *); (try simp (disch := omega) only [wr, wru, shr1, Int.tdiv_eq_ediv_of_nonneg] at *)); assumption))) ?_; conv => whnf)
    all_goals rfl
end Go.DL
