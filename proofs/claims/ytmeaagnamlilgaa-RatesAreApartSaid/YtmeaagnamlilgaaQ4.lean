/- Rates: what a valid rate limit is; Allow by cases. No condition. -/
import Derived.Test.YtmeaagnamlilgaaQ3
set_option linter.unusedVariables false
set_option linter.unusedSimpArgs false
set_option maxHeartbeats 4000000
namespace Go.DL
open Go.Proofs

theorem uchk_inv {m : Int} {p : Option Us} {x : Us} (h : uchk m p x = 0) : uOk m x ∧ ∀ y, p = some y → y.a ≤ x.a := by
  unfold uchk at h
  split at h
  · simp at h
  · rename_i h1
    refine ⟨by simpa using h1, fun y hy => ?_⟩
    subst hy
    dsimp only at h
    split at h
    · simp at h
    · omega
/-- A key's uses are as they should be. -/
structure okK (m : Int) (x : Rk) : Prop where
  n : nSz x.k
  l : x.u.length ≤ 300
  u : ∀ y ∈ x.u, uOk m y
  s : x.u.Pairwise fun y y' => y.a ≤ y'.a
theorem pw_of_adj {α : Type} {f : α → Int} {l : List α} (h : ∀ (i : Nat) x y, l[i]? = some x → l[i + 1]? = some y → f x ≤ f y) : l.Pairwise fun x y => f x ≤ f y := by
  induction l with
  | nil => exact .nil
  | cons x l ih =>
    have ih' := ih (fun i y z hy hz => h (i + 1) y z (by simpa using hy) (by simpa using hz))
    refine .cons (fun y hy => ?_) ih'
    cases l with
    | nil => cases hy
    | cons z l =>
      have h0 := h 0 x z rfl rfl
      rcases List.mem_cons.1 hy with rfl | hy
      · exact h0
      · exact Int.le_trans h0 ((List.pairwise_cons.1 ih').1 y hy)
theorem keyF_inv {m : Int} {x : Rk} (h : keyF m x = 0) : okK m x := by
  unfold keyF at h
  split at h
  · simp at h
  · rename_i h1
    split at h
    · simp at h
    · rename_i h2
      have hv := vfl_ok.1 (vfl_ne _ _ _ h)
      refine ⟨by simpa using h1, by omega, fun y hy => ?_, pw_of_adj fun i y y' hy hy' => ?_⟩
      · obtain ⟨i, hi, rfl⟩ := List.mem_iff_getElem.1 hy
        exact (uchk_inv (hv i _ (by simp [hi]))).1
      · have := hv (i + 1) y' hy'
        rw [if_neg (by omega)] at this
        exact (uchk_inv this).2 y (by simpa using hy)
theorem keyF_mk {m : Int} {x : Rk} (h : okK m x) : keyF m x = 0 := by
  rw [keyF_v h.n h.l (c := (0, 0)) (vfl_ok.2 fun i y hy => ?_)]
  by_cases hi : i = 0
  · subst hi; exact uchk_0 (h.u y (List.mem_of_getElem? hy))
  · rw [if_neg hi]
    have hlt := lt_get hy
    obtain ⟨z, hz⟩ : ∃ z, x.u[i - 1]? = some z := ⟨_, List.getElem?_eq_getElem (by omega)⟩
    rw [hz]
    refine uchk_1 (h.u y (List.mem_of_getElem? hy)) ?_
    have := List.pairwise_iff_getElem.1 h.s (i - 1) i (by omega) hlt (by omega)
    rw [List.getElem?_eq_getElem (by omega)] at hz hy
    injection hz with hz; injection hy with hy
    rw [hz, hy] at this; omega
structure okT (r : Rt) : Prop where
  w : 1 ≤ r.w ∧ r.w ≤ 1000000
  m : 0 ≤ r.m ∧ r.m ≤ 1000000
  l : r.l.length ≤ 300
  k : ∀ x ∈ r.l, okK r.m x
  s : SR r.l
theorem kchk_inv {m : Int} {p : Option Rk} {x : Rk} (h : kchk m p x = 0) : okK m x ∧ ∀ y, p = some y → sLt y.k x.k = true := by
  unfold kchk at h
  split at h
  · rename_i h1; exact absurd h h1
  · rename_i h1
    refine ⟨keyF_inv (by simpa using h1), fun y hy => ?_⟩
    subst hy
    dsimp only at h
    split at h
    · assumption
    · simp at h
theorem sr_of_adj {l : List Rk} (h : ∀ (i : Nat) x y, l[i]? = some x → l[i + 1]? = some y → sLt x.k y.k = true) : SR l := by
  unfold SR SortL
  induction l with
  | nil => exact .nil
  | cons x l ih =>
    have ih' := ih (fun i y z hy hz => h (i + 1) y z (by simpa using hy) (by simpa using hz))
    refine .cons (fun y hy => ?_) ih'
    cases l with
    | nil => cases hy
    | cons z l =>
      have h0 := h 0 x z rfl rfl
      rcases List.mem_cons.1 hy with rfl | hy
      · exact h0
      · exact sLt_trans h0 ((List.pairwise_cons.1 ih').1 y hy)
theorem ratF_ok {r : Rt} (h : ratF r = (0, 0)) : okT r := by
  unfold ratF at h
  split at h
  · simp at h
  · split at h
    · simp at h
    · have hv := vfl_ok.1 h
      refine ⟨by omega, by omega, by omega, fun x hx => ?_, sr_of_adj fun i x y hx hy => ?_⟩
      · obtain ⟨i, hi, rfl⟩ := List.mem_iff_getElem.1 hx
        exact (kchk_inv (hv i _ (by simp [hi]))).1
      · have := hv (i + 1) y hy
        rw [if_neg (by omega)] at this
        exact (kchk_inv this).2 x (by simpa using hx)
theorem ok_ratF {r : Rt} (h : okT r) : ratF r = (0, 0) := by
  unfold ratF
  have := h.w; have := h.m; have := h.l
  rw [if_neg (by omega), if_neg (by omega)]
  refine vfl_ok.2 fun i x hx => ?_
  have hk := keyF_mk (h.k x (List.mem_of_getElem? hx))
  by_cases hi : i = 0
  · subst hi; exact kchk_0 hk
  · rw [if_neg hi]
    have hlt := lt_get hx
    obtain ⟨z, hz⟩ : ∃ z, r.l[i - 1]? = some z := ⟨_, List.getElem?_eq_getElem (by omega)⟩
    rw [hz]
    exact kchk_1 hk (sort_get h.s (by omega) hz hx)
theorem ratF_0 {r : Rt} (h : (ratF r).1 = 0) : ratF r = (0, 0) := by
  unfold ratF at h ⊢
  split
  · rename_i h1; rw [if_pos h1] at h; simp at h
  · rename_i h1
    rw [if_neg h1] at h
    split
    · rename_i h2; rw [if_pos h2] at h; simp at h
    · rename_i h2; rw [if_neg h2] at h; exact vfl_ne _ _ _ h
def alF (r : Rt) (key : ByteArray) (n now : Int) : Int × Int := if ratF r ≠ (0, 0) then ratF r else if ¬ nSz key then (10, -4) else if ¬ (1 ≤ n ∧ n ≤ 1000000) then (3, -5) else if ¬ (-68719476736 ≤ now ∧ now ≤ 68719476736) then (3, -2) else (0, 0)
theorem alF_ok {r : Rt} {key : ByteArray} {n now : Int} (h : alF r key n now = (0, 0)) : okT r ∧ nSz key ∧ (1 ≤ n ∧ n ≤ 1000000) ∧ (-68719476736 ≤ now ∧ now ≤ 68719476736) := by
  unfold alF at h
  split at h
  · rename_i h1; exact absurd h h1
  · rename_i h1
    have h1 : ratF r = (0, 0) := by simpa using h1
    split at h
    · simp at h
    · split at h
      · simp at h
      · split at h
        · simp at h
        · exact ⟨ratF_ok h1, by simpa using ‹¬¬nSz key›, by omega, by omega⟩
def rt0 : Rt := ⟨0, 0, true, []⟩
theorem c_Allow_bad (r : Rt) (key : ByteArray) (n now : Int) (h : alF r key n now ≠ (0, 0)) : CallV tab 19 [.agg r.row, .str key, .int .i64 n, .int .i64 now] (· = .tup [.agg rt0.row, .bool false, fv (alF r key n now)]) := by
  have h1 := c_rValidate r
  refine callV_of Try.func19 rfl (Nat.le_of_ble_eq_true rfl) (by kernel_rfl) ?_
  repeat' first
    | (apply Br.id; first
      | (apply Br.tt; try conv => whnf)
      | (apply Br.ff; try conv => whnf)
      | (refine Br.of_t (by assumption) ?_; conv => whnf)
      | (refine Br.of_f (by assumption) ?_; conv => whnf)
      | (refine Br.mk (fun _ => ?_) (fun _ => ?_) <;> try conv => whnf))
    | (apply CallOp.id; first
      | (refine call_at rfl rfl rfl rfl rfl ?_)
      | (refine call_rd rfl rfl rfl rfl rfl ?_)
      | (refine CallOp.std ?_; (conv => whnf); fail_if_success refine (?_ : False)))
    | (apply CallDet.id; first
      | (refine call_atD rfl rfl rfl rfl rfl ?_)
      | (refine call_rdD rfl rfl rfl rfl rfl ?_)
      | (refine CallDet.std ?_; (conv => whnf); fail_if_success refine (?_ : False)))
    | (apply CallAt.id; first
      | (apply CallAt.mk1 (h1); conv => whnf))
    | (apply CallRd.id; first
      | (apply CallRd.mk1 (h1); (· rfl); conv => whnf))
    | (refine EndOk.mk (by kernel_rfl) ?_; conv => whnf)
    | (refine And.intro (by (first | decide | exact trivial | omega | exact Nat.le_refl _ | (((try simp only [decide_eq_true_eq, decide_eq_false_iff_not, cond_true, cond_false, beq_iff_eq, beq_eq_false_iff_ne, bne_iff_ne, bne_eq_false_iff_eq, ne_eq, Bool.not_eq_true', Bool.not_eq_false', Bool.not_eq_eq_eq_not, Bool.not_true, Bool.not_false, sLe_eq, Bool.and_eq_true, Bool.and_eq_false_iff, List.length_map, List.length_set, List.length_append, List.length_take, List.length_drop, List.length_replicate, List.length_cons, List.length_nil, lenMax, capMax, Int.toNat_natCast, gt_iff_lt, ge_iff_le] at *); (try simp (disch := omega) only [wr, wru, shr1, Int.tdiv_eq_ediv_of_nonneg] at *)); omega) | (((try simp only [decide_eq_true_eq, decide_eq_false_iff_not, cond_true, cond_false, beq_iff_eq, beq_eq_false_iff_ne, bne_iff_ne, bne_eq_false_iff_eq, ne_eq, Bool.not_eq_true', Bool.not_eq_false', Bool.not_eq_eq_eq_not, Bool.not_true, Bool.not_false, sLe_eq, Bool.and_eq_true, Bool.and_eq_false_iff, List.length_map, List.length_set, List.length_append, List.length_take, List.length_drop, List.length_replicate, List.length_cons, List.length_nil, lenMax, capMax, Int.toNat_natCast, gt_iff_lt, ge_iff_le] at *); (try simp (disch := omega) only [wr, wru, shr1, Int.tdiv_eq_ediv_of_nonneg] at *)); assumption))) ?_; conv => whnf)
    | (refine idxOld (by assumption) ?_; conv => whnf)
    | (refine idxMap (by (first | decide | exact trivial | omega | exact Nat.le_refl _ | (((try simp only [decide_eq_true_eq, decide_eq_false_iff_not, cond_true, cond_false, beq_iff_eq, beq_eq_false_iff_ne, bne_iff_ne, bne_eq_false_iff_eq, ne_eq, Bool.not_eq_true', Bool.not_eq_false', Bool.not_eq_eq_eq_not, Bool.not_true, Bool.not_false, sLe_eq, Bool.and_eq_true, Bool.and_eq_false_iff, List.length_map, List.length_set, List.length_append, List.length_take, List.length_drop, List.length_replicate, List.length_cons, List.length_nil, lenMax, capMax, Int.toNat_natCast, gt_iff_lt, ge_iff_le] at *); (try simp (disch := omega) only [wr, wru, shr1, Int.tdiv_eq_ediv_of_nonneg] at *)); omega) | (((try simp only [decide_eq_true_eq, decide_eq_false_iff_not, cond_true, cond_false, beq_iff_eq, beq_eq_false_iff_ne, bne_iff_ne, bne_eq_false_iff_eq, ne_eq, Bool.not_eq_true', Bool.not_eq_false', Bool.not_eq_eq_eq_not, Bool.not_true, Bool.not_false, sLe_eq, Bool.and_eq_true, Bool.and_eq_false_iff, List.length_map, List.length_set, List.length_append, List.length_take, List.length_drop, List.length_replicate, List.length_cons, List.length_nil, lenMax, capMax, Int.toNat_natCast, gt_iff_lt, ge_iff_le] at *); (try simp (disch := omega) only [wr, wru, shr1, Int.tdiv_eq_ediv_of_nonneg] at *)); assumption))) (fun _ _ => ?_); conv => whnf)
    | refine Exists.intro _ (And.intro (DV_toV rfl) ?_)
    | (refine rowSet (by (first | decide | exact trivial | omega | exact Nat.le_refl _ | (((try simp only [decide_eq_true_eq, decide_eq_false_iff_not, cond_true, cond_false, beq_iff_eq, beq_eq_false_iff_ne, bne_iff_ne, bne_eq_false_iff_eq, ne_eq, Bool.not_eq_true', Bool.not_eq_false', Bool.not_eq_eq_eq_not, Bool.not_true, Bool.not_false, sLe_eq, Bool.and_eq_true, Bool.and_eq_false_iff, List.length_map, List.length_set, List.length_append, List.length_take, List.length_drop, List.length_replicate, List.length_cons, List.length_nil, lenMax, capMax, Int.toNat_natCast, gt_iff_lt, ge_iff_le] at *); (try simp (disch := omega) only [wr, wru, shr1, Int.tdiv_eq_ediv_of_nonneg] at *)); omega) | (((try simp only [decide_eq_true_eq, decide_eq_false_iff_not, cond_true, cond_false, beq_iff_eq, beq_eq_false_iff_ne, bne_iff_ne, bne_eq_false_iff_eq, ne_eq, Bool.not_eq_true', Bool.not_eq_false', Bool.not_eq_eq_eq_not, Bool.not_true, Bool.not_false, sLe_eq, Bool.and_eq_true, Bool.and_eq_false_iff, List.length_map, List.length_set, List.length_append, List.length_take, List.length_drop, List.length_replicate, List.length_cons, List.length_nil, lenMax, capMax, Int.toNat_natCast, gt_iff_lt, ge_iff_le] at *); (try simp (disch := omega) only [wr, wru, shr1, Int.tdiv_eq_ediv_of_nonneg] at *)); assumption))) ?_; conv => whnf)
    | (refine rowOld (by assumption) ?_; conv => whnf)
    | (refine rowNew (by (first | decide | exact trivial | omega | exact Nat.le_refl _ | (((try simp only [decide_eq_true_eq, decide_eq_false_iff_not, cond_true, cond_false, beq_iff_eq, beq_eq_false_iff_ne, bne_iff_ne, bne_eq_false_iff_eq, ne_eq, Bool.not_eq_true', Bool.not_eq_false', Bool.not_eq_eq_eq_not, Bool.not_true, Bool.not_false, sLe_eq, Bool.and_eq_true, Bool.and_eq_false_iff, List.length_map, List.length_set, List.length_append, List.length_take, List.length_drop, List.length_replicate, List.length_cons, List.length_nil, lenMax, capMax, Int.toNat_natCast, gt_iff_lt, ge_iff_le] at *); (try simp (disch := omega) only [wr, wru, shr1, Int.tdiv_eq_ediv_of_nonneg] at *)); omega) | (((try simp only [decide_eq_true_eq, decide_eq_false_iff_not, cond_true, cond_false, beq_iff_eq, beq_eq_false_iff_ne, bne_iff_ne, bne_eq_false_iff_eq, ne_eq, Bool.not_eq_true', Bool.not_eq_false', Bool.not_eq_eq_eq_not, Bool.not_true, Bool.not_false, sLe_eq, Bool.and_eq_true, Bool.and_eq_false_iff, List.length_map, List.length_set, List.length_append, List.length_take, List.length_drop, List.length_replicate, List.length_cons, List.length_nil, lenMax, capMax, Int.toNat_natCast, gt_iff_lt, ge_iff_le] at *); (try simp (disch := omega) only [wr, wru, shr1, Int.tdiv_eq_ediv_of_nonneg] at *)); assumption))) (fun _ _ => ?_); conv => whnf)
    | (apply WpD.id; first
      | (refine WpD.walk rfl ?_; conv => whnf))
  all_goals ((try simp only [decide_eq_true_eq, decide_eq_false_iff_not, cond_true, cond_false, beq_iff_eq, beq_eq_false_iff_ne, bne_iff_ne, bne_eq_false_iff_eq, ne_eq, Bool.not_eq_true', Bool.not_eq_false', Bool.not_eq_eq_eq_not, Bool.not_true, Bool.not_false, sLe_eq, Bool.and_eq_true, Bool.and_eq_false_iff, List.length_map, List.length_set, List.length_append, List.length_take, List.length_drop, List.length_replicate, List.length_cons, List.length_nil, lenMax, capMax, Int.toNat_natCast, gt_iff_lt, ge_iff_le] at *); (try simp (disch := omega) only [wr, wru, shr1, Int.tdiv_eq_ediv_of_nonneg] at *))
  all_goals first
    | (have hne : ratF r ≠ (0, 0) := by intro e; rename _ ∨ _ => q; rw [e] at q; simp at q
       rw [alF, if_pos hne]; rfl)
    | (have he : ratF r = (0, 0) := by rename _ ∧ _ ∧ True => q; exact Prod.ext q.1 q.2.1
       have e : alF r key n now = (10, -4) := by rw [alF, if_neg (by simpa using he), if_pos (by unfold nSz; omega)]
       rw [e]; rfl)
    | (have he : ratF r = (0, 0) := by rename _ ∧ _ ∧ True => q; exact Prod.ext q.1 q.2.1
       have e : alF r key n now = (3, -5) := by rw [alF, if_neg (by simpa using he), if_neg (by unfold nSz; omega), if_pos (by omega)]
       rw [e]; rfl)
    | (have he : ratF r = (0, 0) := by rename _ ∧ _ ∧ True => q; exact Prod.ext q.1 q.2.1
       have e : alF r key n now = (3, -2) := by rw [alF, if_neg (by simpa using he), if_neg (by unfold nSz; omega), if_neg (by omega), if_pos (by omega)]
       rw [e]; rfl)
    | (have he : ratF r = (0, 0) := by rename _ ∧ _ ∧ True => q; exact Prod.ext q.1 q.2.1
       exfalso; apply h
       rw [alF, if_neg (by simpa using he), if_neg (by unfold nSz; omega), if_neg (by omega), if_neg (by omega)])
    | skip
  all_goals trace_state
def leftU (r : Rt) (now : Int) (u : List Us) : List Us := u.filter fun y => !oldU now r.w y
def setR (r : Rt) (i : Nat) (k : ByteArray) (u : List Us) : Rt := ⟨r.w, r.m, false, (r.l.map unz).set i ⟨k, false, u⟩⟩
def insR (r : Rt) (i : Nat) (x : Rk) : Rt := ⟨r.w, r.m, false, (r.l.map unz).take i ++ x :: (r.l.map unz).drop i⟩
theorem c_Allow_full (r : Rt) (key : ByteArray) (n now : Int) (h : alF r key n now = (0, 0)) (hh : hR key r.l = false) (h3 : r.l.length = 300) : CallV tab 19 [.agg r.row, .str key, .int .i64 n, .int .i64 now] (· = .tup [.agg rt0.row, .bool false, fv (2, -1)]) := by
  obtain ⟨ho, ⟨k1, k2⟩, hn, hw⟩ := alF_ok h
  have h1 := c_rValidate r
  rw [ok_ratF ho] at h1
  have h2 := c_SearchR r.z r.l key ⟨by omega, ho.s⟩
  rw [hh] at h2
  have d1 : decide ((key.size : Int) < 1) = false := by simp; omega
  have d2 : decide ((key.size : Int) > 4000) = false := by simp; omega
  have d3 : decide (n < 1) = false := by simp; omega
  have d4 : decide (n > 1000000) = false := by simp; omega
  have d5 : decide (now < -68719476736) = false := by simp; omega
  have d6 : decide (now > 68719476736) = false := by simp; omega
  refine callV_of Try.func19 rfl (Nat.le_of_ble_eq_true rfl) (by kernel_rfl) ?_
  repeat' first
    | (apply Br.id; first
      | (apply Br.tt; try conv => whnf)
      | (apply Br.ff; try conv => whnf)
      | (refine Br.of_t (by assumption) ?_; conv => whnf)
      | (refine Br.of_f (by assumption) ?_; conv => whnf)
      | (refine Br.mk (fun _ => ?_) (fun _ => ?_) <;> try conv => whnf))
    | (apply CallOp.id; first
      | (refine call_at rfl rfl rfl rfl rfl ?_)
      | (refine call_rd rfl rfl rfl rfl rfl ?_)
      | (refine CallOp.std ?_; (conv => whnf); fail_if_success refine (?_ : False)))
    | (apply CallDet.id; first
      | (refine call_atD rfl rfl rfl rfl rfl ?_)
      | (refine call_rdD rfl rfl rfl rfl rfl ?_)
      | (refine CallDet.std ?_; (conv => whnf); fail_if_success refine (?_ : False)))
    | (apply CallAt.id; first
      | (apply CallAt.mk1 (h1); conv => whnf)
      | (apply CallAt.mk1 (h2); conv => whnf))
    | (apply CallRd.id; first
      | (apply CallRd.mk1 (h1); (· rfl); conv => whnf)
      | (apply CallRd.mk1 (h2); (· rfl); conv => whnf))
    | (refine EndOk.mk (by kernel_rfl) ?_; conv => whnf)
    | (refine And.intro (by (first | decide | exact trivial | omega | exact Nat.le_refl _ | (((try simp only [decide_eq_true_eq, decide_eq_false_iff_not, cond_true, cond_false, beq_iff_eq, beq_eq_false_iff_ne, bne_iff_ne, bne_eq_false_iff_eq, ne_eq, Bool.not_eq_true', Bool.not_eq_false', Bool.not_eq_eq_eq_not, Bool.not_true, Bool.not_false, sLe_eq, Bool.and_eq_true, Bool.and_eq_false_iff, List.length_map, List.length_set, List.length_append, List.length_take, List.length_drop, List.length_replicate, List.length_cons, List.length_nil, lenMax, capMax, Int.toNat_natCast, gt_iff_lt, ge_iff_le] at *); (try simp (disch := omega) only [wr, wru, shr1, Int.tdiv_eq_ediv_of_nonneg] at *)); omega) | (((try simp only [decide_eq_true_eq, decide_eq_false_iff_not, cond_true, cond_false, beq_iff_eq, beq_eq_false_iff_ne, bne_iff_ne, bne_eq_false_iff_eq, ne_eq, Bool.not_eq_true', Bool.not_eq_false', Bool.not_eq_eq_eq_not, Bool.not_true, Bool.not_false, sLe_eq, Bool.and_eq_true, Bool.and_eq_false_iff, List.length_map, List.length_set, List.length_append, List.length_take, List.length_drop, List.length_replicate, List.length_cons, List.length_nil, lenMax, capMax, Int.toNat_natCast, gt_iff_lt, ge_iff_le] at *); (try simp (disch := omega) only [wr, wru, shr1, Int.tdiv_eq_ediv_of_nonneg] at *)); assumption))) ?_; conv => whnf)
    | (refine idxOld (by assumption) ?_; conv => whnf)
    | (refine idxMap (by (first | decide | exact trivial | omega | exact Nat.le_refl _ | (((try simp only [decide_eq_true_eq, decide_eq_false_iff_not, cond_true, cond_false, beq_iff_eq, beq_eq_false_iff_ne, bne_iff_ne, bne_eq_false_iff_eq, ne_eq, Bool.not_eq_true', Bool.not_eq_false', Bool.not_eq_eq_eq_not, Bool.not_true, Bool.not_false, sLe_eq, Bool.and_eq_true, Bool.and_eq_false_iff, List.length_map, List.length_set, List.length_append, List.length_take, List.length_drop, List.length_replicate, List.length_cons, List.length_nil, lenMax, capMax, Int.toNat_natCast, gt_iff_lt, ge_iff_le] at *); (try simp (disch := omega) only [wr, wru, shr1, Int.tdiv_eq_ediv_of_nonneg] at *)); omega) | (((try simp only [decide_eq_true_eq, decide_eq_false_iff_not, cond_true, cond_false, beq_iff_eq, beq_eq_false_iff_ne, bne_iff_ne, bne_eq_false_iff_eq, ne_eq, Bool.not_eq_true', Bool.not_eq_false', Bool.not_eq_eq_eq_not, Bool.not_true, Bool.not_false, sLe_eq, Bool.and_eq_true, Bool.and_eq_false_iff, List.length_map, List.length_set, List.length_append, List.length_take, List.length_drop, List.length_replicate, List.length_cons, List.length_nil, lenMax, capMax, Int.toNat_natCast, gt_iff_lt, ge_iff_le] at *); (try simp (disch := omega) only [wr, wru, shr1, Int.tdiv_eq_ediv_of_nonneg] at *)); assumption))) (fun _ _ => ?_); conv => whnf)
    | refine Exists.intro _ (And.intro (DV_toV rfl) ?_)
    | (refine rowSet (by (first | decide | exact trivial | omega | exact Nat.le_refl _ | (((try simp only [decide_eq_true_eq, decide_eq_false_iff_not, cond_true, cond_false, beq_iff_eq, beq_eq_false_iff_ne, bne_iff_ne, bne_eq_false_iff_eq, ne_eq, Bool.not_eq_true', Bool.not_eq_false', Bool.not_eq_eq_eq_not, Bool.not_true, Bool.not_false, sLe_eq, Bool.and_eq_true, Bool.and_eq_false_iff, List.length_map, List.length_set, List.length_append, List.length_take, List.length_drop, List.length_replicate, List.length_cons, List.length_nil, lenMax, capMax, Int.toNat_natCast, gt_iff_lt, ge_iff_le] at *); (try simp (disch := omega) only [wr, wru, shr1, Int.tdiv_eq_ediv_of_nonneg] at *)); omega) | (((try simp only [decide_eq_true_eq, decide_eq_false_iff_not, cond_true, cond_false, beq_iff_eq, beq_eq_false_iff_ne, bne_iff_ne, bne_eq_false_iff_eq, ne_eq, Bool.not_eq_true', Bool.not_eq_false', Bool.not_eq_eq_eq_not, Bool.not_true, Bool.not_false, sLe_eq, Bool.and_eq_true, Bool.and_eq_false_iff, List.length_map, List.length_set, List.length_append, List.length_take, List.length_drop, List.length_replicate, List.length_cons, List.length_nil, lenMax, capMax, Int.toNat_natCast, gt_iff_lt, ge_iff_le] at *); (try simp (disch := omega) only [wr, wru, shr1, Int.tdiv_eq_ediv_of_nonneg] at *)); assumption))) ?_; conv => whnf)
    | (refine rowOld (by assumption) ?_; conv => whnf)
    | (refine rowNew (by (first | decide | exact trivial | omega | exact Nat.le_refl _ | (((try simp only [decide_eq_true_eq, decide_eq_false_iff_not, cond_true, cond_false, beq_iff_eq, beq_eq_false_iff_ne, bne_iff_ne, bne_eq_false_iff_eq, ne_eq, Bool.not_eq_true', Bool.not_eq_false', Bool.not_eq_eq_eq_not, Bool.not_true, Bool.not_false, sLe_eq, Bool.and_eq_true, Bool.and_eq_false_iff, List.length_map, List.length_set, List.length_append, List.length_take, List.length_drop, List.length_replicate, List.length_cons, List.length_nil, lenMax, capMax, Int.toNat_natCast, gt_iff_lt, ge_iff_le] at *); (try simp (disch := omega) only [wr, wru, shr1, Int.tdiv_eq_ediv_of_nonneg] at *)); omega) | (((try simp only [decide_eq_true_eq, decide_eq_false_iff_not, cond_true, cond_false, beq_iff_eq, beq_eq_false_iff_ne, bne_iff_ne, bne_eq_false_iff_eq, ne_eq, Bool.not_eq_true', Bool.not_eq_false', Bool.not_eq_eq_eq_not, Bool.not_true, Bool.not_false, sLe_eq, Bool.and_eq_true, Bool.and_eq_false_iff, List.length_map, List.length_set, List.length_append, List.length_take, List.length_drop, List.length_replicate, List.length_cons, List.length_nil, lenMax, capMax, Int.toNat_natCast, gt_iff_lt, ge_iff_le] at *); (try simp (disch := omega) only [wr, wru, shr1, Int.tdiv_eq_ediv_of_nonneg] at *)); assumption))) (fun _ _ => ?_); conv => whnf)
    | (apply WpD.id; first
      | (refine WpD.walk rfl ?_; conv => whnf))
  all_goals clear h1 h2 d1 d2 d3 d4 d5 d6
  all_goals ((try simp only [decide_eq_true_eq, decide_eq_false_iff_not, cond_true, cond_false, beq_iff_eq, beq_eq_false_iff_ne, bne_iff_ne, bne_eq_false_iff_eq, ne_eq, Bool.not_eq_true', Bool.not_eq_false', Bool.not_eq_eq_eq_not, Bool.not_true, Bool.not_false, sLe_eq, Bool.and_eq_true, Bool.and_eq_false_iff, List.length_map, List.length_set, List.length_append, List.length_take, List.length_drop, List.length_replicate, List.length_cons, List.length_nil, lenMax, capMax, Int.toNat_natCast, gt_iff_lt, ge_iff_le] at *); (try simp (disch := omega) only [wr, wru, shr1, Int.tdiv_eq_ediv_of_nonneg] at *))
  all_goals first
    | rfl
    | (exfalso; omega)
    | skip
  all_goals trace_state
theorem c_Allow_ord (r : Rt) (key : ByteArray) (n now : Int) (h : alF r key n now = (0, 0)) (hh : hR key r.l = true) (i : Nat) (hi : pR key r.l = i) {x : Rk} (hx : r.l[i]? = some x) (ha : (x.u.any fun y => decide (now < y.a)) = true) : CallV tab 19 [.agg r.row, .str key, .int .i64 n, .int .i64 now] (· = .tup [.agg rt0.row, .bool false, fv (19, (i : Int))]) := by
  obtain ⟨ho, ⟨k1, k2⟩, hn, hw⟩ := alF_ok h
  have h1 := c_rValidate r
  rw [ok_ratF ho] at h1
  have hol := ho.l
  have h2 := c_SearchR r.z r.l key ⟨by omega, ho.s⟩
  rw [hh, hi] at h2
  have hxl := (ho.k x (List.mem_of_getElem? hx)).l
  have h3 := c_ContainsU x.z x.u now (by omega)
  rw [ha] at h3
  have hil := lt_get hx
  have hx1 : r.l[((i : Nat) : Int).toNat]? = some x := by simpa using hx
  have d1 : decide ((key.size : Int) < 1) = false := by simp; omega
  have d2 : decide ((key.size : Int) > 4000) = false := by simp; omega
  have d3 : decide (n < 1) = false := by simp; omega
  have d4 : decide (n > 1000000) = false := by simp; omega
  have d5 : decide (now < -68719476736) = false := by simp; omega
  have d6 : decide (now > 68719476736) = false := by simp; omega
  refine callV_of Try.func19 rfl (Nat.le_of_ble_eq_true rfl) (by kernel_rfl) ?_
  repeat' first
    | (apply Br.id; first
      | (apply Br.tt; try conv => whnf)
      | (apply Br.ff; try conv => whnf)
      | (refine Br.of_t (by assumption) ?_; conv => whnf)
      | (refine Br.of_f (by assumption) ?_; conv => whnf)
      | (refine Br.mk (fun _ => ?_) (fun _ => ?_) <;> try conv => whnf))
    | (apply CallOp.id; first
      | (refine call_at rfl rfl rfl rfl rfl ?_)
      | (refine call_rd rfl rfl rfl rfl rfl ?_)
      | (refine CallOp.std ?_; (conv => whnf); fail_if_success refine (?_ : False)))
    | (apply CallDet.id; first
      | (refine call_atD rfl rfl rfl rfl rfl ?_)
      | (refine call_rdD rfl rfl rfl rfl rfl ?_)
      | (refine CallDet.std ?_; (conv => whnf); fail_if_success refine (?_ : False)))
    | (apply CallAt.id; first
      | (apply CallAt.mk1 (h1); conv => whnf)
      | (apply CallAt.mk1 (h2); conv => whnf)
      | (apply CallAt.mk1 (h3); conv => whnf))
    | (apply CallRd.id; first
      | (apply CallRd.mk1 (h1); (· rfl); conv => whnf)
      | (apply CallRd.mk1 (h2); (· rfl); conv => whnf)
      | (apply CallRd.mk1 (h3); (· rfl); conv => whnf))
    | (refine EndOk.mk (by kernel_rfl) ?_; conv => whnf)
    | (refine And.intro (by (first | decide | exact trivial | omega | exact Nat.le_refl _ | (((try simp only [decide_eq_true_eq, decide_eq_false_iff_not, cond_true, cond_false, beq_iff_eq, beq_eq_false_iff_ne, bne_iff_ne, bne_eq_false_iff_eq, ne_eq, Bool.not_eq_true', Bool.not_eq_false', Bool.not_eq_eq_eq_not, Bool.not_true, Bool.not_false, sLe_eq, Bool.and_eq_true, Bool.and_eq_false_iff, List.length_map, List.length_set, List.length_append, List.length_take, List.length_drop, List.length_replicate, List.length_cons, List.length_nil, lenMax, capMax, Int.toNat_natCast, gt_iff_lt, ge_iff_le] at *); (try simp (disch := omega) only [wr, wru, shr1, Int.tdiv_eq_ediv_of_nonneg] at *)); omega) | (((try simp only [decide_eq_true_eq, decide_eq_false_iff_not, cond_true, cond_false, beq_iff_eq, beq_eq_false_iff_ne, bne_iff_ne, bne_eq_false_iff_eq, ne_eq, Bool.not_eq_true', Bool.not_eq_false', Bool.not_eq_eq_eq_not, Bool.not_true, Bool.not_false, sLe_eq, Bool.and_eq_true, Bool.and_eq_false_iff, List.length_map, List.length_set, List.length_append, List.length_take, List.length_drop, List.length_replicate, List.length_cons, List.length_nil, lenMax, capMax, Int.toNat_natCast, gt_iff_lt, ge_iff_le] at *); (try simp (disch := omega) only [wr, wru, shr1, Int.tdiv_eq_ediv_of_nonneg] at *)); assumption))) ?_; conv => whnf)
    | (refine idxOld (by assumption) ?_; conv => whnf)
    | (refine idxMap (by (first | decide | exact trivial | omega | exact Nat.le_refl _ | (((try simp only [decide_eq_true_eq, decide_eq_false_iff_not, cond_true, cond_false, beq_iff_eq, beq_eq_false_iff_ne, bne_iff_ne, bne_eq_false_iff_eq, ne_eq, Bool.not_eq_true', Bool.not_eq_false', Bool.not_eq_eq_eq_not, Bool.not_true, Bool.not_false, sLe_eq, Bool.and_eq_true, Bool.and_eq_false_iff, List.length_map, List.length_set, List.length_append, List.length_take, List.length_drop, List.length_replicate, List.length_cons, List.length_nil, lenMax, capMax, Int.toNat_natCast, gt_iff_lt, ge_iff_le] at *); (try simp (disch := omega) only [wr, wru, shr1, Int.tdiv_eq_ediv_of_nonneg] at *)); omega) | (((try simp only [decide_eq_true_eq, decide_eq_false_iff_not, cond_true, cond_false, beq_iff_eq, beq_eq_false_iff_ne, bne_iff_ne, bne_eq_false_iff_eq, ne_eq, Bool.not_eq_true', Bool.not_eq_false', Bool.not_eq_eq_eq_not, Bool.not_true, Bool.not_false, sLe_eq, Bool.and_eq_true, Bool.and_eq_false_iff, List.length_map, List.length_set, List.length_append, List.length_take, List.length_drop, List.length_replicate, List.length_cons, List.length_nil, lenMax, capMax, Int.toNat_natCast, gt_iff_lt, ge_iff_le] at *); (try simp (disch := omega) only [wr, wru, shr1, Int.tdiv_eq_ediv_of_nonneg] at *)); assumption))) (fun _ _ => ?_); conv => whnf)
    | refine Exists.intro _ (And.intro (DV_toV rfl) ?_)
    | (refine rowSet (by (first | decide | exact trivial | omega | exact Nat.le_refl _ | (((try simp only [decide_eq_true_eq, decide_eq_false_iff_not, cond_true, cond_false, beq_iff_eq, beq_eq_false_iff_ne, bne_iff_ne, bne_eq_false_iff_eq, ne_eq, Bool.not_eq_true', Bool.not_eq_false', Bool.not_eq_eq_eq_not, Bool.not_true, Bool.not_false, sLe_eq, Bool.and_eq_true, Bool.and_eq_false_iff, List.length_map, List.length_set, List.length_append, List.length_take, List.length_drop, List.length_replicate, List.length_cons, List.length_nil, lenMax, capMax, Int.toNat_natCast, gt_iff_lt, ge_iff_le] at *); (try simp (disch := omega) only [wr, wru, shr1, Int.tdiv_eq_ediv_of_nonneg] at *)); omega) | (((try simp only [decide_eq_true_eq, decide_eq_false_iff_not, cond_true, cond_false, beq_iff_eq, beq_eq_false_iff_ne, bne_iff_ne, bne_eq_false_iff_eq, ne_eq, Bool.not_eq_true', Bool.not_eq_false', Bool.not_eq_eq_eq_not, Bool.not_true, Bool.not_false, sLe_eq, Bool.and_eq_true, Bool.and_eq_false_iff, List.length_map, List.length_set, List.length_append, List.length_take, List.length_drop, List.length_replicate, List.length_cons, List.length_nil, lenMax, capMax, Int.toNat_natCast, gt_iff_lt, ge_iff_le] at *); (try simp (disch := omega) only [wr, wru, shr1, Int.tdiv_eq_ediv_of_nonneg] at *)); assumption))) ?_; conv => whnf)
    | (refine rowOld (by assumption) ?_; conv => whnf)
    | (refine rowNew (by (first | decide | exact trivial | omega | exact Nat.le_refl _ | (((try simp only [decide_eq_true_eq, decide_eq_false_iff_not, cond_true, cond_false, beq_iff_eq, beq_eq_false_iff_ne, bne_iff_ne, bne_eq_false_iff_eq, ne_eq, Bool.not_eq_true', Bool.not_eq_false', Bool.not_eq_eq_eq_not, Bool.not_true, Bool.not_false, sLe_eq, Bool.and_eq_true, Bool.and_eq_false_iff, List.length_map, List.length_set, List.length_append, List.length_take, List.length_drop, List.length_replicate, List.length_cons, List.length_nil, lenMax, capMax, Int.toNat_natCast, gt_iff_lt, ge_iff_le] at *); (try simp (disch := omega) only [wr, wru, shr1, Int.tdiv_eq_ediv_of_nonneg] at *)); omega) | (((try simp only [decide_eq_true_eq, decide_eq_false_iff_not, cond_true, cond_false, beq_iff_eq, beq_eq_false_iff_ne, bne_iff_ne, bne_eq_false_iff_eq, ne_eq, Bool.not_eq_true', Bool.not_eq_false', Bool.not_eq_eq_eq_not, Bool.not_true, Bool.not_false, sLe_eq, Bool.and_eq_true, Bool.and_eq_false_iff, List.length_map, List.length_set, List.length_append, List.length_take, List.length_drop, List.length_replicate, List.length_cons, List.length_nil, lenMax, capMax, Int.toNat_natCast, gt_iff_lt, ge_iff_le] at *); (try simp (disch := omega) only [wr, wru, shr1, Int.tdiv_eq_ediv_of_nonneg] at *)); assumption))) (fun _ _ => ?_); conv => whnf)
    | (apply WpD.id; first
      | (refine WpD.walk rfl ?_; conv => whnf))
  all_goals clear h1 h2 h3 d1 d2 d3 d4 d5 d6
  all_goals ((try simp only [decide_eq_true_eq, decide_eq_false_iff_not, cond_true, cond_false, beq_iff_eq, beq_eq_false_iff_ne, bne_iff_ne, bne_eq_false_iff_eq, ne_eq, Bool.not_eq_true', Bool.not_eq_false', Bool.not_eq_eq_eq_not, Bool.not_true, Bool.not_false, sLe_eq, Bool.and_eq_true, Bool.and_eq_false_iff, List.length_map, List.length_set, List.length_append, List.length_take, List.length_drop, List.length_replicate, List.length_cons, List.length_nil, lenMax, capMax, Int.toNat_natCast, gt_iff_lt, ge_iff_le] at *); (try simp (disch := omega) only [wr, wru, shr1, Int.tdiv_eq_ediv_of_nonneg] at *))
  all_goals first
    | rfl
    | (exfalso; omega)
    | skip
  all_goals trace_state
theorem setR_row (r : Rt) (i : Nat) (k : ByteArray) (u : List Us) : (setR r i k u).row = [.int .i64 r.w, .int .i64 r.m, .sl 2 false (((r.l.map unz).map Rk.row).set i [.str k, .sl 2 false (u.map Us.row)])] := by
  unfold setR Rt.row
  rw [List.map_set]; rfl
theorem insR_row (r : Rt) (i : Nat) (hil : i ≤ r.l.length) (k : ByteArray) (z : Bool) (u : List Us) : (insR r i ⟨k, z, u⟩).row = [.int .i64 r.w, .int .i64 r.m, .sl 2 false ((((r.l.map unz).take i ++ ⟨k, true, []⟩ :: (r.l.map unz).drop i).map Rk.row).set i [.str k, .sl 2 z (u.map Us.row)])] := by
  unfold insR Rt.row
  have e : ∀ y : Rk, ((r.l.map unz).take i ++ y :: (r.l.map unz).drop i).map Rk.row = ((r.l.map unz).map Rk.row).take i ++ y.row :: ((r.l.map unz).map Rk.row).drop i := fun y => by simp [List.map_take, List.map_drop]
  rw [e, e, List.set_append_right _ _ (by simp; omega)]
  have e2 : i - (List.take i ((r.l.map unz).map Rk.row)).length = 0 := by simp; omega
  rw [e2]
  rfl
theorem left_b {r : Rt} {now : Int} {u : List Us} (h : ∀ y ∈ u, uOk r.m y) (hm : r.m ≤ 1000000) : ∀ y ∈ leftU r now u, 0 ≤ y.n ∧ y.n ≤ 1000000 := fun y hy => by
  have := h y (List.mem_filter.1 hy).1
  unfold uOk at this
  omega
theorem c_Allow_got (r : Rt) (key : ByteArray) (n now : Int) (h : alF r key n now = (0, 0)) (hh : hR key r.l = true) (i : Nat) (hi : pR key r.l = i) {x : Rk} (hx : r.l[i]? = some x) (ha : (x.u.any fun y => decide (now < y.a)) = false) : CallV tab 19 [.agg r.row, .str key, .int .i64 n, .int .i64 now] (· = if r.m < sumU (leftU r now x.u) + n then .tup [.agg (setR r i x.k (leftU r now x.u)).row, .bool false, fv (0, 0)] else if (leftU r now x.u).length = 300 then .tup [.agg rt0.row, .bool false, fv (2, (i : Int))] else .tup [.agg (setR r i x.k (leftU r now x.u ++ [⟨now, n⟩])).row, .bool true, fv (0, 0)]) := by
  obtain ⟨ho, ⟨k1, k2⟩, hn, hw⟩ := alF_ok h
  have h1 := c_rValidate r
  rw [ok_ratF ho] at h1
  have hol := ho.l
  have hom := ho.m
  have how := ho.w
  have h2 := c_SearchR r.z r.l key ⟨by omega, ho.s⟩
  rw [hh, hi] at h2
  have hxm := List.mem_of_getElem? hx
  have hxl := (ho.k x hxm).l
  have hxu := (ho.k x hxm).u
  have h3 := c_ContainsU x.z x.u now (by omega)
  rw [ha] at h3
  have hil := lt_get hx
  have hx1 : r.l[((i : Nat) : Int).toNat]? = some x := by simpa using hx
  have d1 : decide ((key.size : Int) < 1) = false := by simp; omega
  have d2 : decide ((key.size : Int) > 4000) = false := by simp; omega
  have d3 : decide (n < 1) = false := by simp; omega
  have d4 : decide (n > 1000000) = false := by simp; omega
  have d5 : decide (now < -68719476736) = false := by simp; omega
  have d6 : decide (now > 68719476736) = false := by simp; omega
  have h4 := c_clone1 r i x hx (by omega) (fun y hy => by have := (ho.k y hy).l; omega)
  have h5 := c_DeleteU x.u now r.w r.m ⟨by omega, by omega, by omega, by omega⟩ (by omega)
  have hll : (leftU r now x.u).length ≤ 300 := Nat.le_trans (List.length_filter_le _ _) hxl
  have hlb := left_b hxu hom.2 (now := now)
  have hsb := sumU_b hlb
  have h6 := c_sum false (leftU r now x.u) (by omega) hlb
  change CallE tab _ _ _ _ (· = (leftU r now x.u).map Us.row) at h5
  generalize hLL : leftU r now x.u = LL at *
  have hfl : ∀ w ∈ LL.map Us.row, V.flats w = true := fun w hw => by
    obtain ⟨y, _, rfl⟩ := List.mem_map.1 hw
    rfl
  have hrow : ∀ row, ((vrows ((r.l.map unz).map Rk.row)).set i row)[0 + ((i : Nat) : Int).toNat]? = some row := fun row => by
    rw [Nat.zero_add, Int.toNat_natCast, List.getElem?_set_self (by simpa [vrows] using hil)]
  have e41 : renD (· + 5) (.agg [.v (.int .i64 r.w), .v (.int .i64 r.m), .arr 2 0 r.l.length]) = .agg [.v (.int .i64 r.w), .v (.int .i64 r.m), .arr 7 0 r.l.length] := rfl
  have e42 : upsN 5 0 [.gone, .gone, .arr 2 ((vrows ((r.l.map unz).map Rk.row)).set i [.v (.str x.k), .arr 3 0 x.u.length]), .arr 2 (vrows (x.u.map Us.row))] = [(5, .gone), (6, .gone), (7, .arr 2 ((vrows ((r.l.map unz).map Rk.row)).set i [.v (.str x.k), .arr 8 0 x.u.length])), (8, .arr 2 (vrows (x.u.map Us.row)))] := by
    simp only [upsN, renOb, renRows_set, renRows_v]; rfl
  refine callV_of2 Try.func19 rfl (Nat.le_of_ble_eq_true rfl) (by kernel_rfl) ?_
  repeat' first
    | (apply Br.id; first
      | (apply Br.tt; try conv => whnf)
      | (apply Br.ff; try conv => whnf)
      | (refine Br.of_t (by assumption) ?_; conv => whnf)
      | (refine Br.of_f (by assumption) ?_; conv => whnf)
      | (refine Br.mk (fun _ => ?_) (fun _ => ?_) <;> try conv => whnf))
    | (apply CallOp.id; first
      | (refine call_newE h4 rfl rfl rfl rfl rfl e41 e42 ?_; conv => whnf)
      | (refine call_newED h4 rfl rfl rfl rfl rfl e41 e42 ?_; conv => whnf)
      | (refine call_fr [8] h5 rfl rfl rfl rfl ⟨.inl ⟨rfl, rfl⟩, .inr ⟨_, rfl, ⟨rfl, ⟨_, _, _, _, rfl, rfl, rfl⟩, ⟨_, _, _, _, rfl, rfl, rfl⟩, trivial⟩⟩, trivial⟩ (fun _ e => e ▸ hfl) (by decide) rfl (by decide) (fun i p h => ?_) (fun xs hxs => ?_); rotate_left; subst hxs; conv => whnf)
      | (refine call_frD [8] h5 rfl rfl rfl rfl ⟨.inl ⟨rfl, rfl⟩, .inr ⟨_, rfl, ⟨rfl, ⟨_, _, _, _, rfl, rfl, rfl⟩, ⟨_, _, _, _, rfl, rfl, rfl⟩, trivial⟩⟩, trivial⟩ hfl (by decide) rfl (by decide) (fun i p h => ?_) ?_; rotate_left; conv => whnf)
      | (refine call_rdV h6 rfl rfl rfl rfl ⟨DV_arr rfl (by simp), trivial⟩ rfl ?_; conv => whnf)
      | (refine call_rdVD h6 rfl rfl rfl rfl ⟨DV_arr rfl (by simp), trivial⟩ rfl ?_; conv => whnf)
      | (refine call_at rfl rfl rfl rfl rfl ?_)
      | (refine call_rd rfl rfl rfl rfl rfl ?_)
      | (refine CallOp.std ?_; (conv => whnf); fail_if_success refine (?_ : False)))
    | (apply CallDet.id; first
      | (refine call_newE h4 rfl rfl rfl rfl rfl e41 e42 ?_; conv => whnf)
      | (refine call_newED h4 rfl rfl rfl rfl rfl e41 e42 ?_; conv => whnf)
      | (refine call_fr [8] h5 rfl rfl rfl rfl ⟨.inl ⟨rfl, rfl⟩, .inr ⟨_, rfl, ⟨rfl, ⟨_, _, _, _, rfl, rfl, rfl⟩, ⟨_, _, _, _, rfl, rfl, rfl⟩, trivial⟩⟩, trivial⟩ (fun _ e => e ▸ hfl) (by decide) rfl (by decide) (fun i p h => ?_) (fun xs hxs => ?_); rotate_left; subst hxs; conv => whnf)
      | (refine call_frD [8] h5 rfl rfl rfl rfl ⟨.inl ⟨rfl, rfl⟩, .inr ⟨_, rfl, ⟨rfl, ⟨_, _, _, _, rfl, rfl, rfl⟩, ⟨_, _, _, _, rfl, rfl, rfl⟩, trivial⟩⟩, trivial⟩ hfl (by decide) rfl (by decide) (fun i p h => ?_) ?_; rotate_left; conv => whnf)
      | (refine call_rdV h6 rfl rfl rfl rfl ⟨DV_arr rfl (by simp), trivial⟩ rfl ?_; conv => whnf)
      | (refine call_rdVD h6 rfl rfl rfl rfl ⟨DV_arr rfl (by simp), trivial⟩ rfl ?_; conv => whnf)
      | (refine call_atD rfl rfl rfl rfl rfl ?_)
      | (refine call_rdD rfl rfl rfl rfl rfl ?_)
      | (refine CallDet.std ?_; (conv => whnf); fail_if_success refine (?_ : False)))
    | (apply CallAt.id; first
      | (apply CallAt.mk1 (h1); conv => whnf)
      | (apply CallAt.mk1 (h2); conv => whnf)
      | (apply CallAt.mk1 (h3); conv => whnf))
    | (apply CallRd.id; first
      | (apply CallRd.mk1 (h1); (· rfl); conv => whnf)
      | (apply CallRd.mk1 (h2); (· rfl); conv => whnf)
      | (apply CallRd.mk1 (h3); (· rfl); conv => whnf))
    | (refine EndOk.mk (by kernel_rfl) ?_; conv => whnf)
    | (refine And.intro (by (first | decide | exact trivial | omega | exact Nat.le_refl _ | (((try simp only [decide_eq_true_eq, decide_eq_false_iff_not, cond_true, cond_false, beq_iff_eq, beq_eq_false_iff_ne, bne_iff_ne, bne_eq_false_iff_eq, ne_eq, Bool.not_eq_true', Bool.not_eq_false', Bool.not_eq_eq_eq_not, Bool.not_true, Bool.not_false, sLe_eq, Bool.and_eq_true, Bool.and_eq_false_iff, List.length_map, List.length_set, List.length_append, List.length_take, List.length_drop, List.length_replicate, List.length_cons, List.length_nil, lenMax, capMax, Int.toNat_natCast, gt_iff_lt, ge_iff_le] at *); (try simp (disch := omega) only [wr, wru, shr1, Int.tdiv_eq_ediv_of_nonneg] at *)); omega) | (((try simp only [decide_eq_true_eq, decide_eq_false_iff_not, cond_true, cond_false, beq_iff_eq, beq_eq_false_iff_ne, bne_iff_ne, bne_eq_false_iff_eq, ne_eq, Bool.not_eq_true', Bool.not_eq_false', Bool.not_eq_eq_eq_not, Bool.not_true, Bool.not_false, sLe_eq, Bool.and_eq_true, Bool.and_eq_false_iff, List.length_map, List.length_set, List.length_append, List.length_take, List.length_drop, List.length_replicate, List.length_cons, List.length_nil, lenMax, capMax, Int.toNat_natCast, gt_iff_lt, ge_iff_le] at *); (try simp (disch := omega) only [wr, wru, shr1, Int.tdiv_eq_ediv_of_nonneg] at *)); assumption))) ?_; conv => whnf)
    | (refine idxOld (by assumption) ?_; conv => whnf)
    | (refine idxMap (by (first | decide | exact trivial | omega | exact Nat.le_refl _ | (((try simp only [decide_eq_true_eq, decide_eq_false_iff_not, cond_true, cond_false, beq_iff_eq, beq_eq_false_iff_ne, bne_iff_ne, bne_eq_false_iff_eq, ne_eq, Bool.not_eq_true', Bool.not_eq_false', Bool.not_eq_eq_eq_not, Bool.not_true, Bool.not_false, sLe_eq, Bool.and_eq_true, Bool.and_eq_false_iff, List.length_map, List.length_set, List.length_append, List.length_take, List.length_drop, List.length_replicate, List.length_cons, List.length_nil, lenMax, capMax, Int.toNat_natCast, gt_iff_lt, ge_iff_le] at *); (try simp (disch := omega) only [wr, wru, shr1, Int.tdiv_eq_ediv_of_nonneg] at *)); omega) | (((try simp only [decide_eq_true_eq, decide_eq_false_iff_not, cond_true, cond_false, beq_iff_eq, beq_eq_false_iff_ne, bne_iff_ne, bne_eq_false_iff_eq, ne_eq, Bool.not_eq_true', Bool.not_eq_false', Bool.not_eq_eq_eq_not, Bool.not_true, Bool.not_false, sLe_eq, Bool.and_eq_true, Bool.and_eq_false_iff, List.length_map, List.length_set, List.length_append, List.length_take, List.length_drop, List.length_replicate, List.length_cons, List.length_nil, lenMax, capMax, Int.toNat_natCast, gt_iff_lt, ge_iff_le] at *); (try simp (disch := omega) only [wr, wru, shr1, Int.tdiv_eq_ediv_of_nonneg] at *)); assumption))) (fun _ _ => ?_); conv => whnf)
    | refine Exists.intro _ (And.intro (DV_toV rfl) ?_)
    | (refine rowSet (by (first | decide | exact trivial | omega | exact Nat.le_refl _ | (((try simp only [decide_eq_true_eq, decide_eq_false_iff_not, cond_true, cond_false, beq_iff_eq, beq_eq_false_iff_ne, bne_iff_ne, bne_eq_false_iff_eq, ne_eq, Bool.not_eq_true', Bool.not_eq_false', Bool.not_eq_eq_eq_not, Bool.not_true, Bool.not_false, sLe_eq, Bool.and_eq_true, Bool.and_eq_false_iff, List.length_map, List.length_set, List.length_append, List.length_take, List.length_drop, List.length_replicate, List.length_cons, List.length_nil, lenMax, capMax, Int.toNat_natCast, gt_iff_lt, ge_iff_le] at *); (try simp (disch := omega) only [wr, wru, shr1, Int.tdiv_eq_ediv_of_nonneg] at *)); omega) | (((try simp only [decide_eq_true_eq, decide_eq_false_iff_not, cond_true, cond_false, beq_iff_eq, beq_eq_false_iff_ne, bne_iff_ne, bne_eq_false_iff_eq, ne_eq, Bool.not_eq_true', Bool.not_eq_false', Bool.not_eq_eq_eq_not, Bool.not_true, Bool.not_false, sLe_eq, Bool.and_eq_true, Bool.and_eq_false_iff, List.length_map, List.length_set, List.length_append, List.length_take, List.length_drop, List.length_replicate, List.length_cons, List.length_nil, lenMax, capMax, Int.toNat_natCast, gt_iff_lt, ge_iff_le] at *); (try simp (disch := omega) only [wr, wru, shr1, Int.tdiv_eq_ediv_of_nonneg] at *)); assumption))) ?_; conv => whnf)
    | (refine rowOld (by assumption) ?_; conv => whnf)
    | (refine rowNew (by (first | decide | exact trivial | omega | exact Nat.le_refl _ | (((try simp only [decide_eq_true_eq, decide_eq_false_iff_not, cond_true, cond_false, beq_iff_eq, beq_eq_false_iff_ne, bne_iff_ne, bne_eq_false_iff_eq, ne_eq, Bool.not_eq_true', Bool.not_eq_false', Bool.not_eq_eq_eq_not, Bool.not_true, Bool.not_false, sLe_eq, Bool.and_eq_true, Bool.and_eq_false_iff, List.length_map, List.length_set, List.length_append, List.length_take, List.length_drop, List.length_replicate, List.length_cons, List.length_nil, lenMax, capMax, Int.toNat_natCast, gt_iff_lt, ge_iff_le] at *); (try simp (disch := omega) only [wr, wru, shr1, Int.tdiv_eq_ediv_of_nonneg] at *)); omega) | (((try simp only [decide_eq_true_eq, decide_eq_false_iff_not, cond_true, cond_false, beq_iff_eq, beq_eq_false_iff_ne, bne_iff_ne, bne_eq_false_iff_eq, ne_eq, Bool.not_eq_true', Bool.not_eq_false', Bool.not_eq_eq_eq_not, Bool.not_true, Bool.not_false, sLe_eq, Bool.and_eq_true, Bool.and_eq_false_iff, List.length_map, List.length_set, List.length_append, List.length_take, List.length_drop, List.length_replicate, List.length_cons, List.length_nil, lenMax, capMax, Int.toNat_natCast, gt_iff_lt, ge_iff_le] at *); (try simp (disch := omega) only [wr, wru, shr1, Int.tdiv_eq_ediv_of_nonneg] at *)); assumption))) (fun _ _ => ?_); conv => whnf)
    | (apply WpD.id; first
      | (refine WpD.walk rfl ?_; conv => whnf))
    | (refine rowAt (hrow _) ?_; conv => whnf)
  all_goals clear h1 h2 h3 h4 h5 h6 hrow e41 e42 d1 d2 d3 d4 d5 d6
  all_goals ((try simp only [decide_eq_true_eq, decide_eq_false_iff_not, cond_true, cond_false, beq_iff_eq, beq_eq_false_iff_ne, bne_iff_ne, bne_eq_false_iff_eq, ne_eq, Bool.not_eq_true', Bool.not_eq_false', Bool.not_eq_eq_eq_not, Bool.not_true, Bool.not_false, sLe_eq, Bool.and_eq_true, Bool.and_eq_false_iff, List.length_map, List.length_set, List.length_append, List.length_take, List.length_drop, List.length_replicate, List.length_cons, List.length_nil, lenMax, capMax, Int.toNat_natCast, gt_iff_lt, ge_iff_le] at *); (try simp (disch := omega) only [wr, wru, shr1, Int.tdiv_eq_ediv_of_nonneg] at *))
  all_goals first
    | (rcases i with _ | i
       · simp at h; subst h
         exact obLe_v rfl
       · simp at h
       done)
    | (rw [if_pos ‹_›, setR_row]
       refine ⟨_, ?_, rfl⟩
       refine ⟨⟨rfl, rfl, ?_, trivial⟩, rfl, ⟨rfl, rfl, trivial⟩, trivial⟩
       refine DW_set (row := [.v (.str x.k), .arr 9 0 LL.length]) ?_ (by simp) ⟨rfl, DV_arr rfl (by simp), trivial⟩
       show Ob.arr 2 _ = Ob.arr 2 _
       rw [Nat.zero_add, List.set_set])
    | (rw [if_neg ‹_›, if_pos (by omega)]
       refine ⟨_, ?_, rfl⟩
       exact ⟨⟨rfl, rfl, rfl, trivial⟩, rfl, ⟨rfl, rfl, trivial⟩, trivial⟩)
    | (rw [if_neg ‹_›, if_neg (by omega), setR_row]
       refine ⟨_, ?_, rfl⟩
       refine ⟨⟨rfl, rfl, ?_, trivial⟩, rfl, ⟨rfl, rfl, trivial⟩, trivial⟩
       refine DW_set (row := [.v (.str x.k), .arr 11 0 (LL.length + min 1 (0 + 1 - 0))]) ?_ (by simp) ⟨rfl, ⟨rfl, _, rfl, ?_, ?_⟩, trivial⟩
       · show Ob.arr 2 _ = Ob.arr 2 _
         rw [Nat.zero_add, List.set_set, List.set_set]
       · simp [Us.row, List.take_of_length_le]
       · simp)
    | skip
  all_goals trace_state
theorem c_Allow_new (r : Rt) (key : ByteArray) (n now : Int) (h : alF r key n now = (0, 0)) (hh : hR key r.l = false) (h300 : ¬ r.l.length = 300) (i : Nat) (hi : pR key r.l = i) : CallV tab 19 [.agg r.row, .str key, .int .i64 n, .int .i64 now] (· = if r.m < n then .tup [.agg (insR r i ⟨key, true, []⟩).row, .bool false, fv (0, 0)] else .tup [.agg (insR r i ⟨key, false, [⟨now, n⟩]⟩).row, .bool true, fv (0, 0)]) := by
  obtain ⟨ho, ⟨k1, k2⟩, hn, hw⟩ := alF_ok h
  have h1 := c_rValidate r
  rw [ok_ratF ho] at h1
  have hol := ho.l
  have hom := ho.m
  have how := ho.w
  have h2 := c_SearchR r.z r.l key ⟨by omega, ho.s⟩
  rw [hh, hi] at h2
  have hil : i ≤ r.l.length := by rw [← hi]; exact posL_le _ _
  have d1 : decide ((key.size : Int) < 1) = false := by simp; omega
  have d2 : decide ((key.size : Int) > 4000) = false := by simp; omega
  have d3 : decide (n < 1) = false := by simp; omega
  have d4 : decide (n > 1000000) = false := by simp; omega
  have d5 : decide (now < -68719476736) = false := by simp; omega
  have d6 : decide (now > 68719476736) = false := by simp; omega
  have d7 : (((r.l.map Rk.row).length : Int) == 300) = false := by simp; omega
  have h4 := c_clone0 r (by omega) (fun y hy => by have := (ho.k y hy).l; omega)
  have h5 := c_InsertR (r.l.map unz) ⟨key, true, []⟩ i (by simpa using hil) (by simp; omega)
  rw [List.length_map] at h5
  have h6 := c_DeleteN now r.w r.m ⟨by omega, by omega, by omega, by omega⟩
  have h7 := c_sum true [] (by simp) (by simp)
  rw [show sumU [] = 0 from rfl] at h7
  have e41 : renD (· + 5) (.agg [.v (.int .i64 r.w), .v (.int .i64 r.m), .arr 2 0 r.l.length]) = .agg [.v (.int .i64 r.w), .v (.int .i64 r.m), .arr 7 0 r.l.length] := rfl
  have e42 : upsN 5 0 [.gone, .gone, .arr 2 (vrows ((r.l.map unz).map Rk.row))] = [(5, .gone), (6, .gone), (7, .arr 2 (vrows ((r.l.map unz).map Rk.row)))] := by
    simp only [upsN, renOb, renRows_set, renRows_v]
  have hrow : ((r.l.map unz).take i ++ (⟨key, true, []⟩ : Rk) :: (r.l.map unz).drop i)[0 + ((i : Nat) : Int).toNat]? = some ⟨key, true, []⟩ := by
    rw [Nat.zero_add, Int.toNat_natCast]
    rw [List.getElem?_append_right (by simp; omega)]
    simp [hil]
  refine callV_of2 Try.func19 rfl (Nat.le_of_ble_eq_true rfl) (by kernel_rfl) ?_
  repeat' first
    | (apply Br.id; first
      | (apply Br.tt; try conv => whnf)
      | (apply Br.ff; try conv => whnf)
      | (refine Br.of_t (by assumption) ?_; conv => whnf)
      | (refine Br.of_f (by assumption) ?_; conv => whnf)
      | (refine Br.mk (fun _ => ?_) (fun _ => ?_) <;> try conv => whnf))
    | (apply CallOp.id; first
      | (refine call_newE h4 rfl rfl rfl rfl rfl e41 e42 ?_; conv => whnf)
      | (refine call_newED h4 rfl rfl rfl rfl rfl e41 e42 ?_; conv => whnf)
      | (refine call_eat [7, 8] h5 rfl rfl rfl rfl rfl rfl (by decide) rfl (by decide) (fun i p h => ?_) (fun xs hxs => ?_); rotate_left; subst hxs; conv => whnf)
      | (refine call_eatD [7, 8] h5 rfl rfl rfl rfl rfl rfl (by decide) rfl (by decide) (fun i p h => ?_) ?_; rotate_left; conv => whnf)
      | (refine call_rp h6 rfl rfl rfl rfl ⟨rfl, ⟨rfl, ⟨_, _, _, _, rfl, rfl, rfl⟩, ⟨_, _, _, _, rfl, rfl, rfl⟩, trivial⟩, trivial⟩ rfl ?_; conv => whnf)
      | (refine call_rpD h6 rfl rfl rfl rfl ⟨rfl, ⟨rfl, ⟨_, _, _, _, rfl, rfl, rfl⟩, ⟨_, _, _, _, rfl, rfl, rfl⟩, trivial⟩, trivial⟩ rfl ?_; conv => whnf)
      | (refine call_at rfl rfl rfl rfl rfl ?_)
      | (refine call_rd rfl rfl rfl rfl rfl ?_)
      | (refine CallOp.std ?_; (conv => whnf); fail_if_success refine (?_ : False)))
    | (apply CallDet.id; first
      | (refine call_newE h4 rfl rfl rfl rfl rfl e41 e42 ?_; conv => whnf)
      | (refine call_newED h4 rfl rfl rfl rfl rfl e41 e42 ?_; conv => whnf)
      | (refine call_eat [7, 8] h5 rfl rfl rfl rfl rfl rfl (by decide) rfl (by decide) (fun i p h => ?_) (fun xs hxs => ?_); rotate_left; subst hxs; conv => whnf)
      | (refine call_eatD [7, 8] h5 rfl rfl rfl rfl rfl rfl (by decide) rfl (by decide) (fun i p h => ?_) ?_; rotate_left; conv => whnf)
      | (refine call_rp h6 rfl rfl rfl rfl ⟨rfl, ⟨rfl, ⟨_, _, _, _, rfl, rfl, rfl⟩, ⟨_, _, _, _, rfl, rfl, rfl⟩, trivial⟩, trivial⟩ rfl ?_; conv => whnf)
      | (refine call_rpD h6 rfl rfl rfl rfl ⟨rfl, ⟨rfl, ⟨_, _, _, _, rfl, rfl, rfl⟩, ⟨_, _, _, _, rfl, rfl, rfl⟩, trivial⟩, trivial⟩ rfl ?_; conv => whnf)
      | (refine call_atD rfl rfl rfl rfl rfl ?_)
      | (refine call_rdD rfl rfl rfl rfl rfl ?_)
      | (refine CallDet.std ?_; (conv => whnf); fail_if_success refine (?_ : False)))
    | (apply CallAt.id; first
      | (apply CallAt.mk1 (h1); conv => whnf)
      | (apply CallAt.mk1 (h2); conv => whnf)
      | (apply CallAt.mk1 (h7); conv => whnf))
    | (apply CallRd.id; first
      | (apply CallRd.mk1 (h1); (· rfl); conv => whnf)
      | (apply CallRd.mk1 (h2); (· rfl); conv => whnf)
      | (apply CallRd.mk1 (h7); (· rfl); conv => whnf))
    | (refine EndOk.mk (by kernel_rfl) ?_; conv => whnf)
    | (refine And.intro (by (first | decide | exact trivial | omega | exact Nat.le_refl _ | (((try simp only [decide_eq_true_eq, decide_eq_false_iff_not, cond_true, cond_false, beq_iff_eq, beq_eq_false_iff_ne, bne_iff_ne, bne_eq_false_iff_eq, ne_eq, Bool.not_eq_true', Bool.not_eq_false', Bool.not_eq_eq_eq_not, Bool.not_true, Bool.not_false, sLe_eq, Bool.and_eq_true, Bool.and_eq_false_iff, List.length_map, List.length_set, List.length_append, List.length_take, List.length_drop, List.length_replicate, List.length_cons, List.length_nil, lenMax, capMax, Int.toNat_natCast, gt_iff_lt, ge_iff_le] at *); (try simp (disch := omega) only [wr, wru, shr1, Int.tdiv_eq_ediv_of_nonneg] at *)); omega) | (((try simp only [decide_eq_true_eq, decide_eq_false_iff_not, cond_true, cond_false, beq_iff_eq, beq_eq_false_iff_ne, bne_iff_ne, bne_eq_false_iff_eq, ne_eq, Bool.not_eq_true', Bool.not_eq_false', Bool.not_eq_eq_eq_not, Bool.not_true, Bool.not_false, sLe_eq, Bool.and_eq_true, Bool.and_eq_false_iff, List.length_map, List.length_set, List.length_append, List.length_take, List.length_drop, List.length_replicate, List.length_cons, List.length_nil, lenMax, capMax, Int.toNat_natCast, gt_iff_lt, ge_iff_le] at *); (try simp (disch := omega) only [wr, wru, shr1, Int.tdiv_eq_ediv_of_nonneg] at *)); assumption))) ?_; conv => whnf)
    | (refine idxOld (by assumption) ?_; conv => whnf)
    | (refine idxMap (by (first | decide | exact trivial | omega | exact Nat.le_refl _ | (((try simp only [decide_eq_true_eq, decide_eq_false_iff_not, cond_true, cond_false, beq_iff_eq, beq_eq_false_iff_ne, bne_iff_ne, bne_eq_false_iff_eq, ne_eq, Bool.not_eq_true', Bool.not_eq_false', Bool.not_eq_eq_eq_not, Bool.not_true, Bool.not_false, sLe_eq, Bool.and_eq_true, Bool.and_eq_false_iff, List.length_map, List.length_set, List.length_append, List.length_take, List.length_drop, List.length_replicate, List.length_cons, List.length_nil, lenMax, capMax, Int.toNat_natCast, gt_iff_lt, ge_iff_le] at *); (try simp (disch := omega) only [wr, wru, shr1, Int.tdiv_eq_ediv_of_nonneg] at *)); omega) | (((try simp only [decide_eq_true_eq, decide_eq_false_iff_not, cond_true, cond_false, beq_iff_eq, beq_eq_false_iff_ne, bne_iff_ne, bne_eq_false_iff_eq, ne_eq, Bool.not_eq_true', Bool.not_eq_false', Bool.not_eq_eq_eq_not, Bool.not_true, Bool.not_false, sLe_eq, Bool.and_eq_true, Bool.and_eq_false_iff, List.length_map, List.length_set, List.length_append, List.length_take, List.length_drop, List.length_replicate, List.length_cons, List.length_nil, lenMax, capMax, Int.toNat_natCast, gt_iff_lt, ge_iff_le] at *); (try simp (disch := omega) only [wr, wru, shr1, Int.tdiv_eq_ediv_of_nonneg] at *)); assumption))) (fun _ _ => ?_); conv => whnf)
    | refine Exists.intro _ (And.intro (DV_toV rfl) ?_)
    | (refine rowSet (by (first | decide | exact trivial | omega | exact Nat.le_refl _ | (((try simp only [decide_eq_true_eq, decide_eq_false_iff_not, cond_true, cond_false, beq_iff_eq, beq_eq_false_iff_ne, bne_iff_ne, bne_eq_false_iff_eq, ne_eq, Bool.not_eq_true', Bool.not_eq_false', Bool.not_eq_eq_eq_not, Bool.not_true, Bool.not_false, sLe_eq, Bool.and_eq_true, Bool.and_eq_false_iff, List.length_map, List.length_set, List.length_append, List.length_take, List.length_drop, List.length_replicate, List.length_cons, List.length_nil, lenMax, capMax, Int.toNat_natCast, gt_iff_lt, ge_iff_le] at *); (try simp (disch := omega) only [wr, wru, shr1, Int.tdiv_eq_ediv_of_nonneg] at *)); omega) | (((try simp only [decide_eq_true_eq, decide_eq_false_iff_not, cond_true, cond_false, beq_iff_eq, beq_eq_false_iff_ne, bne_iff_ne, bne_eq_false_iff_eq, ne_eq, Bool.not_eq_true', Bool.not_eq_false', Bool.not_eq_eq_eq_not, Bool.not_true, Bool.not_false, sLe_eq, Bool.and_eq_true, Bool.and_eq_false_iff, List.length_map, List.length_set, List.length_append, List.length_take, List.length_drop, List.length_replicate, List.length_cons, List.length_nil, lenMax, capMax, Int.toNat_natCast, gt_iff_lt, ge_iff_le] at *); (try simp (disch := omega) only [wr, wru, shr1, Int.tdiv_eq_ediv_of_nonneg] at *)); assumption))) ?_; conv => whnf)
    | (refine rowOld (by assumption) ?_; conv => whnf)
    | (refine rowNew (by (first | decide | exact trivial | omega | exact Nat.le_refl _ | (((try simp only [decide_eq_true_eq, decide_eq_false_iff_not, cond_true, cond_false, beq_iff_eq, beq_eq_false_iff_ne, bne_iff_ne, bne_eq_false_iff_eq, ne_eq, Bool.not_eq_true', Bool.not_eq_false', Bool.not_eq_eq_eq_not, Bool.not_true, Bool.not_false, sLe_eq, Bool.and_eq_true, Bool.and_eq_false_iff, List.length_map, List.length_set, List.length_append, List.length_take, List.length_drop, List.length_replicate, List.length_cons, List.length_nil, lenMax, capMax, Int.toNat_natCast, gt_iff_lt, ge_iff_le] at *); (try simp (disch := omega) only [wr, wru, shr1, Int.tdiv_eq_ediv_of_nonneg] at *)); omega) | (((try simp only [decide_eq_true_eq, decide_eq_false_iff_not, cond_true, cond_false, beq_iff_eq, beq_eq_false_iff_ne, bne_iff_ne, bne_eq_false_iff_eq, ne_eq, Bool.not_eq_true', Bool.not_eq_false', Bool.not_eq_eq_eq_not, Bool.not_true, Bool.not_false, sLe_eq, Bool.and_eq_true, Bool.and_eq_false_iff, List.length_map, List.length_set, List.length_append, List.length_take, List.length_drop, List.length_replicate, List.length_cons, List.length_nil, lenMax, capMax, Int.toNat_natCast, gt_iff_lt, ge_iff_le] at *); (try simp (disch := omega) only [wr, wru, shr1, Int.tdiv_eq_ediv_of_nonneg] at *)); assumption))) (fun _ _ => ?_); conv => whnf)
    | (apply WpD.id; first
      | (refine WpD.walk rfl ?_; conv => whnf))
  all_goals clear h1 h2 h4 h5 h6 h7 hrow e41 e42 d1 d2 d3 d4 d5 d6 d7
  all_goals ((try simp only [decide_eq_true_eq, decide_eq_false_iff_not, cond_true, cond_false, beq_iff_eq, beq_eq_false_iff_ne, bne_iff_ne, bne_eq_false_iff_eq, ne_eq, Bool.not_eq_true', Bool.not_eq_false', Bool.not_eq_eq_eq_not, Bool.not_true, Bool.not_false, sLe_eq, Bool.and_eq_true, Bool.and_eq_false_iff, List.length_map, List.length_set, List.length_append, List.length_take, List.length_drop, List.length_replicate, List.length_cons, List.length_nil, lenMax, capMax, Int.toNat_natCast, gt_iff_lt, ge_iff_le] at *); (try simp (disch := omega) only [wr, wru, shr1, Int.tdiv_eq_ediv_of_nonneg] at *))
  all_goals first
    | (rcases i with _ | _ | i
       · simp at h; subst h
         exact obLe_v rfl
       · simp at h; subst h
         exact obLe_v rfl
       · simp at h
       done)
    | (rw [if_pos (by omega), insR_row r i hil]
       refine ⟨_, ?_, rfl⟩
       refine ⟨⟨rfl, rfl, ?_, trivial⟩, rfl, ⟨rfl, rfl, trivial⟩, trivial⟩
       refine DW_set (row := [.v (.str key), .v (.sl 2 true [])]) ?_ (by simp) ⟨rfl, rfl, trivial⟩
       show Ob.arr 2 _ = Ob.arr 2 _
       rw [Nat.zero_add]; rfl)
    | (rw [if_neg (by omega), insR_row r i hil]
       refine ⟨_, ?_, rfl⟩
       refine ⟨⟨rfl, rfl, ?_, trivial⟩, rfl, ⟨rfl, rfl, trivial⟩, trivial⟩
       refine DW_set (row := [.v (.str key), .arr 11 0 (0 + min 1 (0 + 1 - 0))]) ?_ (by simp) ⟨rfl, ⟨rfl, _, rfl, ?_, ?_⟩, trivial⟩
       · show Ob.arr 2 _ = Ob.arr 2 _
         rw [Nat.zero_add, List.set_set]; rfl
       · simp [Us.row, List.take_of_length_le]
       · simp)
    | skip
  all_goals trace_state
end Go.DL
