/- Rates: the laws RatesAreApart, RatesKeepTheLimit, RatesPermitWhatFits walked. No condition. -/
import Derived.Test.YtmeaagnamlilgaaQ9
set_option linter.unusedVariables false
set_option linter.unusedSimpArgs false
set_option maxHeartbeats 4000000
namespace Go.DL
open Go.Proofs

theorem c_law10 (r : Rt) (a b : ByteArray) (n k now : Int) : CallV tab 10 [.agg r.row, .str a, .str b, .int .i64 n, .int .i64 k, .int .i64 now] (· = .bool true) := by
  have h1 := c_Allow r a n now
  have h2 := c_Allow r b k now
  have h3 := c_Allow (alR r b k now).1 a n now
  have h4 := c_rated
  have hap : (alR r a n now).2.2.1 = 0 → (alR r b k now).2.2.1 = 0 → a ≠ b → _ := fun hf hg hab => apart (al_0 hf) (al_0 hg) hab
  unfold alV at h1 h2 h3
  generalize alR (alR r b k now).1 a n now = C at *
  generalize alR r a n now = A at *
  generalize alR r b k now = B at *
  obtain ⟨A1, A2, A3, A4⟩ := A
  obtain ⟨B1, B2, B3, B4⟩ := B
  obtain ⟨C1, C2, C3, C4⟩ := C
  dsimp only at *
  refine callV_of Try.func10 rfl (Nat.le_of_ble_eq_true rfl) (by kernel_rfl) ?_
  repeat' first
    | (apply Br.id; first
      | (apply Br.tt; try conv => whnf)
      | (apply Br.ff; try conv => whnf)
      | (refine Br.of_t (by assumption) ?_; conv => whnf)
      | (refine Br.of_f (by assumption) ?_; conv => whnf)
      | (refine Br.mk (fun _ => ?_) (fun _ => ?_) <;> try conv => whnf))
    | (apply CallOp.id; first
      | (refine call_at rfl rfl rfl rfl rfl ?_)
      | (refine call_rd rfl rfl rfl rfl rfl ?_)
      | (refine CallOp.std ?_; (conv => whnf); fail_if_success refine (?_ : False)))
    | (apply CallDet.id; first
      | (refine call_atD rfl rfl rfl rfl rfl ?_)
      | (refine call_rdD rfl rfl rfl rfl rfl ?_)
      | (refine CallDet.std ?_; (conv => whnf); fail_if_success refine (?_ : False)))
    | (apply CallAt.id; first
      | (apply CallAt.mk1 (h1); conv => whnf)
      | (apply CallAt.mk1 (h2); conv => whnf)
      | (apply CallAt.mk1 (h3); conv => whnf)
      | (apply CallAt.mk1 (h4); conv => whnf)
      | (apply CallAt.mk1 (c_At _ _); conv => whnf))
    | (apply CallRd.id; first
      | (apply CallRd.mk1 (h1); (· rfl); conv => whnf)
      | (apply CallRd.mk1 (h2); (· rfl); conv => whnf)
      | (apply CallRd.mk1 (h3); (· rfl); conv => whnf)
      | (apply CallRd.mk1 (h4); (· rfl); conv => whnf)
      | (apply CallRd.mk1 (c_At _ _); (· rfl); conv => whnf))
    | (refine EndOk.mk (by kernel_rfl) ?_; conv => whnf)
    | (refine And.intro (by (first | decide | exact trivial | omega | exact Nat.le_refl _ | (((try simp only [decide_eq_true_eq, decide_eq_false_iff_not, cond_true, cond_false, beq_iff_eq, beq_eq_false_iff_ne, bne_iff_ne, bne_eq_false_iff_eq, ne_eq, Bool.not_eq_true', Bool.not_eq_false', Bool.not_eq_eq_eq_not, Bool.not_true, Bool.not_false, sLe_eq, Bool.and_eq_true, Bool.and_eq_false_iff, List.length_map, List.length_set, List.length_append, List.length_take, List.length_drop, List.length_replicate, List.length_cons, List.length_nil, lenMax, capMax, Int.toNat_natCast, gt_iff_lt, ge_iff_le] at *); (try simp (disch := omega) only [wr, wru, shr1, Int.tdiv_eq_ediv_of_nonneg] at *)); omega) | (((try simp only [decide_eq_true_eq, decide_eq_false_iff_not, cond_true, cond_false, beq_iff_eq, beq_eq_false_iff_ne, bne_iff_ne, bne_eq_false_iff_eq, ne_eq, Bool.not_eq_true', Bool.not_eq_false', Bool.not_eq_eq_eq_not, Bool.not_true, Bool.not_false, sLe_eq, Bool.and_eq_true, Bool.and_eq_false_iff, List.length_map, List.length_set, List.length_append, List.length_take, List.length_drop, List.length_replicate, List.length_cons, List.length_nil, lenMax, capMax, Int.toNat_natCast, gt_iff_lt, ge_iff_le] at *); (try simp (disch := omega) only [wr, wru, shr1, Int.tdiv_eq_ediv_of_nonneg] at *)); assumption))) ?_; conv => whnf)
    | (refine idxOld (by assumption) ?_; conv => whnf)
    | (refine idxMap (by (first | decide | exact trivial | omega | exact Nat.le_refl _ | (((try simp only [decide_eq_true_eq, decide_eq_false_iff_not, cond_true, cond_false, beq_iff_eq, beq_eq_false_iff_ne, bne_iff_ne, bne_eq_false_iff_eq, ne_eq, Bool.not_eq_true', Bool.not_eq_false', Bool.not_eq_eq_eq_not, Bool.not_true, Bool.not_false, sLe_eq, Bool.and_eq_true, Bool.and_eq_false_iff, List.length_map, List.length_set, List.length_append, List.length_take, List.length_drop, List.length_replicate, List.length_cons, List.length_nil, lenMax, capMax, Int.toNat_natCast, gt_iff_lt, ge_iff_le] at *); (try simp (disch := omega) only [wr, wru, shr1, Int.tdiv_eq_ediv_of_nonneg] at *)); omega) | (((try simp only [decide_eq_true_eq, decide_eq_false_iff_not, cond_true, cond_false, beq_iff_eq, beq_eq_false_iff_ne, bne_iff_ne, bne_eq_false_iff_eq, ne_eq, Bool.not_eq_true', Bool.not_eq_false', Bool.not_eq_eq_eq_not, Bool.not_true, Bool.not_false, sLe_eq, Bool.and_eq_true, Bool.and_eq_false_iff, List.length_map, List.length_set, List.length_append, List.length_take, List.length_drop, List.length_replicate, List.length_cons, List.length_nil, lenMax, capMax, Int.toNat_natCast, gt_iff_lt, ge_iff_le] at *); (try simp (disch := omega) only [wr, wru, shr1, Int.tdiv_eq_ediv_of_nonneg] at *)); assumption))) (fun _ _ => ?_); conv => whnf)
    | refine Exists.intro _ (And.intro (DV_toV rfl) ?_)
    | (refine rowSet (by (first | decide | exact trivial | omega | exact Nat.le_refl _ | (((try simp only [decide_eq_true_eq, decide_eq_false_iff_not, cond_true, cond_false, beq_iff_eq, beq_eq_false_iff_ne, bne_iff_ne, bne_eq_false_iff_eq, ne_eq, Bool.not_eq_true', Bool.not_eq_false', Bool.not_eq_eq_eq_not, Bool.not_true, Bool.not_false, sLe_eq, Bool.and_eq_true, Bool.and_eq_false_iff, List.length_map, List.length_set, List.length_append, List.length_take, List.length_drop, List.length_replicate, List.length_cons, List.length_nil, lenMax, capMax, Int.toNat_natCast, gt_iff_lt, ge_iff_le] at *); (try simp (disch := omega) only [wr, wru, shr1, Int.tdiv_eq_ediv_of_nonneg] at *)); omega) | (((try simp only [decide_eq_true_eq, decide_eq_false_iff_not, cond_true, cond_false, beq_iff_eq, beq_eq_false_iff_ne, bne_iff_ne, bne_eq_false_iff_eq, ne_eq, Bool.not_eq_true', Bool.not_eq_false', Bool.not_eq_eq_eq_not, Bool.not_true, Bool.not_false, sLe_eq, Bool.and_eq_true, Bool.and_eq_false_iff, List.length_map, List.length_set, List.length_append, List.length_take, List.length_drop, List.length_replicate, List.length_cons, List.length_nil, lenMax, capMax, Int.toNat_natCast, gt_iff_lt, ge_iff_le] at *); (try simp (disch := omega) only [wr, wru, shr1, Int.tdiv_eq_ediv_of_nonneg] at *)); assumption))) ?_; conv => whnf)
    | (refine rowOld (by assumption) ?_; conv => whnf)
    | (refine rowNew (by (first | decide | exact trivial | omega | exact Nat.le_refl _ | (((try simp only [decide_eq_true_eq, decide_eq_false_iff_not, cond_true, cond_false, beq_iff_eq, beq_eq_false_iff_ne, bne_iff_ne, bne_eq_false_iff_eq, ne_eq, Bool.not_eq_true', Bool.not_eq_false', Bool.not_eq_eq_eq_not, Bool.not_true, Bool.not_false, sLe_eq, Bool.and_eq_true, Bool.and_eq_false_iff, List.length_map, List.length_set, List.length_append, List.length_take, List.length_drop, List.length_replicate, List.length_cons, List.length_nil, lenMax, capMax, Int.toNat_natCast, gt_iff_lt, ge_iff_le] at *); (try simp (disch := omega) only [wr, wru, shr1, Int.tdiv_eq_ediv_of_nonneg] at *)); omega) | (((try simp only [decide_eq_true_eq, decide_eq_false_iff_not, cond_true, cond_false, beq_iff_eq, beq_eq_false_iff_ne, bne_iff_ne, bne_eq_false_iff_eq, ne_eq, Bool.not_eq_true', Bool.not_eq_false', Bool.not_eq_eq_eq_not, Bool.not_true, Bool.not_false, sLe_eq, Bool.and_eq_true, Bool.and_eq_false_iff, List.length_map, List.length_set, List.length_append, List.length_take, List.length_drop, List.length_replicate, List.length_cons, List.length_nil, lenMax, capMax, Int.toNat_natCast, gt_iff_lt, ge_iff_le] at *); (try simp (disch := omega) only [wr, wru, shr1, Int.tdiv_eq_ediv_of_nonneg] at *)); assumption))) (fun _ _ => ?_); conv => whnf)
    | (apply WpD.id; first
      | (refine WpD.walk rfl ?_; conv => whnf))
  all_goals clear h1 h2 h3 h4
  all_goals ((try simp only [decide_eq_true_eq, decide_eq_false_iff_not, cond_true, cond_false, beq_iff_eq, beq_eq_false_iff_ne, bne_iff_ne, bne_eq_false_iff_eq, ne_eq, Bool.not_eq_true', Bool.not_eq_false', Bool.not_eq_eq_eq_not, Bool.not_true, Bool.not_false, sLe_eq, Bool.and_eq_true, Bool.and_eq_false_iff, List.length_map, List.length_set, List.length_append, List.length_take, List.length_drop, List.length_replicate, List.length_cons, List.length_nil, lenMax, capMax, Int.toNat_natCast, gt_iff_lt, ge_iff_le] at *); (try simp (disch := omega) only [wr, wru, shr1, Int.tdiv_eq_ediv_of_nonneg] at *))
  all_goals first
    | rfl
    | (exfalso; rcases hap ‹_› ‹_› ‹_› with h | ⟨h, h'⟩ <;> simp_all)
    | skip
  all_goals trace_state
/-- The uses are in order of time. -/
def sortU (l : List Us) (k : Nat) : Prop := ∀ (j : Nat) x y, j + 1 < k → l[j]? = some x → l[j + 1]? = some y → x.a ≤ y.a
def rS1 (w m : Int) (z : Bool) (l : List Us) (k : Nat) : St := ⟨[(0, .v (.int .i64 w)), (1, .v (.int .i64 m)), (2, .v (uss z l)), (7, .ptr 0 0 0), (8, .v (.sl 2 true [])), (9, .v (.int .i64 k))], [.arr 3 (vrows [Rt.row ⟨w, m, true, []⟩])], []⟩
theorem sortU_all {l : List Us} {k : Nat} (h : sortU l k) (hk : l.length ≤ k) : ∀ (i j : Nat) x y, i ≤ j → l[i]? = some x → l[j]? = some y → x.a ≤ y.a := by
  have hp : l.Pairwise fun x y => x.a ≤ y.a := pw_of_adj fun i x y hx hy => h i x y (by have := lt_get hy; omega) hx hy
  intro i j x y hij hx hy
  rcases Nat.lt_or_ge i j with hlt | hge
  · have := List.pairwise_iff_getElem.1 hp i j (lt_get hx) (lt_get hy) hlt
    rw [List.getElem?_eq_getElem (lt_get hx)] at hx
    rw [List.getElem?_eq_getElem (lt_get hy)] at hy
    injection hx with hx; injection hy with hy
    rw [← hx, ← hy]; exact this
  · have : i = j := by omega
    subst this
    rw [hx] at hy; injection hy with hy; subst hy; exact Int.le_refl _
def rS2 (w m : Int) (z : Bool) (l : List Us) (q : Nat × Rt × List Us) : St := ⟨[(0, .v (.int .i64 w)), (1, .v (.int .i64 m)), (2, .v (uss z l)), (7, .ptr 0 0 0), (8, .arr 1 0 q.2.2.length), (10, .v (.int .i64 q.1))], [.arr 3 (vrows [q.2.1.row]), .arr 2 (vrows (q.2.2.map Us.row))], []⟩
def rP2 (w m : Int) (l : List Us) (q : Nat × Rt × List Us) : Prop := q.1 ≤ l.length ∧ q.2.2.length ≤ q.1 ∧ (∀ (i j : Nat) x y, i ≤ j → l[i]? = some x → l[j]? = some y → x.a ≤ y.a) ∧ ∃ t, Run w m t q.2.1 q.2.2 ∧ ∀ (j : Nat) x, q.1 ≤ j → l[j]? = some x → t ≤ x.a
theorem rP2_0 {w m : Int} {l : List Us} (hw : 1 ≤ w ∧ w ≤ 1000000) (hm : 0 ≤ m ∧ m ≤ 1000000) (hs : ∀ (i j : Nat) x y, i ≤ j → l[i]? = some x → l[j]? = some y → x.a ≤ y.a) : rP2 w m l (0, ⟨w, m, true, []⟩, []) := by
  refine ⟨Nat.zero_le _, Nat.le_refl _, hs, ?_⟩
  cases h0 : l[0]? with
  | none => exact ⟨0, run_0 hw hm, fun j x _ hx => by
      have := List.getElem?_eq_none_iff.1 h0
      have := lt_get hx; omega⟩
  | some y => exact ⟨y.a, run_0 hw hm, fun j x _ hx => hs 0 j y x (Nat.zero_le _) h0 hx⟩
theorem rP2_skip {w m : Int} {l : List Us} {k : Nat} {R : Rt} {T : List Us} (h : rP2 w m l (k, R, T)) (hk : k < l.length) : rP2 w m l (k + 1, R, T) := by
  obtain ⟨h1, h2, h3, t, h4, h5⟩ := h
  exact ⟨hk, by dsimp only at h2 ⊢; omega, h3, t, h4, fun j x hj hx => h5 j x (by dsimp only at hj ⊢; omega) hx⟩
theorem rP2_step {w m : Int} {l : List Us} {k : Nat} {R : Rt} {T : List Us} {v : Us} (h : rP2 w m l (k, R, T)) (hl : l.length < 300) (hv : l[k]? = some v) (hf : (alR R kK v.n v.a).2.2.1 = 0) :
    (alR R kK v.n v.a).2.1 = decide (v.n + sumU (keepU w v.a T) ≤ m) ∧ rP2 w m l (k + 1, (alR R kK v.n v.a).1, if (alR R kK v.n v.a).2.1 = true then T ++ [v] else T) := by
  obtain ⟨h1, h2, h3, t, h4, h5⟩ := h
  dsimp only at h1 h2 h4 h5
  have hk := lt_get hv
  obtain ⟨e, hr⟩ := run_step h4 (h5 k v (Nat.le_refl _) hv) (by omega) hf
  refine ⟨e, hk, ?_, h3, v.a, hr, fun j x hj hx => h3 k j v x (by dsimp only at hj; omega) hv hx⟩
  dsimp only
  split
  · simp; omega
  · omega
def winB (w : Int) (y x : Us) : Bool := decide (0 ≤ x.a - y.a) && decide (x.a - y.a ≤ w - 1)
theorem win_next {w : Int} {y x : Us} {T : List Us} {k : Nat} (hx : T[k]? = some x) : sumU (winU w y (T.take (k + 1))) = sumU (winU w y (T.take k)) + if winB w y x = true then x.n else 0 := by
  unfold winU winB
  rw [take_get hx, List.filter_append, sumU_app]
  by_cases h : (decide (0 ≤ x.a - y.a) && decide (x.a - y.a ≤ w - 1)) = true
  · rw [if_pos h, List.filter_cons_of_pos (p := fun x : Us => decide (0 ≤ x.a - y.a) && decide (x.a - y.a ≤ w - 1)) h]; simp [sumU]
  · rw [if_neg h, List.filter_cons_of_neg (p := fun x : Us => decide (0 ≤ x.a - y.a) && decide (x.a - y.a ≤ w - 1)) h]; simp [sumU]
def rS3 (w m : Int) (T : List Us) (i : Nat) : St := ⟨[(0, .v (.int .i64 w)), (1, .v (.int .i64 m)), (8, .arr 0 0 T.length), (14, .v (.int .i64 i))], [.arr 2 (vrows (T.map Us.row))], []⟩
def rS4 (w m : Int) (T : List Us) (i : Nat) (q : Nat × Int) : St := ⟨[(0, .v (.int .i64 w)), (1, .v (.int .i64 m)), (8, .arr 0 0 T.length), (14, .v (.int .i64 i)), (15, .v (.int .i64 q.2)), (16, .v (.int .i64 q.1))], [.arr 2 (vrows (T.map Us.row))], []⟩
theorem run_b {w m t : Int} {R : Rt} {T : List Us} (h : Run w m t R T) (hm : m ≤ 1000000) : ∀ x ∈ T, -68719476736 ≤ x.a ∧ x.a ≤ 68719476736 ∧ 0 ≤ x.n ∧ x.n ≤ 1000000 := fun x hx => by
  have := h.uo x hx; unfold uOk at this; omega
theorem c_law8 (w m : Int) (z : Bool) (l : List Us) : CallV tab 8 [.int .i64 w, .int .i64 m, uss z l] (· = .bool true) := by
  have h4 := c_rated
  refine callV_of Try.func8 rfl (Nat.le_of_ble_eq_true rfl) (by kernel_rfl) ?_
  repeat' first
    | (obtain ⟨t, hrun, hrt⟩ := q4; have hTb := run_b hrun (by simp at *; omega); have hTl := hrun.lim; have hT6 : T.length ≤ 60 := (by simp at *; omega); refine WpD.loopAt 87 rfl (rS3 w m T) (fun i => i ≤ T.length) (fun i => T.length - i) ?_ (fun i hi => ?_); rotate_left; dsimp only [rS3])
    | (obtain ⟨y, hy⟩ : ∃ y, T[0 + ((i : Nat) : Int).toNat]? = some y := ⟨_, List.getElem?_eq_getElem (by simp at *; omega)⟩; refine WpD.loopAt 93 rfl (rS4 w m T i) (fun q => q.1 ≤ T.length ∧ q.2 = sumU (winU w y (T.take q.1)) ∧ 0 ≤ q.2 ∧ q.2 ≤ 1000000 * (q.1 : Int)) (fun q => T.length - q.1) ?_ (fun ⟨j, s⟩ hj => ?_); rotate_left; dsimp only at hj; obtain ⟨hj1, hj2, hj3, hj4⟩ := hj; dsimp only [rS4])
    | (apply Br.id; first
      | (apply Br.tt; try conv => whnf)
      | (apply Br.ff; try conv => whnf)
      | (refine Br.of_t (by assumption) ?_; conv => whnf)
      | (refine Br.of_f (by assumption) ?_; conv => whnf)
      | (refine Br.mk (fun _ => ?_) (fun _ => ?_) <;> try conv => whnf))
    | (apply CallOp.id; first
      | (refine call_at rfl rfl rfl rfl rfl ?_)
      | (refine call_rd rfl rfl rfl rfl rfl ?_)
      | (refine CallOp.std ?_; (conv => whnf); fail_if_success refine (?_ : False)))
    | (apply CallDet.id; first
      | (refine call_atD rfl rfl rfl rfl rfl ?_)
      | (refine call_rdD rfl rfl rfl rfl rfl ?_)
      | (refine CallDet.std ?_; (conv => whnf); fail_if_success refine (?_ : False)))
    | (apply CallAt.id; first
      | (apply CallAt.mk1 (c_Allow R kK _ _); conv => whnf)
      | (apply CallAt.mk1 (h4); conv => whnf)
      | (apply CallAt.mk1 (c_In _ _ _); conv => whnf))
    | (apply CallRd.id; first
      | (apply CallRd.mk1 (h4); (· rfl); conv => whnf)
      | (apply CallRd.mk1 (c_In _ _ _); (· rfl); conv => whnf))
    | (refine EndOk.mk (by kernel_rfl) ?_; conv => whnf)
    | (refine And.intro (by (first | decide | exact trivial | omega | exact Nat.le_refl _ | (((try simp only [decide_eq_true_eq, decide_eq_false_iff_not, cond_true, cond_false, beq_iff_eq, beq_eq_false_iff_ne, bne_iff_ne, bne_eq_false_iff_eq, ne_eq, Bool.not_eq_true', Bool.not_eq_false', Bool.not_eq_eq_eq_not, Bool.not_true, Bool.not_false, sLe_eq, Bool.and_eq_true, Bool.and_eq_false_iff, List.length_map, List.length_set, List.length_append, List.length_take, List.length_drop, List.length_replicate, List.length_cons, List.length_nil, lenMax, capMax, Int.toNat_natCast, gt_iff_lt, ge_iff_le] at *); (try simp (disch := omega) only [wr, wru, shr1, Int.tdiv_eq_ediv_of_nonneg] at *)); omega) | (((try simp only [decide_eq_true_eq, decide_eq_false_iff_not, cond_true, cond_false, beq_iff_eq, beq_eq_false_iff_ne, bne_iff_ne, bne_eq_false_iff_eq, ne_eq, Bool.not_eq_true', Bool.not_eq_false', Bool.not_eq_eq_eq_not, Bool.not_true, Bool.not_false, sLe_eq, Bool.and_eq_true, Bool.and_eq_false_iff, List.length_map, List.length_set, List.length_append, List.length_take, List.length_drop, List.length_replicate, List.length_cons, List.length_nil, lenMax, capMax, Int.toNat_natCast, gt_iff_lt, ge_iff_le] at *); (try simp (disch := omega) only [wr, wru, shr1, Int.tdiv_eq_ediv_of_nonneg] at *)); assumption))) ?_; conv => whnf)
    | (refine idxOld (by assumption) ?_; conv => whnf)
    | (refine idxMap (by (first | decide | exact trivial | omega | exact Nat.le_refl _ | (((try simp only [decide_eq_true_eq, decide_eq_false_iff_not, cond_true, cond_false, beq_iff_eq, beq_eq_false_iff_ne, bne_iff_ne, bne_eq_false_iff_eq, ne_eq, Bool.not_eq_true', Bool.not_eq_false', Bool.not_eq_eq_eq_not, Bool.not_true, Bool.not_false, sLe_eq, Bool.and_eq_true, Bool.and_eq_false_iff, List.length_map, List.length_set, List.length_append, List.length_take, List.length_drop, List.length_replicate, List.length_cons, List.length_nil, lenMax, capMax, Int.toNat_natCast, gt_iff_lt, ge_iff_le] at *); (try simp (disch := omega) only [wr, wru, shr1, Int.tdiv_eq_ediv_of_nonneg] at *)); omega) | (((try simp only [decide_eq_true_eq, decide_eq_false_iff_not, cond_true, cond_false, beq_iff_eq, beq_eq_false_iff_ne, bne_iff_ne, bne_eq_false_iff_eq, ne_eq, Bool.not_eq_true', Bool.not_eq_false', Bool.not_eq_eq_eq_not, Bool.not_true, Bool.not_false, sLe_eq, Bool.and_eq_true, Bool.and_eq_false_iff, List.length_map, List.length_set, List.length_append, List.length_take, List.length_drop, List.length_replicate, List.length_cons, List.length_nil, lenMax, capMax, Int.toNat_natCast, gt_iff_lt, ge_iff_le] at *); (try simp (disch := omega) only [wr, wru, shr1, Int.tdiv_eq_ediv_of_nonneg] at *)); assumption))) (fun _ _ => ?_); conv => whnf)
    | refine Exists.intro _ (And.intro (DV_toV rfl) ?_)
    | (refine rowSet (by (first | decide | exact trivial | omega | exact Nat.le_refl _ | (((try simp only [decide_eq_true_eq, decide_eq_false_iff_not, cond_true, cond_false, beq_iff_eq, beq_eq_false_iff_ne, bne_iff_ne, bne_eq_false_iff_eq, ne_eq, Bool.not_eq_true', Bool.not_eq_false', Bool.not_eq_eq_eq_not, Bool.not_true, Bool.not_false, sLe_eq, Bool.and_eq_true, Bool.and_eq_false_iff, List.length_map, List.length_set, List.length_append, List.length_take, List.length_drop, List.length_replicate, List.length_cons, List.length_nil, lenMax, capMax, Int.toNat_natCast, gt_iff_lt, ge_iff_le] at *); (try simp (disch := omega) only [wr, wru, shr1, Int.tdiv_eq_ediv_of_nonneg] at *)); omega) | (((try simp only [decide_eq_true_eq, decide_eq_false_iff_not, cond_true, cond_false, beq_iff_eq, beq_eq_false_iff_ne, bne_iff_ne, bne_eq_false_iff_eq, ne_eq, Bool.not_eq_true', Bool.not_eq_false', Bool.not_eq_eq_eq_not, Bool.not_true, Bool.not_false, sLe_eq, Bool.and_eq_true, Bool.and_eq_false_iff, List.length_map, List.length_set, List.length_append, List.length_take, List.length_drop, List.length_replicate, List.length_cons, List.length_nil, lenMax, capMax, Int.toNat_natCast, gt_iff_lt, ge_iff_le] at *); (try simp (disch := omega) only [wr, wru, shr1, Int.tdiv_eq_ediv_of_nonneg] at *)); assumption))) ?_; conv => whnf)
    | (refine rowOld (by assumption) ?_; conv => whnf)
    | (refine rowNew (by (first | decide | exact trivial | omega | exact Nat.le_refl _ | (((try simp only [decide_eq_true_eq, decide_eq_false_iff_not, cond_true, cond_false, beq_iff_eq, beq_eq_false_iff_ne, bne_iff_ne, bne_eq_false_iff_eq, ne_eq, Bool.not_eq_true', Bool.not_eq_false', Bool.not_eq_eq_eq_not, Bool.not_true, Bool.not_false, sLe_eq, Bool.and_eq_true, Bool.and_eq_false_iff, List.length_map, List.length_set, List.length_append, List.length_take, List.length_drop, List.length_replicate, List.length_cons, List.length_nil, lenMax, capMax, Int.toNat_natCast, gt_iff_lt, ge_iff_le] at *); (try simp (disch := omega) only [wr, wru, shr1, Int.tdiv_eq_ediv_of_nonneg] at *)); omega) | (((try simp only [decide_eq_true_eq, decide_eq_false_iff_not, cond_true, cond_false, beq_iff_eq, beq_eq_false_iff_ne, bne_iff_ne, bne_eq_false_iff_eq, ne_eq, Bool.not_eq_true', Bool.not_eq_false', Bool.not_eq_eq_eq_not, Bool.not_true, Bool.not_false, sLe_eq, Bool.and_eq_true, Bool.and_eq_false_iff, List.length_map, List.length_set, List.length_append, List.length_take, List.length_drop, List.length_replicate, List.length_cons, List.length_nil, lenMax, capMax, Int.toNat_natCast, gt_iff_lt, ge_iff_le] at *); (try simp (disch := omega) only [wr, wru, shr1, Int.tdiv_eq_ediv_of_nonneg] at *)); assumption))) (fun _ _ => ?_); conv => whnf)
    | (apply WpD.id; first
      | (refine WpD.loopAt 34 rfl (rS1 w m z l) (fun k => 1 ≤ k ∧ k ≤ l.length + 1 ∧ sortU l k) (fun k => l.length + 1 - k) ?_ (fun k hk => ?_); rotate_left; obtain ⟨hk0, hk1, hk2⟩ := hk; dsimp only [rS1])
      | (refine WpD.nil 8 2 1 rfl rfl rfl rfl ?_; have hs := sortU_all hk2 (by simp at *; omega); refine WpD.loopAt 53 rfl (rS2 w m z l) (rP2 w m l) (fun q => l.length - q.1) ?_ (fun ⟨k, R, T⟩ hq => ?_); rotate_left; obtain ⟨q1, q2, q3, q4⟩ := id hq; dsimp only [rS2] at *)
      | (refine WpD.walk rfl ?_; conv => whnf))
  all_goals clear h4
  all_goals try (rename T[_]? = some _ => hx; have hxb := hTb _ (List.mem_of_getElem? hx); have hyb := hTb _ (List.mem_of_getElem? hy))
  all_goals ((try simp only [decide_eq_true_eq, decide_eq_false_iff_not, cond_true, cond_false, beq_iff_eq, beq_eq_false_iff_ne, bne_iff_ne, bne_eq_false_iff_eq, ne_eq, Bool.not_eq_true', Bool.not_eq_false', Bool.not_eq_eq_eq_not, Bool.not_true, Bool.not_false, sLe_eq, Bool.and_eq_true, Bool.and_eq_false_iff, List.length_map, List.length_set, List.length_append, List.length_take, List.length_drop, List.length_replicate, List.length_cons, List.length_nil, lenMax, capMax, Int.toNat_natCast, gt_iff_lt, ge_iff_le] at *); (try simp (disch := omega) only [wr, wru, shr1, Int.tdiv_eq_ediv_of_nonneg] at *))
  all_goals first
    | rfl
    | (exfalso; omega)
    | (refine ⟨1, [0], ⟨by omega, by omega, fun j x y hj => absurd hj (by omega)⟩, ⟨by decide, rfl, ?_, ?_, rfl⟩⟩
       · (repeat' first | exact trivial | rfl | apply And.intro | (refine leInt rfl ?_; first | omega | (dsimp only; omega)) | (refine leArr rfl ?_ rfl; (simp; try omega)) | (refine leBool rfl ?_; assumption))
         done
       · (repeat' first | exact trivial | (refine obLe_v ?_; try dsimp only) | rfl | apply And.intro)
         done)
    | (rename l[k]? = some _ => h1
       rename l[_]? = some _ => h2
       refine ⟨k + 1, [0], ⟨by omega, by omega, fun j x y hj hx hy => ?_⟩, ⟨⟨by decide, rfl, ?_, ?_, rfl⟩, by omega⟩⟩
       · by_cases hjk : j + 1 = k
         · subst hjk
           rw [hy] at h1; injection h1 with h1; subst h1
           have e : (((j + 1 : Nat) : Int) - 1).toNat = j := by omega
           rw [e, hx] at h2; injection h2 with h2; subst h2
           omega
         · exact hk2 j x y (by omega) hx hy
       · (repeat' first | exact trivial | apply And.intro | (refine leInt rfl ?_; first | omega | (dsimp only; omega)) | rfl | (refine leArr rfl ?_ rfl; (simp; try omega)) | (refine leBool rfl ?_; assumption))
         done
       · (repeat' first | exact trivial | (refine obLe_v ?_; try dsimp only) | rfl | apply And.intro)
         done)
    | (refine ⟨(0, ⟨w, m, true, []⟩, []), [0, 1], rP2_0 ‹_› ‹_› hs, ⟨by decide, rfl, ?_, ?_, rfl⟩⟩
       · (repeat' first | exact trivial | rfl | apply And.intro | (refine leInt rfl ?_; first | omega | (dsimp only; omega)) | (refine leArr rfl ?_ rfl; (simp; try omega)) | (refine leBool rfl ?_; assumption))
         done
       · (repeat' first | exact trivial | (refine obLe_v ?_; try dsimp only) | rfl | apply And.intro)
         done)
    | (rename ¬ (alR R kK _ _).2.2.1 = 0 => hf
       refine ⟨(k + 1, R, T), [0, 1], rP2_skip hq (by omega), ⟨⟨by decide, rfl, ?_, ?_, rfl⟩, by dsimp only; omega⟩⟩
       · (repeat' first | exact trivial | apply And.intro | (refine leInt rfl ?_; first | omega | (dsimp only; omega)) | rfl | (refine leArr rfl ?_ rfl; (simp; try omega)) | (refine leBool rfl ?_; assumption))
         done
       · (repeat' first | exact trivial | (refine obLe_v ?_; try dsimp only) | rfl | apply And.intro)
         done)
    | (rename (alR R kK _ _).2.2.1 = 0 => hf
       rename (alR R kK _ _).2.1 = true => his
       rename l[k]? = some _ => hv
       have h := (rP2_step hq (by omega) hv hf).2
       rw [if_pos his] at h
       refine ⟨_, [0, 5], h, ⟨⟨by decide, rfl, ?_, ?_, rfl⟩, by dsimp only; omega⟩⟩
       · (repeat' first | exact trivial | apply And.intro | (refine leInt rfl ?_; first | omega | (dsimp only; omega)) | rfl | (refine leArr rfl ?_ rfl; (simp; try omega)) | (refine leBool rfl ?_; assumption))
         all_goals (simp; done)
         done
       · (repeat' first | exact trivial | (refine obLe_v ?_; try dsimp only) | rfl | apply And.intro)
         all_goals first | (simp [Us.row, List.take_of_length_le]; done) | rfl
         done)
    | (rename (alR R kK _ _).2.2.1 = 0 => hf
       rename (alR R kK _ _).2.1 = false => his
       rename l[k]? = some _ => hv
       have h := (rP2_step hq (by omega) hv hf).2
       rw [if_neg (by simp [his])] at h
       refine ⟨_, [0, 1], h, ⟨⟨by decide, rfl, ?_, ?_, rfl⟩, by dsimp only; omega⟩⟩
       · (repeat' first | exact trivial | apply And.intro | (refine leInt rfl ?_; first | omega | (dsimp only; omega)) | rfl | (refine leArr rfl ?_ rfl; (simp; try omega)) | (refine leBool rfl ?_; assumption))
         done
       · (repeat' first | exact trivial | (refine obLe_v ?_; try dsimp only) | rfl | apply And.intro)
         all_goals first | (simp [Us.row, List.take_of_length_le]; done) | rfl
         done)
    | (refine ⟨0, [1], Nat.zero_le _, ⟨by decide, rfl, ?_, ?_, rfl⟩⟩
       · (repeat' first | exact trivial | rfl | apply And.intro | (refine leInt rfl ?_; first | omega | (dsimp only; omega)) | (refine leArr rfl ?_ rfl; (simp; try omega)) | (refine leBool rfl ?_; assumption))
         done
       · (repeat' first | exact trivial | (refine obLe_v ?_; try dsimp only) | rfl | apply And.intro)
         done)
    | (refine ⟨(0, 0), [0], ⟨Nat.zero_le _, rfl, by decide, by decide⟩, ⟨by decide, rfl, ?_, ?_, rfl⟩⟩
       · (repeat' first | exact trivial | rfl | apply And.intro | (refine leInt rfl ?_; first | omega | (dsimp only; omega)) | (refine leArr rfl ?_ rfl; (simp; try omega)) | (refine leBool rfl ?_; assumption))
         done
       · (repeat' first | exact trivial | (refine obLe_v ?_; try dsimp only) | rfl | apply And.intro)
         done)
    | (rename Us => x
       have hx' : T[j]? = some x := by simpa using hx
       have hwn := win_next (w := w) (y := y) hx'
       have hwr : IntKind.i64.wrap (s + x.n) = s + x.n := wr (by omega) (by omega)
       try rw [hwr]
       first
       | (rw [if_pos (by unfold winB; simp; omega)] at hwn
          refine ⟨(j + 1, s + x.n), [0], ⟨by dsimp only; omega, by dsimp only; omega, by dsimp only; omega, by dsimp only; omega⟩, ⟨⟨by decide, rfl, ?_, ?_, rfl⟩, by dsimp only; omega⟩⟩
          · (repeat' first | exact trivial | apply And.intro | (refine leInt rfl ?_; first | omega | (dsimp only; omega)) | rfl | (refine leArr rfl ?_ rfl; (simp; try omega)) | (refine leBool rfl ?_; assumption))
            done
          · (repeat' first | exact trivial | (refine obLe_v ?_; try dsimp only) | rfl | apply And.intro)
            done)
       | (rw [if_neg (by unfold winB; simp; omega)] at hwn
          refine ⟨(j + 1, s), [0], ⟨by dsimp only; omega, by dsimp only; omega, by dsimp only; omega, by dsimp only; omega⟩, ⟨⟨by decide, rfl, ?_, ?_, rfl⟩, by dsimp only; omega⟩⟩
          · (repeat' first | exact trivial | apply And.intro | (refine leInt rfl ?_; first | omega | (dsimp only; omega)) | rfl | (refine leArr rfl ?_ rfl; (simp; try omega)) | (refine leBool rfl ?_; assumption))
            done
          · (repeat' first | exact trivial | (refine obLe_v ?_; try dsimp only) | rfl | apply And.intro)
            done))
    | (have hsj : s = sumU (winU w y T) := by rw [hj2, List.take_of_length_le (by omega)]
       have := hTl y (List.mem_of_getElem? hy)
       first
       | (exfalso; omega)
       | (refine ⟨i + 1, [0], by omega, ⟨⟨by decide, rfl, ?_, ?_, rfl⟩, by omega⟩⟩
          · (repeat' first | exact trivial | apply And.intro | (refine leInt rfl ?_; first | omega | (dsimp only; omega)) | rfl | (refine leArr rfl ?_ rfl; (simp; try omega)) | (refine leBool rfl ?_; assumption))
            done
          · (repeat' first | exact trivial | (refine obLe_v ?_; try dsimp only) | rfl | apply And.intro)
            done))
    | skip
  all_goals trace_state
end Go.DL
