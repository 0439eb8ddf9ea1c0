/- Hosts: a rule out of its text. No condition. -/
import Derived.Test.YtacpahgoomdfaaaDoorH9
set_option linter.unusedVariables false
set_option linter.unusedSimpArgs false
set_option maxHeartbeats 4000000
namespace Go.DL
open Go.Proofs

abbrev sgs : ByteArray := ⟨#[43, 45, 126, 63]⟩
def sgI (s : ByteArray) : Int := idxB (tl sgs) (sAt (s ++ sp) 0)
def kdF (t : ByteArray) : Int := if preB (wrd 1) t = true then 1 else if preB (wrd 2) t = true then 2 else if preB (wrd 3) t = true then 3 else if preB (wrd 4) t = true then 4 else 0
def rl0 : Rl := ⟨0, 0, e0⟩
def rlOf (i k : Int) (t : ByteArray) : Rl := ⟨i + 1, k, t.extract (wrd k).size t.size⟩
def ruleF (s : ByteArray) : Rl × Bool := if sgI s < 0 ∨ kdF (s.extract 1 s.size) = 0 then (rl0, false) else (rlOf (sgI s) (kdF (s.extract 1 s.size)) (s.extract 1 s.size), rF (rlOf (sgI s) (kdF (s.extract 1 s.size)) (s.extract 1 s.size)) == 0)
theorem sAt_rng (s : ByteArray) (k : Nat) : 0 ≤ sAt s k ∧ sAt s k < 256 := by
  unfold sAt
  have := UInt8.toNat_lt (s.data.toList.getD k 0)
  omega
theorem idxB_rng {l : List UInt8} {n : Int} : -1 ≤ idxB l n ∧ idxB l n < l.length := by
  unfold idxB
  cases h : l.findIdx? (fun c => (c.toNat : Int) == n) with
  | none => simp; omega
  | some i =>
    rw [List.findIdx?_eq_some_iff_getElem] at h
    obtain ⟨h1, _⟩ := h
    simp; omega
theorem sgI_sz {s : ByteArray} (h : 0 ≤ sgI s) : 1 ≤ s.size := by
  rcases Nat.eq_zero_or_pos s.size with h0 | h0
  · exfalso
    have : s = e0 := by
      apply tl_inj
      have := tl_len s
      rw [h0] at this
      rw [List.eq_nil_of_length_eq_zero this]; rfl
    subst this
    have : sgI e0 = -1 := by decide
    omega
  · exact h0
theorem c_rule (s : ByteArray) (hs : s.size ≤ 1000000) : CallV tab 26 [.str s] (· = .tup [.agg (ruleF s).1.row, .bool (ruleF s).2]) := by
  have h1 := c_IB sgs (sAt (s ++ sp) 0) (sAt_rng _ _)
  have hrg := idxB_rng (l := tl sgs) (n := sAt (s ++ sp) 0)
  have hln : (tl sgs).length = 4 := rfl
  rw [show idxB (tl sgs) (sAt (s ++ sp) 0) = sgI s from rfl] at h1 hrg
  have q1 : s.size + (⟨#[32]⟩ : ByteArray).size ≤ 9223372036854775807 := by show s.size + 1 ≤ _; omega
  have q2 : Int.toNat 0 < (s ++ (⟨#[32]⟩ : ByteArray)).size := by rw [app_size]; show 0 < s.size + 1; omega
  by_cases hi : sgI s < 0
  · have di : decide (sgI s < 0) = true := by simpa using hi
    have e : ruleF s = (rl0, false) := by unfold ruleF; rw [if_pos (.inl hi)]
    rw [e]
    refine callV_of Tryd.func26 rfl (Nat.le_of_ble_eq_true rfl) (by kernel_rfl) ?_
    repeat' first
      | (apply Br.id; first
      | (apply Br.tt; try conv => whnf)
      | (apply Br.ff; try conv => whnf)
      | (refine Br.of_t (by assumption) ?_; conv => whnf)
      | (refine Br.of_f (by assumption) ?_; conv => whnf)
      | (refine Br.mk (fun _ => ?_) (fun _ => ?_) <;> try conv => whnf))
      | (apply CallOp.id; first
      | (refine call_at rfl rfl rfl rfl rfl ?_)
      | (refine call_rd rfl rfl rfl rfl rfl ?_)
      | (refine CallOp.std ?_; (conv => whnf); fail_if_success refine (?_ : False)))
      | (apply CallDet.id; first
      | (refine call_atD rfl rfl rfl rfl rfl ?_)
      | (refine call_rdD rfl rfl rfl rfl rfl ?_)
      | (refine CallDet.std ?_; (conv => whnf); fail_if_success refine (?_ : False)))
      | (apply CallAt.id; first
      | (apply CallAt.mk1 h1; conv => whnf)
      | (apply CallAt.mk1 (h1); conv => whnf))
      | (apply CallRd.id; first
      | (apply CallRd.mk1 (h1); (· rfl); conv => whnf))
      | (refine EndOk.mk (by kernel_rfl) ?_; conv => whnf)
      | (refine And.intro (by with_reducible exact q1) ?_; conv => whnf)
      | (refine And.intro (by with_reducible exact q2) ?_; conv => whnf)
      | (refine And.intro (by (first | decide | exact trivial | omega | with_reducible exact Nat.le_refl _ | (((try simp only [decide_eq_true_eq, decide_eq_false_iff_not, cond_true, cond_false, beq_iff_eq, beq_eq_false_iff_ne, bne_iff_ne, bne_eq_false_iff_eq, ne_eq, Bool.not_eq_true', Bool.not_eq_false', Bool.not_eq_eq_eq_not, Bool.not_true, Bool.not_false, sLe_eq, Bool.and_eq_true, Bool.and_eq_false_iff, List.length_map, List.length_set, List.length_append, List.length_take, List.length_drop, List.length_replicate, List.length_cons, List.length_nil, lenMax, capMax, Int.toNat_natCast, gt_iff_lt, ge_iff_le] at *); (try simp (disch := omega) only [wr, wru, shr1, Int.tdiv_eq_ediv_of_nonneg] at *)); omega) | (((try simp only [decide_eq_true_eq, decide_eq_false_iff_not, cond_true, cond_false, beq_iff_eq, beq_eq_false_iff_ne, bne_iff_ne, bne_eq_false_iff_eq, ne_eq, Bool.not_eq_true', Bool.not_eq_false', Bool.not_eq_eq_eq_not, Bool.not_true, Bool.not_false, sLe_eq, Bool.and_eq_true, Bool.and_eq_false_iff, List.length_map, List.length_set, List.length_append, List.length_take, List.length_drop, List.length_replicate, List.length_cons, List.length_nil, lenMax, capMax, Int.toNat_natCast, gt_iff_lt, ge_iff_le] at *); (try simp (disch := omega) only [wr, wru, shr1, Int.tdiv_eq_ediv_of_nonneg] at *)); with_reducible assumption))) ?_; conv => whnf)
      | (refine idxOld (by assumption) ?_; conv => whnf)
      | (refine idxMap (by (first | decide | exact trivial | omega | with_reducible exact Nat.le_refl _ | (((try simp only [decide_eq_true_eq, decide_eq_false_iff_not, cond_true, cond_false, beq_iff_eq, beq_eq_false_iff_ne, bne_iff_ne, bne_eq_false_iff_eq, ne_eq, Bool.not_eq_true', Bool.not_eq_false', Bool.not_eq_eq_eq_not, Bool.not_true, Bool.not_false, sLe_eq, Bool.and_eq_true, Bool.and_eq_false_iff, List.length_map, List.length_set, List.length_append, List.length_take, List.length_drop, List.length_replicate, List.length_cons, List.length_nil, lenMax, capMax, Int.toNat_natCast, gt_iff_lt, ge_iff_le] at *); (try simp (disch := omega) only [wr, wru, shr1, Int.tdiv_eq_ediv_of_nonneg] at *)); omega) | (((try simp only [decide_eq_true_eq, decide_eq_false_iff_not, cond_true, cond_false, beq_iff_eq, beq_eq_false_iff_ne, bne_iff_ne, bne_eq_false_iff_eq, ne_eq, Bool.not_eq_true', Bool.not_eq_false', Bool.not_eq_eq_eq_not, Bool.not_true, Bool.not_false, sLe_eq, Bool.and_eq_true, Bool.and_eq_false_iff, List.length_map, List.length_set, List.length_append, List.length_take, List.length_drop, List.length_replicate, List.length_cons, List.length_nil, lenMax, capMax, Int.toNat_natCast, gt_iff_lt, ge_iff_le] at *); (try simp (disch := omega) only [wr, wru, shr1, Int.tdiv_eq_ediv_of_nonneg] at *)); with_reducible assumption))) (fun _ _ => ?_); conv => whnf)
      | refine Exists.intro _ (And.intro (DV_toV rfl) ?_)
      | (refine rowSet (by (first | decide | exact trivial | omega | with_reducible exact Nat.le_refl _ | (((try simp only [decide_eq_true_eq, decide_eq_false_iff_not, cond_true, cond_false, beq_iff_eq, beq_eq_false_iff_ne, bne_iff_ne, bne_eq_false_iff_eq, ne_eq, Bool.not_eq_true', Bool.not_eq_false', Bool.not_eq_eq_eq_not, Bool.not_true, Bool.not_false, sLe_eq, Bool.and_eq_true, Bool.and_eq_false_iff, List.length_map, List.length_set, List.length_append, List.length_take, List.length_drop, List.length_replicate, List.length_cons, List.length_nil, lenMax, capMax, Int.toNat_natCast, gt_iff_lt, ge_iff_le] at *); (try simp (disch := omega) only [wr, wru, shr1, Int.tdiv_eq_ediv_of_nonneg] at *)); omega) | (((try simp only [decide_eq_true_eq, decide_eq_false_iff_not, cond_true, cond_false, beq_iff_eq, beq_eq_false_iff_ne, bne_iff_ne, bne_eq_false_iff_eq, ne_eq, Bool.not_eq_true', Bool.not_eq_false', Bool.not_eq_eq_eq_not, Bool.not_true, Bool.not_false, sLe_eq, Bool.and_eq_true, Bool.and_eq_false_iff, List.length_map, List.length_set, List.length_append, List.length_take, List.length_drop, List.length_replicate, List.length_cons, List.length_nil, lenMax, capMax, Int.toNat_natCast, gt_iff_lt, ge_iff_le] at *); (try simp (disch := omega) only [wr, wru, shr1, Int.tdiv_eq_ediv_of_nonneg] at *)); with_reducible assumption))) ?_; conv => whnf)
      | (refine rowOld (by assumption) ?_; conv => whnf)
      | (refine rowNew (by (first | decide | exact trivial | omega | with_reducible exact Nat.le_refl _ | (((try simp only [decide_eq_true_eq, decide_eq_false_iff_not, cond_true, cond_false, beq_iff_eq, beq_eq_false_iff_ne, bne_iff_ne, bne_eq_false_iff_eq, ne_eq, Bool.not_eq_true', Bool.not_eq_false', Bool.not_eq_eq_eq_not, Bool.not_true, Bool.not_false, sLe_eq, Bool.and_eq_true, Bool.and_eq_false_iff, List.length_map, List.length_set, List.length_append, List.length_take, List.length_drop, List.length_replicate, List.length_cons, List.length_nil, lenMax, capMax, Int.toNat_natCast, gt_iff_lt, ge_iff_le] at *); (try simp (disch := omega) only [wr, wru, shr1, Int.tdiv_eq_ediv_of_nonneg] at *)); omega) | (((try simp only [decide_eq_true_eq, decide_eq_false_iff_not, cond_true, cond_false, beq_iff_eq, beq_eq_false_iff_ne, bne_iff_ne, bne_eq_false_iff_eq, ne_eq, Bool.not_eq_true', Bool.not_eq_false', Bool.not_eq_eq_eq_not, Bool.not_true, Bool.not_false, sLe_eq, Bool.and_eq_true, Bool.and_eq_false_iff, List.length_map, List.length_set, List.length_append, List.length_take, List.length_drop, List.length_replicate, List.length_cons, List.length_nil, lenMax, capMax, Int.toNat_natCast, gt_iff_lt, ge_iff_le] at *); (try simp (disch := omega) only [wr, wru, shr1, Int.tdiv_eq_ediv_of_nonneg] at *)); with_reducible assumption))) (fun _ _ => ?_); conv => whnf)
      | (apply WpD.id; first
      | (refine WpD.walk rfl ?_; conv => whnf))
    all_goals rfl
  · have di : decide (sgI s < 0) = false := by simpa using hi
    have hs1 := sgI_sz (s := s) (by omega)
    refine callV_of Tryd.func26 rfl (Nat.le_of_ble_eq_true rfl) (by kernel_rfl) ?_
    have t0 : ∀ k, CallV tab 41 [.str (s.extract 1 s.size), .str (wrd k)] (· = .tup [.str (if preB (wrd k) (s.extract 1 s.size) = true then (s.extract 1 s.size).extract (wrd k).size (s.extract 1 s.size).size else s.extract 1 s.size), .bool (preB (wrd k) (s.extract 1 s.size))]) := fun k => c_CP _ _
    generalize hT : s.extract 1 s.size = t at *
    have hT' : s.extract (Int.toNat 1) ((s.size : Nat) : Int).toNat = t := hT
    repeat' first
      | (apply Br.id; first
      | (apply Br.tt; try conv => whnf)
      | (apply Br.ff; try conv => whnf)
      | (refine Br.of_t (by assumption) ?_; conv => whnf)
      | (refine Br.of_f (by assumption) ?_; conv => whnf)
      | (refine Br.mk (fun _ => ?_) (fun _ => ?_) <;> try conv => whnf))
      | (apply CallOp.id; first
      | (refine call_at rfl rfl rfl rfl rfl ?_)
      | (refine call_rd rfl rfl rfl rfl rfl ?_)
      | (refine CallOp.std ?_; (conv => whnf); fail_if_success refine (?_ : False)))
      | (apply CallDet.id; first
      | (refine call_atD rfl rfl rfl rfl rfl ?_)
      | (refine call_rdD rfl rfl rfl rfl rfl ?_)
      | (refine CallDet.std ?_; (conv => whnf); fail_if_success refine (?_ : False)))
      | (apply CallAt.id; first
      | (apply CallAt.mk1 (h1); conv => whnf)
      | (rw [hT']; apply CallAt.mk1 hcp; conv => whnf)
      | (apply CallAt.mk1 ((c_check ⟨sgI s + 1, 1, t.extract (wrd 1).size t.size⟩)); conv => whnf)
      | (apply CallAt.mk1 ((c_check ⟨sgI s + 1, 2, t.extract (wrd 2).size t.size⟩)); conv => whnf)
      | (apply CallAt.mk1 ((c_check ⟨sgI s + 1, 3, t.extract (wrd 3).size t.size⟩)); conv => whnf)
      | (apply CallAt.mk1 ((c_check ⟨sgI s + 1, 4, t.extract (wrd 4).size t.size⟩)); conv => whnf))
      | (apply CallRd.id; first
      | (apply CallRd.mk1 (h1); (· rfl); conv => whnf)
      | (apply CallRd.mk1 ((c_check ⟨sgI s + 1, 1, t.extract (wrd 1).size t.size⟩)); (· rfl); conv => whnf)
      | (apply CallRd.mk1 ((c_check ⟨sgI s + 1, 2, t.extract (wrd 2).size t.size⟩)); (· rfl); conv => whnf)
      | (apply CallRd.mk1 ((c_check ⟨sgI s + 1, 3, t.extract (wrd 3).size t.size⟩)); (· rfl); conv => whnf)
      | (apply CallRd.mk1 ((c_check ⟨sgI s + 1, 4, t.extract (wrd 4).size t.size⟩)); (· rfl); conv => whnf))
      | (refine EndOk.mk (by kernel_rfl) ?_; conv => whnf)
      | (refine And.intro (by with_reducible exact q1) ?_; conv => whnf)
      | (refine And.intro (by with_reducible exact q2) ?_; conv => whnf)
      | (refine And.intro (by (first | decide | exact trivial | omega | with_reducible exact Nat.le_refl _ | (((try simp only [decide_eq_true_eq, decide_eq_false_iff_not, cond_true, cond_false, beq_iff_eq, beq_eq_false_iff_ne, bne_iff_ne, bne_eq_false_iff_eq, ne_eq, Bool.not_eq_true', Bool.not_eq_false', Bool.not_eq_eq_eq_not, Bool.not_true, Bool.not_false, sLe_eq, Bool.and_eq_true, Bool.and_eq_false_iff, List.length_map, List.length_set, List.length_append, List.length_take, List.length_drop, List.length_replicate, List.length_cons, List.length_nil, lenMax, capMax, Int.toNat_natCast, gt_iff_lt, ge_iff_le] at *); (try simp (disch := omega) only [wr, wru, shr1, Int.tdiv_eq_ediv_of_nonneg] at *)); omega) | (((try simp only [decide_eq_true_eq, decide_eq_false_iff_not, cond_true, cond_false, beq_iff_eq, beq_eq_false_iff_ne, bne_iff_ne, bne_eq_false_iff_eq, ne_eq, Bool.not_eq_true', Bool.not_eq_false', Bool.not_eq_eq_eq_not, Bool.not_true, Bool.not_false, sLe_eq, Bool.and_eq_true, Bool.and_eq_false_iff, List.length_map, List.length_set, List.length_append, List.length_take, List.length_drop, List.length_replicate, List.length_cons, List.length_nil, lenMax, capMax, Int.toNat_natCast, gt_iff_lt, ge_iff_le] at *); (try simp (disch := omega) only [wr, wru, shr1, Int.tdiv_eq_ediv_of_nonneg] at *)); with_reducible assumption))) ?_; conv => whnf)
      | (refine idxOld (by assumption) ?_; conv => whnf)
      | (refine idxMap (by (first | decide | exact trivial | omega | with_reducible exact Nat.le_refl _ | (((try simp only [decide_eq_true_eq, decide_eq_false_iff_not, cond_true, cond_false, beq_iff_eq, beq_eq_false_iff_ne, bne_iff_ne, bne_eq_false_iff_eq, ne_eq, Bool.not_eq_true', Bool.not_eq_false', Bool.not_eq_eq_eq_not, Bool.not_true, Bool.not_false, sLe_eq, Bool.and_eq_true, Bool.and_eq_false_iff, List.length_map, List.length_set, List.length_append, List.length_take, List.length_drop, List.length_replicate, List.length_cons, List.length_nil, lenMax, capMax, Int.toNat_natCast, gt_iff_lt, ge_iff_le] at *); (try simp (disch := omega) only [wr, wru, shr1, Int.tdiv_eq_ediv_of_nonneg] at *)); omega) | (((try simp only [decide_eq_true_eq, decide_eq_false_iff_not, cond_true, cond_false, beq_iff_eq, beq_eq_false_iff_ne, bne_iff_ne, bne_eq_false_iff_eq, ne_eq, Bool.not_eq_true', Bool.not_eq_false', Bool.not_eq_eq_eq_not, Bool.not_true, Bool.not_false, sLe_eq, Bool.and_eq_true, Bool.and_eq_false_iff, List.length_map, List.length_set, List.length_append, List.length_take, List.length_drop, List.length_replicate, List.length_cons, List.length_nil, lenMax, capMax, Int.toNat_natCast, gt_iff_lt, ge_iff_le] at *); (try simp (disch := omega) only [wr, wru, shr1, Int.tdiv_eq_ediv_of_nonneg] at *)); with_reducible assumption))) (fun _ _ => ?_); conv => whnf)
      | refine Exists.intro _ (And.intro (DV_toV rfl) ?_)
      | (refine rowSet (by (first | decide | exact trivial | omega | with_reducible exact Nat.le_refl _ | (((try simp only [decide_eq_true_eq, decide_eq_false_iff_not, cond_true, cond_false, beq_iff_eq, beq_eq_false_iff_ne, bne_iff_ne, bne_eq_false_iff_eq, ne_eq, Bool.not_eq_true', Bool.not_eq_false', Bool.not_eq_eq_eq_not, Bool.not_true, Bool.not_false, sLe_eq, Bool.and_eq_true, Bool.and_eq_false_iff, List.length_map, List.length_set, List.length_append, List.length_take, List.length_drop, List.length_replicate, List.length_cons, List.length_nil, lenMax, capMax, Int.toNat_natCast, gt_iff_lt, ge_iff_le] at *); (try simp (disch := omega) only [wr, wru, shr1, Int.tdiv_eq_ediv_of_nonneg] at *)); omega) | (((try simp only [decide_eq_true_eq, decide_eq_false_iff_not, cond_true, cond_false, beq_iff_eq, beq_eq_false_iff_ne, bne_iff_ne, bne_eq_false_iff_eq, ne_eq, Bool.not_eq_true', Bool.not_eq_false', Bool.not_eq_eq_eq_not, Bool.not_true, Bool.not_false, sLe_eq, Bool.and_eq_true, Bool.and_eq_false_iff, List.length_map, List.length_set, List.length_append, List.length_take, List.length_drop, List.length_replicate, List.length_cons, List.length_nil, lenMax, capMax, Int.toNat_natCast, gt_iff_lt, ge_iff_le] at *); (try simp (disch := omega) only [wr, wru, shr1, Int.tdiv_eq_ediv_of_nonneg] at *)); with_reducible assumption))) ?_; conv => whnf)
      | (refine rowOld (by assumption) ?_; conv => whnf)
      | (refine rowNew (by (first | decide | exact trivial | omega | with_reducible exact Nat.le_refl _ | (((try simp only [decide_eq_true_eq, decide_eq_false_iff_not, cond_true, cond_false, beq_iff_eq, beq_eq_false_iff_ne, bne_iff_ne, bne_eq_false_iff_eq, ne_eq, Bool.not_eq_true', Bool.not_eq_false', Bool.not_eq_eq_eq_not, Bool.not_true, Bool.not_false, sLe_eq, Bool.and_eq_true, Bool.and_eq_false_iff, List.length_map, List.length_set, List.length_append, List.length_take, List.length_drop, List.length_replicate, List.length_cons, List.length_nil, lenMax, capMax, Int.toNat_natCast, gt_iff_lt, ge_iff_le] at *); (try simp (disch := omega) only [wr, wru, shr1, Int.tdiv_eq_ediv_of_nonneg] at *)); omega) | (((try simp only [decide_eq_true_eq, decide_eq_false_iff_not, cond_true, cond_false, beq_iff_eq, beq_eq_false_iff_ne, bne_iff_ne, bne_eq_false_iff_eq, ne_eq, Bool.not_eq_true', Bool.not_eq_false', Bool.not_eq_eq_eq_not, Bool.not_true, Bool.not_false, sLe_eq, Bool.and_eq_true, Bool.and_eq_false_iff, List.length_map, List.length_set, List.length_append, List.length_take, List.length_drop, List.length_replicate, List.length_cons, List.length_nil, lenMax, capMax, Int.toNat_natCast, gt_iff_lt, ge_iff_le] at *); (try simp (disch := omega) only [wr, wru, shr1, Int.tdiv_eq_ediv_of_nonneg] at *)); with_reducible assumption))) (fun _ _ => ?_); conv => whnf)
      | (apply WpD.id; first
      | (refine WpD.loopAt 19 rfl (fun k : Nat => ⟨[(0, .v (.str s)), (2, .ptr 0 0 0), (5, .ptr 1 0 0), (6, .v (.int .i64 k))], [.arr 3 (vrows [[.int .i64 0, .int .i64 0, .str e0]]), .arr 3 (vrows [[.int .i64 (sgI s + 1), .int .i64 0, .str e0]])], []⟩) (fun k => 1 ≤ k ∧ k ≤ 5 ∧ ∀ j : Nat, 1 ≤ j → j < k → preB (wrd j) t = false) (fun k => 5 - k) ?_ (fun k hk => ?_); rotate_left; obtain ⟨hk1, hk2, hk3⟩ := hk; rcases (show k = 5 ∨ k = 1 ∨ k = 2 ∨ k = 3 ∨ k = 4 by omega) with rfl | rfl | rfl | rfl | rfl; rotate_left; (have hcp := t0 1; cases hb : preB (wrd 1) t <;> rw [hb] at hcp <;> simp only [Bool.false_eq_true, if_true, if_false] at hcp); rotate_left 2; (have hcp := t0 2; cases hb : preB (wrd 2) t <;> rw [hb] at hcp <;> simp only [Bool.false_eq_true, if_true, if_false] at hcp); rotate_left 2; (have hcp := t0 3; cases hb : preB (wrd 3) t <;> rw [hb] at hcp <;> simp only [Bool.false_eq_true, if_true, if_false] at hcp); rotate_left 2; (have hcp := t0 4; cases hb : preB (wrd 4) t <;> rw [hb] at hcp <;> simp only [Bool.false_eq_true, if_true, if_false] at hcp))
      | (refine WpD.walk rfl ?_; conv => whnf))
    all_goals clear h1 t0
    all_goals try clear hcp
    all_goals try have b1 := fun h => hk3 1 (by decide) h
    all_goals try have b2 := fun h => hk3 2 (by decide) h
    all_goals try have b3 := fun h => hk3 3 (by decide) h
    all_goals try have b4 := fun h => hk3 4 (by decide) h
    all_goals first
      | (have gw : IntKind.wrap .i64 (sgI s + 1) = sgI s + 1 := wr (by omega) (by omega)
         rw [gw]
         refine ⟨1, [0, 1], ⟨by decide, by decide, fun j h1 h2 => by omega⟩, ⟨by decide, rfl, ?_, ?_, rfl⟩⟩
         · (repeat' first | exact trivial | rfl | apply And.intro | (refine leInt rfl ?_; first | omega | (dsimp only; omega)) | (refine leArr rfl ?_ rfl; (simp; try omega)) | (refine leBool rfl ?_; assumption))
           done
         · exact ⟨obLe_v rfl, obLe_v rfl, trivial⟩)
      | (refine ⟨2, [0, 1], ⟨by omega, by omega, fun j h1 h2 => ?_⟩, ⟨⟨by decide, rfl, ?_, ?_, rfl⟩, by omega⟩⟩
         · rcases Nat.lt_or_ge j 1 with h | h
           · exact hk3 j h1 h
           · have : j = 1 := by omega
             subst this; exact hb
         · (repeat' first | exact trivial | rfl | apply And.intro | (refine leInt rfl ?_; first | omega | (dsimp only; omega)) | (refine leArr rfl ?_ rfl; (simp; try omega)) | (refine leBool rfl ?_; assumption))
           done
         · exact ⟨obLe_v rfl, obLe_v rfl, trivial⟩)
      | (refine ⟨3, [0, 1], ⟨by omega, by omega, fun j h1 h2 => ?_⟩, ⟨⟨by decide, rfl, ?_, ?_, rfl⟩, by omega⟩⟩
         · rcases Nat.lt_or_ge j 2 with h | h
           · exact hk3 j h1 h
           · have : j = 2 := by omega
             subst this; exact hb
         · (repeat' first | exact trivial | rfl | apply And.intro | (refine leInt rfl ?_; first | omega | (dsimp only; omega)) | (refine leArr rfl ?_ rfl; (simp; try omega)) | (refine leBool rfl ?_; assumption))
           done
         · exact ⟨obLe_v rfl, obLe_v rfl, trivial⟩)
      | (refine ⟨4, [0, 1], ⟨by omega, by omega, fun j h1 h2 => ?_⟩, ⟨⟨by decide, rfl, ?_, ?_, rfl⟩, by omega⟩⟩
         · rcases Nat.lt_or_ge j 3 with h | h
           · exact hk3 j h1 h
           · have : j = 3 := by omega
             subst this; exact hb
         · (repeat' first | exact trivial | rfl | apply And.intro | (refine leInt rfl ?_; first | omega | (dsimp only; omega)) | (refine leArr rfl ?_ rfl; (simp; try omega)) | (refine leBool rfl ?_; assumption))
           done
         · exact ⟨obLe_v rfl, obLe_v rfl, trivial⟩)
      | (refine ⟨5, [0, 1], ⟨by omega, by omega, fun j h1 h2 => ?_⟩, ⟨⟨by decide, rfl, ?_, ?_, rfl⟩, by omega⟩⟩
         · rcases Nat.lt_or_ge j 4 with h | h
           · exact hk3 j h1 h
           · have : j = 4 := by omega
             subst this; exact hb
         · (repeat' first | exact trivial | rfl | apply And.intro | (refine leInt rfl ?_; first | omega | (dsimp only; omega)) | (refine leArr rfl ?_ rfl; (simp; try omega)) | (refine leBool rfl ?_; assumption))
           done
         · exact ⟨obLe_v rfl, obLe_v rfl, trivial⟩)
      | (have b1 : preB (wrd 1) t = false := b1 (by decide)
         have b2 : preB (wrd 2) t = false := b2 (by decide)
         have b3 : preB (wrd 3) t = false := b3 (by decide)
         have b4 : preB (wrd 4) t = false := b4 (by decide)
         have hk : kdF t = 0 := by unfold kdF; rw [b1, b2, b3, b4]; rfl
         have e : ruleF s = (rl0, false) := by unfold ruleF; rw [hT, if_pos (.inr hk)]
         rw [e]; rfl)
      | (have hk : kdF t = 1 := by unfold kdF; rw [hb]; rfl
         have e : ruleF s = (rlOf (sgI s) 1 t, rF (rlOf (sgI s) 1 t) == 0) := by unfold ruleF; rw [hT, if_neg (by omega), hk]
         rw [e]; rfl)
      | (have b1 : preB (wrd 1) t = false := b1 (by decide)
         have hk : kdF t = 2 := by unfold kdF; rw [b1, hb]; rfl
         have e : ruleF s = (rlOf (sgI s) 2 t, rF (rlOf (sgI s) 2 t) == 0) := by unfold ruleF; rw [hT, if_neg (by omega), hk]
         rw [e]; rfl)
      | (have b1 : preB (wrd 1) t = false := b1 (by decide)
         have b2 : preB (wrd 2) t = false := b2 (by decide)
         have hk : kdF t = 3 := by unfold kdF; rw [b1, b2, hb]; rfl
         have e : ruleF s = (rlOf (sgI s) 3 t, rF (rlOf (sgI s) 3 t) == 0) := by unfold ruleF; rw [hT, if_neg (by omega), hk]
         rw [e]; rfl)
      | (have b1 : preB (wrd 1) t = false := b1 (by decide)
         have b2 : preB (wrd 2) t = false := b2 (by decide)
         have b3 : preB (wrd 3) t = false := b3 (by decide)
         have hk : kdF t = 4 := by unfold kdF; rw [b1, b2, b3, hb]; rfl
         have e : ruleF s = (rlOf (sgI s) 4 t, rF (rlOf (sgI s) 4 t) == 0) := by unfold ruleF; rw [hT, if_neg (by omega), hk]
         rw [e]; rfl)
      | skip
    all_goals trace_state
end Go.DL
