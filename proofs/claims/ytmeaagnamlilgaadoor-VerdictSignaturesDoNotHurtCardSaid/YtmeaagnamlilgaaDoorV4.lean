/- Verdict: Decide. No condition. -/
import Derived.Test.YtmeaagnamlilgaaDoorV3
set_option linter.unusedVariables false
set_option linter.unusedSimpArgs false
set_option maxHeartbeats 4000000
namespace Go.DL
open Go.Proofs

def sHost : ByteArray := ⟨#[104, 111, 115, 116]⟩
def sSign : ByteArray := ⟨#[115, 105, 103, 110, 97, 116, 117, 114, 101]⟩
def sChain : ByteArray := ⟨#[99, 104, 97, 105, 110]⟩
def sRep : ByteArray := ⟨#[114, 101, 112, 117, 116, 97, 116, 105, 111, 110]⟩
def sCont : ByteArray := ⟨#[99, 111, 110, 116, 101, 110, 116]⟩
def hostP (h : Int) : Int := [5, 0, 40, 20, 5, 10].getD h.toNat 0
def allR (r : Rs) : List Rn := [⟨sHost, hostP r.h⟩, ⟨sSign, signP r.s⟩, ⟨sChain, chainP r.c⟩, ⟨sRep, (-r.p).tdiv 25⟩, ⟨sCont, (r.j - 500).tdiv 10⟩]
theorem c_Decide_bad (r : Rs) (h : rF r ≠ (0, 0)) : CallV tab 7 [.agg r.row] (· = .tup [.int .i64 0, rns true [], fv (rF r)]) := by
  have h1 := c_check r
  have hk : ((rF r).1 == 0 && ((rF r).2 == 0 && true)) = false := by
    cases hb : ((rF r).1 == 0 && ((rF r).2 == 0 && true)) with
    | false => rfl
    | true => simp at hb; exact absurd (Prod.ext hb.1 hb.2) h
  have hk' : (!((rF r).1 == 0 && ((rF r).2 == 0 && true))) = true := by rw [hk]; rfl
  refine callV_of Tryd.func7 rfl (Nat.le_of_ble_eq_true rfl) (by kernel_rfl) ?_
  repeat' first
    | (apply Br.id; first
      | (apply Br.tt; try conv => whnf)
      | (apply Br.ff; try conv => whnf)
      | (refine Br.of_t (by assumption) ?_; conv => whnf)
      | (refine Br.of_f (by assumption) ?_; conv => whnf)
      | (refine Br.mk (fun _ => ?_) (fun _ => ?_) <;> try conv => whnf))
    | (apply CallOp.id; first
      | (refine call_at rfl rfl rfl rfl rfl ?_)
      | (refine call_rd rfl rfl rfl rfl rfl ?_)
      | (refine CallOp.std ?_; (conv => whnf); fail_if_success refine (?_ : False)))
    | (apply CallDet.id; first
      | (refine call_atD rfl rfl rfl rfl rfl ?_)
      | (refine call_rdD rfl rfl rfl rfl rfl ?_)
      | (refine CallDet.std ?_; (conv => whnf); fail_if_success refine (?_ : False)))
    | (apply CallAt.id; first
      | (apply CallAt.mk1 (h1); conv => whnf))
    | (apply CallRd.id; first
      | (apply CallRd.mk1 (h1); (· rfl); conv => whnf))
    | (refine EndOk.mk (by kernel_rfl) ?_; conv => whnf)
    | (refine And.intro (by (first | decide | exact trivial | omega | exact Nat.le_refl _ | (((try simp only [decide_eq_true_eq, decide_eq_false_iff_not, cond_true, cond_false, beq_iff_eq, beq_eq_false_iff_ne, bne_iff_ne, bne_eq_false_iff_eq, ne_eq, Bool.not_eq_true', Bool.not_eq_false', Bool.not_eq_eq_eq_not, Bool.not_true, Bool.not_false, sLe_eq, Bool.and_eq_true, Bool.and_eq_false_iff, List.length_map, List.length_set, List.length_append, List.length_take, List.length_drop, List.length_replicate, List.length_cons, List.length_nil, lenMax, capMax, Int.toNat_natCast, gt_iff_lt, ge_iff_le] at *); (try simp (disch := omega) only [wr, wru, shr1, Int.tdiv_eq_ediv_of_nonneg] at *)); omega) | (((try simp only [decide_eq_true_eq, decide_eq_false_iff_not, cond_true, cond_false, beq_iff_eq, beq_eq_false_iff_ne, bne_iff_ne, bne_eq_false_iff_eq, ne_eq, Bool.not_eq_true', Bool.not_eq_false', Bool.not_eq_eq_eq_not, Bool.not_true, Bool.not_false, sLe_eq, Bool.and_eq_true, Bool.and_eq_false_iff, List.length_map, List.length_set, List.length_append, List.length_take, List.length_drop, List.length_replicate, List.length_cons, List.length_nil, lenMax, capMax, Int.toNat_natCast, gt_iff_lt, ge_iff_le] at *); (try simp (disch := omega) only [wr, wru, shr1, Int.tdiv_eq_ediv_of_nonneg] at *)); assumption))) ?_; conv => whnf)
    | (refine idxOld (by assumption) ?_; conv => whnf)
    | (refine idxMap (by (first | decide | exact trivial | omega | exact Nat.le_refl _ | (((try simp only [decide_eq_true_eq, decide_eq_false_iff_not, cond_true, cond_false, beq_iff_eq, beq_eq_false_iff_ne, bne_iff_ne, bne_eq_false_iff_eq, ne_eq, Bool.not_eq_true', Bool.not_eq_false', Bool.not_eq_eq_eq_not, Bool.not_true, Bool.not_false, sLe_eq, Bool.and_eq_true, Bool.and_eq_false_iff, List.length_map, List.length_set, List.length_append, List.length_take, List.length_drop, List.length_replicate, List.length_cons, List.length_nil, lenMax, capMax, Int.toNat_natCast, gt_iff_lt, ge_iff_le] at *); (try simp (disch := omega) only [wr, wru, shr1, Int.tdiv_eq_ediv_of_nonneg] at *)); omega) | (((try simp only [decide_eq_true_eq, decide_eq_false_iff_not, cond_true, cond_false, beq_iff_eq, beq_eq_false_iff_ne, bne_iff_ne, bne_eq_false_iff_eq, ne_eq, Bool.not_eq_true', Bool.not_eq_false', Bool.not_eq_eq_eq_not, Bool.not_true, Bool.not_false, sLe_eq, Bool.and_eq_true, Bool.and_eq_false_iff, List.length_map, List.length_set, List.length_append, List.length_take, List.length_drop, List.length_replicate, List.length_cons, List.length_nil, lenMax, capMax, Int.toNat_natCast, gt_iff_lt, ge_iff_le] at *); (try simp (disch := omega) only [wr, wru, shr1, Int.tdiv_eq_ediv_of_nonneg] at *)); assumption))) (fun _ _ => ?_); conv => whnf)
    | refine Exists.intro _ (And.intro (DV_toV rfl) ?_)
    | (refine rowSet (by (first | decide | exact trivial | omega | exact Nat.le_refl _ | (((try simp only [decide_eq_true_eq, decide_eq_false_iff_not, cond_true, cond_false, beq_iff_eq, beq_eq_false_iff_ne, bne_iff_ne, bne_eq_false_iff_eq, ne_eq, Bool.not_eq_true', Bool.not_eq_false', Bool.not_eq_eq_eq_not, Bool.not_true, Bool.not_false, sLe_eq, Bool.and_eq_true, Bool.and_eq_false_iff, List.length_map, List.length_set, List.length_append, List.length_take, List.length_drop, List.length_replicate, List.length_cons, List.length_nil, lenMax, capMax, Int.toNat_natCast, gt_iff_lt, ge_iff_le] at *); (try simp (disch := omega) only [wr, wru, shr1, Int.tdiv_eq_ediv_of_nonneg] at *)); omega) | (((try simp only [decide_eq_true_eq, decide_eq_false_iff_not, cond_true, cond_false, beq_iff_eq, beq_eq_false_iff_ne, bne_iff_ne, bne_eq_false_iff_eq, ne_eq, Bool.not_eq_true', Bool.not_eq_false', Bool.not_eq_eq_eq_not, Bool.not_true, Bool.not_false, sLe_eq, Bool.and_eq_true, Bool.and_eq_false_iff, List.length_map, List.length_set, List.length_append, List.length_take, List.length_drop, List.length_replicate, List.length_cons, List.length_nil, lenMax, capMax, Int.toNat_natCast, gt_iff_lt, ge_iff_le] at *); (try simp (disch := omega) only [wr, wru, shr1, Int.tdiv_eq_ediv_of_nonneg] at *)); assumption))) ?_; conv => whnf)
    | (refine rowOld (by assumption) ?_; conv => whnf)
    | (refine rowNew (by (first | decide | exact trivial | omega | exact Nat.le_refl _ | (((try simp only [decide_eq_true_eq, decide_eq_false_iff_not, cond_true, cond_false, beq_iff_eq, beq_eq_false_iff_ne, bne_iff_ne, bne_eq_false_iff_eq, ne_eq, Bool.not_eq_true', Bool.not_eq_false', Bool.not_eq_eq_eq_not, Bool.not_true, Bool.not_false, sLe_eq, Bool.and_eq_true, Bool.and_eq_false_iff, List.length_map, List.length_set, List.length_append, List.length_take, List.length_drop, List.length_replicate, List.length_cons, List.length_nil, lenMax, capMax, Int.toNat_natCast, gt_iff_lt, ge_iff_le] at *); (try simp (disch := omega) only [wr, wru, shr1, Int.tdiv_eq_ediv_of_nonneg] at *)); omega) | (((try simp only [decide_eq_true_eq, decide_eq_false_iff_not, cond_true, cond_false, beq_iff_eq, beq_eq_false_iff_ne, bne_iff_ne, bne_eq_false_iff_eq, ne_eq, Bool.not_eq_true', Bool.not_eq_false', Bool.not_eq_eq_eq_not, Bool.not_true, Bool.not_false, sLe_eq, Bool.and_eq_true, Bool.and_eq_false_iff, List.length_map, List.length_set, List.length_append, List.length_take, List.length_drop, List.length_replicate, List.length_cons, List.length_nil, lenMax, capMax, Int.toNat_natCast, gt_iff_lt, ge_iff_le] at *); (try simp (disch := omega) only [wr, wru, shr1, Int.tdiv_eq_ediv_of_nonneg] at *)); assumption))) (fun _ _ => ?_); conv => whnf)
    | (apply WpD.id; first
      | (refine WpD.walk rfl ?_; conv => whnf))
  all_goals first | rfl | (simp [hk] at *; done) | trace_state
def sumP (l : List Rn) : Int := (l.map Rn.p).sum
theorem all_len (r : Rs) : (allR r).length = 5 := rfl
theorem host_b (h : Int) : 0 ≤ hostP h ∧ hostP h ≤ 40 := by
  unfold hostP
  rcases hn : h.toNat with _ | _ | _ | _ | _ | _ | n <;> simp
theorem sign_b (l : List Vd) : -30 ≤ signP l ∧ signP l ≤ 20 := by unfold signP; (repeat' split) <;> omega
theorem chain_b (n : Int) : -10 ≤ chainP n ∧ chainP n ≤ 10 := by unfold chainP; (repeat' split) <;> omega
theorem all_b {r : Rs} (hp : -1000 ≤ r.p ∧ r.p ≤ 1000) (hj : 0 ≤ r.j ∧ r.j ≤ 1000) : ∀ x ∈ allR r, -50 ≤ x.p ∧ x.p ≤ 50 := by
  have h1 := host_b r.h
  have h2 := sign_b r.s
  have h3 := chain_b r.c
  have h4 : -40 ≤ (-r.p).tdiv 25 ∧ (-r.p).tdiv 25 ≤ 40 := by
    rw [td (by decide)]; split <;> omega
  have h5 : -50 ≤ (r.j - 500).tdiv 10 ∧ (r.j - 500).tdiv 10 ≤ 50 := by
    rw [td (by decide)]; split <;> omega
  intro x hx
  simp only [allR, List.mem_cons, List.not_mem_nil, or_false] at hx
  rcases hx with rfl | rfl | rfl | rfl | rfl <;> (dsimp only; omega)
def sRate : ByteArray := ⟨#[114, 97, 116, 101]⟩
def sGrey : ByteArray := ⟨#[103, 114, 101, 121, 108, 105, 115, 116]⟩
def outR (r : Rs) : List Rn := (allR r).filter (fun x => !z0 x) ++ (if r.t then [] else [⟨sRate, 0⟩]) ++ (if r.g then [] else [⟨sGrey, 0⟩])
def decP (r : Rs) : Int := if 80 ≤ sumP (allR r) then 4 else if r.t = false ∨ (r.g = false ∧ 0 < sumP (allR r)) then 3 else if 40 ≤ sumP (allR r) then 2 else 1
theorem c_Decide_ok (r : Rs) (h : rF r = (0, 0)) (hh : 0 ≤ r.h ∧ r.h ≤ 5) (hl : r.s.length ≤ 60) (hp : -1000 ≤ r.p ∧ r.p ≤ 1000) (hj : 0 ≤ r.j ∧ r.j ≤ 1000) : CallV tab 7 [.agg r.row] (· = .tup [.int .i64 (decP r), rns false (outR r), fv (0, 0)]) := by
  have h1 := c_check r
  rw [h] at h1
  have h2 := c_signs r (by omega)
  have h3 := c_chain r.c
  have hw4 : IntKind.i64.wrap ((0 - r.p).tdiv 25) = (-r.p).tdiv 25 := by
    rw [Int.zero_sub, td (by decide)]; split <;> rw [wr (by omega) (by omega)]
  have hw5 : IntKind.i64.wrap ((r.j - 500).tdiv 10) = (r.j - 500).tdiv 10 := by
    rw [td (by decide)]; split <;> rw [wr (by omega) (by omega)]
  obtain ⟨tl, hdrop⟩ : ∃ tl, List.drop (r.h.toNat * (0 + 1)) [V.int .i64 5, V.int .i64 0, V.int .i64 40, V.int .i64 20, V.int .i64 5, V.int .i64 10] = V.int .i64 (hostP r.h) :: tl := by
    have hc : r.h = 0 ∨ r.h = 1 ∨ r.h = 2 ∨ r.h = 3 ∨ r.h = 4 ∨ r.h = 5 := by omega
    rcases hc with e | e | e | e | e | e <;> rw [e] <;> exact ⟨_, rfl⟩
  refine callV_of Tryd.func7 rfl (Nat.le_of_ble_eq_true rfl) (by kernel_rfl) ?_
  have hb := all_b hp hj
  have hdel : CallE tab 16 [.arr 0 0 5, .v (.fn 17 [])] [.arr 2 (vrows ((allR r).map Rn.row))] 2 (· = ((allR r).filter fun x => !z0 x).map Rn.row) := c_Delete (allR r) (by rw [all_len]; decide)
  have hfl : ((allR r).filter fun x => !z0 x).length ≤ 5 := List.length_filter_le _ _
  have hob : ∀ H : Nat → Ob, H 2 = .arr 2 (vrows ((allR r).map Rn.row)) → ∀ (i p : Nat), [2][i]? = some p → obLe [2] (H p) (obAt [.arr 2 (vrows ((allR r).map Rn.row))] i) := by
    intro H h4 i p h
    match i, h with
    | 0, h => simp at h; subst h; rw [h4]; exact obLe_v rfl
    | i + 1, h => simp at h
  repeat' first
    | (apply Br.id; first
      | (apply Br.tt; try conv => whnf)
      | (apply Br.ff; try conv => whnf)
      | (refine Br.of_t (by assumption) ?_; conv => whnf)
      | (refine Br.of_f (by assumption) ?_; conv => whnf)
      | (refine Br.mk (fun _ => ?_) (fun _ => ?_) <;> try conv => whnf))
    | (apply CallOp.id; first
      | (refine call_eat [2] hdel rfl rfl rfl rfl rfl rfl (by decide) rfl (by decide) (hob _ rfl) (fun xs hxs => ?_); subst hxs; conv => whnf)
      | (refine call_eatD [2] hdel rfl rfl rfl rfl rfl rfl (by decide) rfl (by decide) (hob _ rfl) ?_; conv => whnf)
      | (refine call_at rfl rfl rfl rfl rfl ?_)
      | (refine call_rd rfl rfl rfl rfl rfl ?_)
      | (refine CallOp.std ?_; (conv => whnf); fail_if_success refine (?_ : False)))
    | (apply CallDet.id; first
      | (refine call_eat [2] hdel rfl rfl rfl rfl rfl rfl (by decide) rfl (by decide) (hob _ rfl) (fun xs hxs => ?_); subst hxs; conv => whnf)
      | (refine call_eatD [2] hdel rfl rfl rfl rfl rfl rfl (by decide) rfl (by decide) (hob _ rfl) ?_; conv => whnf)
      | (refine call_atD rfl rfl rfl rfl rfl ?_)
      | (refine call_rdD rfl rfl rfl rfl rfl ?_)
      | (refine CallDet.std ?_; (conv => whnf); fail_if_success refine (?_ : False)))
    | (apply CallAt.id; first
      | (apply CallAt.mk1 (h1); conv => whnf)
      | (apply CallAt.mk1 (h2); conv => whnf)
      | (apply CallAt.mk1 (h3); conv => whnf))
    | (apply CallRd.id; first
      | (apply CallRd.mk1 (h1); (· rfl); conv => whnf)
      | (apply CallRd.mk1 (h2); (· rfl); conv => whnf)
      | (apply CallRd.mk1 (h3); (· rfl); conv => whnf))
    | (refine EndOk.mk (by kernel_rfl) ?_; conv => whnf)
    | (refine And.intro (by (first | decide | exact trivial | omega | exact Nat.le_refl _ | (((try simp only [decide_eq_true_eq, decide_eq_false_iff_not, cond_true, cond_false, beq_iff_eq, beq_eq_false_iff_ne, bne_iff_ne, bne_eq_false_iff_eq, ne_eq, Bool.not_eq_true', Bool.not_eq_false', Bool.not_eq_eq_eq_not, Bool.not_true, Bool.not_false, sLe_eq, Bool.and_eq_true, Bool.and_eq_false_iff, List.length_map, List.length_set, List.length_append, List.length_take, List.length_drop, List.length_replicate, List.length_cons, List.length_nil, lenMax, capMax, Int.toNat_natCast, gt_iff_lt, ge_iff_le] at *); (try simp (disch := omega) only [wr, wru, shr1, Int.tdiv_eq_ediv_of_nonneg] at *)); omega) | (((try simp only [decide_eq_true_eq, decide_eq_false_iff_not, cond_true, cond_false, beq_iff_eq, beq_eq_false_iff_ne, bne_iff_ne, bne_eq_false_iff_eq, ne_eq, Bool.not_eq_true', Bool.not_eq_false', Bool.not_eq_eq_eq_not, Bool.not_true, Bool.not_false, sLe_eq, Bool.and_eq_true, Bool.and_eq_false_iff, List.length_map, List.length_set, List.length_append, List.length_take, List.length_drop, List.length_replicate, List.length_cons, List.length_nil, lenMax, capMax, Int.toNat_natCast, gt_iff_lt, ge_iff_le] at *); (try simp (disch := omega) only [wr, wru, shr1, Int.tdiv_eq_ediv_of_nonneg] at *)); assumption))) ?_; conv => whnf)
    | (refine idxOld (by assumption) ?_; conv => whnf)
    | (refine idxMap (by (first | decide | exact trivial | omega | exact Nat.le_refl _ | (((try simp only [decide_eq_true_eq, decide_eq_false_iff_not, cond_true, cond_false, beq_iff_eq, beq_eq_false_iff_ne, bne_iff_ne, bne_eq_false_iff_eq, ne_eq, Bool.not_eq_true', Bool.not_eq_false', Bool.not_eq_eq_eq_not, Bool.not_true, Bool.not_false, sLe_eq, Bool.and_eq_true, Bool.and_eq_false_iff, List.length_map, List.length_set, List.length_append, List.length_take, List.length_drop, List.length_replicate, List.length_cons, List.length_nil, lenMax, capMax, Int.toNat_natCast, gt_iff_lt, ge_iff_le] at *); (try simp (disch := omega) only [wr, wru, shr1, Int.tdiv_eq_ediv_of_nonneg] at *)); omega) | (((try simp only [decide_eq_true_eq, decide_eq_false_iff_not, cond_true, cond_false, beq_iff_eq, beq_eq_false_iff_ne, bne_iff_ne, bne_eq_false_iff_eq, ne_eq, Bool.not_eq_true', Bool.not_eq_false', Bool.not_eq_eq_eq_not, Bool.not_true, Bool.not_false, sLe_eq, Bool.and_eq_true, Bool.and_eq_false_iff, List.length_map, List.length_set, List.length_append, List.length_take, List.length_drop, List.length_replicate, List.length_cons, List.length_nil, lenMax, capMax, Int.toNat_natCast, gt_iff_lt, ge_iff_le] at *); (try simp (disch := omega) only [wr, wru, shr1, Int.tdiv_eq_ediv_of_nonneg] at *)); assumption))) (fun _ _ => ?_); conv => whnf)
    | refine Exists.intro _ (And.intro (DV_toV rfl) ?_)
    | (refine rowSet (by (first | decide | exact trivial | omega | exact Nat.le_refl _ | (((try simp only [decide_eq_true_eq, decide_eq_false_iff_not, cond_true, cond_false, beq_iff_eq, beq_eq_false_iff_ne, bne_iff_ne, bne_eq_false_iff_eq, ne_eq, Bool.not_eq_true', Bool.not_eq_false', Bool.not_eq_eq_eq_not, Bool.not_true, Bool.not_false, sLe_eq, Bool.and_eq_true, Bool.and_eq_false_iff, List.length_map, List.length_set, List.length_append, List.length_take, List.length_drop, List.length_replicate, List.length_cons, List.length_nil, lenMax, capMax, Int.toNat_natCast, gt_iff_lt, ge_iff_le] at *); (try simp (disch := omega) only [wr, wru, shr1, Int.tdiv_eq_ediv_of_nonneg] at *)); omega) | (((try simp only [decide_eq_true_eq, decide_eq_false_iff_not, cond_true, cond_false, beq_iff_eq, beq_eq_false_iff_ne, bne_iff_ne, bne_eq_false_iff_eq, ne_eq, Bool.not_eq_true', Bool.not_eq_false', Bool.not_eq_eq_eq_not, Bool.not_true, Bool.not_false, sLe_eq, Bool.and_eq_true, Bool.and_eq_false_iff, List.length_map, List.length_set, List.length_append, List.length_take, List.length_drop, List.length_replicate, List.length_cons, List.length_nil, lenMax, capMax, Int.toNat_natCast, gt_iff_lt, ge_iff_le] at *); (try simp (disch := omega) only [wr, wru, shr1, Int.tdiv_eq_ediv_of_nonneg] at *)); assumption))) ?_; conv => whnf)
    | (refine rowOld (by assumption) ?_; conv => whnf)
    | (refine rowNew (by (first | decide | exact trivial | omega | exact Nat.le_refl _ | (((try simp only [decide_eq_true_eq, decide_eq_false_iff_not, cond_true, cond_false, beq_iff_eq, beq_eq_false_iff_ne, bne_iff_ne, bne_eq_false_iff_eq, ne_eq, Bool.not_eq_true', Bool.not_eq_false', Bool.not_eq_eq_eq_not, Bool.not_true, Bool.not_false, sLe_eq, Bool.and_eq_true, Bool.and_eq_false_iff, List.length_map, List.length_set, List.length_append, List.length_take, List.length_drop, List.length_replicate, List.length_cons, List.length_nil, lenMax, capMax, Int.toNat_natCast, gt_iff_lt, ge_iff_le] at *); (try simp (disch := omega) only [wr, wru, shr1, Int.tdiv_eq_ediv_of_nonneg] at *)); omega) | (((try simp only [decide_eq_true_eq, decide_eq_false_iff_not, cond_true, cond_false, beq_iff_eq, beq_eq_false_iff_ne, bne_iff_ne, bne_eq_false_iff_eq, ne_eq, Bool.not_eq_true', Bool.not_eq_false', Bool.not_eq_eq_eq_not, Bool.not_true, Bool.not_false, sLe_eq, Bool.and_eq_true, Bool.and_eq_false_iff, List.length_map, List.length_set, List.length_append, List.length_take, List.length_drop, List.length_replicate, List.length_cons, List.length_nil, lenMax, capMax, Int.toNat_natCast, gt_iff_lt, ge_iff_le] at *); (try simp (disch := omega) only [wr, wru, shr1, Int.tdiv_eq_ediv_of_nonneg] at *)); assumption))) (fun _ _ => ?_); conv => whnf)
    | (apply WpD.id; first
      | (refine WpD.loop (fun q : Nat × Int => ⟨[(1, .ptr 0 0 0), (4, .ptr 1 0 0), (6, .arr 2 0 5), (39, .arr 2 0 5), (40, .v (.int .i64 5)), (7, .v (.int .i64 q.2)), (41, .v (.int .i64 q.1))], [.arr 7 (vrows [r.row]), .arr 2 (vrows [[.int .i64 0, .int .i64 0]]), .arr 2 (vrows ((allR r).map Rn.row))], []⟩) (fun q => q.1 ≤ 5 ∧ q.2 = sumP ((allR r).take q.1) ∧ -50 * (q.1 : Int) ≤ q.2 ∧ q.2 ≤ 50 * (q.1 : Int)) (fun q => 5 - q.1) ?_ (fun ⟨k, s⟩ hq => ?_); rotate_left; dsimp only at hq; obtain ⟨hq1, hq2, hq3, hq4⟩ := hq; have hal := all_len r; dsimp only)
      | (refine WpD.walk rfl ?_; conv => whnf))
    | (rw [hdrop]; conv => whnf)
  all_goals clear h1 h2 h3 hdel hob
  all_goals ((try simp only [decide_eq_true_eq, decide_eq_false_iff_not, cond_true, cond_false, beq_iff_eq, beq_eq_false_iff_ne, bne_iff_ne, bne_eq_false_iff_eq, ne_eq, Bool.not_eq_true', Bool.not_eq_false', Bool.not_eq_eq_eq_not, Bool.not_true, Bool.not_false, sLe_eq, Bool.and_eq_true, Bool.and_eq_false_iff, List.length_map, List.length_set, List.length_append, List.length_take, List.length_drop, List.length_replicate, List.length_cons, List.length_nil, lenMax, capMax, Int.toNat_natCast, gt_iff_lt, ge_iff_le] at *); (try simp (disch := omega) only [wr, wru, shr1, Int.tdiv_eq_ediv_of_nonneg] at *))
  all_goals try rename (allR r)[_]? = some _ => hx
  all_goals first
    | (refine ⟨(0, 0), [0, 1, 3], ⟨by decide, rfl, by decide, by decide⟩, ⟨by decide, rfl, ?_, ?_, rfl⟩⟩
       · (repeat' first | exact trivial | rfl | apply And.intro | (refine leInt rfl ?_; first | omega | (dsimp only; omega)) | (refine leArr rfl ?_ rfl; (simp; try omega)) | (refine leBool rfl ?_; assumption))
         done
       · (repeat' first | exact trivial | (refine obLe_v ?_; try dsimp only) | rfl | apply And.intro)
         all_goals (simp [allR, Rn.row, vrows, hw4, hw5]; exact ⟨rfl, rfl, rfl, ⟨rfl, by simpa using hw4⟩, rfl⟩)
         done)
    | (rename Rn => x
       have hbx := hb _ (List.mem_of_getElem? hx)
       have hx' : (allR r)[k]? = some x := by simpa using hx
       have hk := lt_get hx'
       have hs' : sumP ((allR r).take (k + 1)) = s + x.p := by rw [take_get hx', sumP, List.map_append, List.sum_append, ← sumP, ← hq2]; simp
       have hwr : IntKind.i64.wrap (s + x.p) = s + x.p := wr (by omega) (by omega)
       rw [hwr]
       refine ⟨(k + 1, sumP ((allR r).take (k + 1))), [0, 1, 2], ⟨by dsimp only; omega, rfl, ?_, ?_⟩, ⟨⟨by decide, rfl, ?_, ?_, rfl⟩, by dsimp only; omega⟩⟩
       · dsimp only; rw [hs']; omega
       · dsimp only; rw [hs']; omega
       · dsimp only; rw [hs']
         (repeat' first | exact trivial | rfl | apply And.intro | (refine leInt rfl ?_; first | omega | (dsimp only; omega)) | (refine leArr rfl ?_ rfl; (simp; try omega)) | (refine leBool rfl ?_; assumption))
         done
       · (repeat' first | exact trivial | (refine obLe_v ?_; try dsimp only) | rfl | apply And.intro)
         done)
    | (have hk5 : k = 5 := by omega
       subst hk5
       have hs : s = sumP (allR r) := by rw [hq2, List.take_of_length_le (by rw [all_len]; omega)]
       refine ⟨_, ?_, rfl⟩
       refine ⟨?_, ⟨rfl, _, rfl, ?_, ?_⟩, ⟨rfl, rfl, trivial⟩, trivial⟩
       · refine congrArg (V.int .i64) ?_
         unfold decP; rw [← hs]; simp [*]; try omega
       · simp [outR, *, Rn.row, List.take_append, List.take_of_length_le] <;> first | done | exact ⟨rfl, rfl⟩ | rfl
       · simp [outR, *]; try omega
       done)
    | skip
  all_goals trace_state
end Go.DL
