/- Hosts: the result for a domain, by the finder and by the reference. No condition. -/
import Derived.Test.YtacpahgoomdfaaaDoorH13
set_option linter.unusedVariables false
set_option linter.unusedSimpArgs false
set_option maxHeartbeats 4000000
namespace Go.DL
open Go.Proofs

/-- The finder's row. -/
def fiV (z : Bool) (l : List Pl) (host : ByteArray) (lk : Int) : List V := [pls z l, .str host, .int .i64 lk]
theorem find_idx {α : Type} {P : α → Bool} {l : List α} {i : Nat} {x : α} (h : l.findIdx? P = some i) (hx : l[i]? = some x) : l.find? P = some x := by
  induction l generalizing i with
  | nil => simp at h
  | cons a l ih =>
    rw [List.findIdx?_cons] at h
    rw [List.find?_cons]
    cases ha : P a with
    | true =>
      rw [ha] at h
      simp at h
      subst h
      simpa using hx
    | false =>
      rw [ha] at h
      simp at h
      obtain ⟨j, hj, rfl⟩ := h
      exact ih hj (by simpa using hx)
theorem find_none {α : Type} {P : α → Bool} {l : List α} (h : l.findIdx? P = none) : l.find? P = none := by
  rw [List.findIdx?_eq_none_iff] at h
  rw [List.find?_eq_none]
  intro x hx
  rw [h x hx]; simp
theorem hres_none {l : List Pl} {host dom : ByteArray} {n : Nat} {lk : Int} (h : ¬ 10 < lk + 1) (hf : l.findIdx? (isD dom) = none) : hresF l host (n + 1) dom lk = (0, lk + 1) := by
  unfold hresF; rw [if_neg h, find_none hf]
theorem hres_some {l : List Pl} {host dom : ByteArray} {n : Nat} {lk : Int} {i : Nat} {p : Pl} (h : ¬ 10 < lk + 1) (hf : l.findIdx? (isD dom) = some i) (hp : l[i]? = some p) : hresF l host (n + 1) dom lk = rlF host (hresF l host n) p.l (lk + 1) := by
  conv => lhs; unfold hresF
  rw [if_neg h, find_idx hf hp]
theorem rl_end {host : ByteArray} {g : ByteArray → Int → Int × Int} {l : List Rl} {k : Nat} {lk : Int} (h : l.length ≤ k) : rlF host g (l.drop k) lk = (4, lk) := by
  rw [List.drop_eq_nil_of_le h]; rfl
section
variable {host : ByteArray} {g : ByteArray → Int → Int × Int} {l : List Rl} {k : Nat} {lk : Int} {x : Rl}
theorem rl_err (hx : l[k]? = some x) (h : x.k = 4) (he : (g x.n lk).1 = 5 ∨ (g x.n lk).1 = 0) : rlF host g (l.drop k) lk = (5, (g x.n lk).2) := by
  rw [drop_get' hx]; unfold rlF; rw [if_pos h, if_pos he]
theorem rl_pass (hx : l[k]? = some x) (h : x.k = 4) (he : (g x.n lk).1 = 1) : rlF host g (l.drop k) lk = (x.r, (g x.n lk).2) := by
  rw [drop_get' hx]; unfold rlF; rw [if_pos h, if_neg (by omega), if_pos he]
theorem rl_on (hx : l[k]? = some x) (h : x.k = 4) (he : ¬ ((g x.n lk).1 = 5 ∨ (g x.n lk).1 = 0)) (he2 : ¬ (g x.n lk).1 = 1) : rlF host g (l.drop k) lk = rlF host g (l.drop (k + 1)) (g x.n lk).2 := by
  rw [drop_get' hx]; conv => lhs; unfold rlF
  rw [if_pos h, if_neg he, if_neg he2]
theorem rl_hit (hx : l[k]? = some x) (h : x.k ≠ 4) (he : hitB host x = true) : rlF host g (l.drop k) lk = (x.r, lk) := by
  rw [drop_get' hx]; unfold rlF; rw [if_neg h, if_pos he]
theorem rl_no (hx : l[k]? = some x) (h : x.k ≠ 4) (he : hitB host x = false) : rlF host g (l.drop k) lk = rlF host g (l.drop (k + 1)) lk := by
  rw [drop_get' hx]; conv => lhs; unfold rlF
  rw [if_neg h, if_neg (by simp [he])]
end
theorem hit_1 {host : ByteArray} {x : Rl} (h : x.k = 1) : hitB host x = true := by unfold hitB; rw [if_pos h]
theorem hit_2 {host : ByteArray} {x : Rl} (h : x.k = 2) : hitB host x = decide (host = x.n) := by unfold hitB; rw [if_neg (by omega), if_pos h]
theorem hit_3 {host : ByteArray} {x : Rl} (h : x.k = 3) : hitB host x = (decide (host = x.n) || sufB (dot ++ x.n) host) := by unfold hitB; rw [if_neg (by omega), if_neg (by omega)]
structure fiP (host : ByteArray) (g : ByteArray → Int → Int × Int) (l : List Rl) (lk0 : Int) (q : Nat × Int) : Prop where
  k : q.1 ≤ l.length
  e : rlF host g l lk0 = rlF host g (l.drop q.1) q.2
  a : lk0 ≤ q.2
  b : q.2 ≤ 10
theorem callW_of {f : FuncId} {fn : Func} {code : Code} {args : List D} {sz : Nat} {xs : List (List V)} {Q : V → List (List V) → Prop} (hf : Tryd.prog.funcs[f]? = some fn) (hb : fn.body = some code) (hn : args.length ≤ fn.ntmps) (hname : (fn.name == "runtime.NumGoroutine") = false)
    (h : WpD tab 1 fn.ntmps code ⟨argEnv 0 args, [.arr sz (vrows xs)], []⟩ (retQ tab fn fun d L' => ∃ r ys, d = .v r ∧ Q r ys ∧ obAt L' 0 = .arr sz (vrows ys))) : CallW tab f args sz xs Q := callD_of hf hb hn hname h
theorem c_result (z : Bool) (l : List Pl) (host : ByteArray) (hl : l.length ≤ 60) (hr : ∀ p ∈ l, p.l.length ≤ 60 ∧ ∀ x ∈ p.l, okR1 x) (hh : host.size ≤ 60) : ∀ (n : Nat) (dom : ByteArray) (lk : Int), 0 ≤ lk → lk ≤ 10 → 10 ≤ (n : Int) + lk → CallW tab 32 [.ptr 0 0 0, .v (.str dom)] 3 [fiV z l host lk] (fun r y => r = .int .i64 (hresF l host n dom lk).1 ∧ y = [fiV z l host (hresF l host n dom lk).2])
  | n, dom, lk, h0, h10, hn => by
    have h1 := c_Ix1 z l dom (by omega)
    by_cases hlk : 10 < lk + 1
    · have e : hresF l host n dom lk = (5, lk + 1) := by
        cases n with
        | zero => rfl
        | succ n => unfold hresF; rw [if_pos hlk]
      rw [e]
      have hw : IntKind.wrap .i64 (lk + 1) = lk + 1 := wr (by omega) (by omega)
      have dlk : decide (IntKind.wrap .i64 (lk + 1) > 10) = true := by rw [hw]; simp; omega
      refine callW_of Tryd.func32 rfl (Nat.le_of_ble_eq_true rfl) (by kernel_rfl) ?_
      repeat' first
        | (apply Br.id; first
      | (apply Br.tt; try conv => whnf)
      | (apply Br.ff; try conv => whnf)
      | (refine Br.of_t (by assumption) ?_; conv => whnf)
      | (refine Br.of_f (by assumption) ?_; conv => whnf)
      | (refine Br.mk (fun _ => ?_) (fun _ => ?_) <;> try conv => whnf))
        | (apply CallOp.id; first
      | (refine call_at rfl rfl rfl rfl rfl ?_)
      | (refine call_rd rfl rfl rfl rfl rfl ?_)
      | (refine CallOp.std ?_; (conv => whnf); fail_if_success refine (?_ : False)))
        | (apply CallDet.id; first
      | (refine call_atD rfl rfl rfl rfl rfl ?_)
      | (refine call_rdD rfl rfl rfl rfl rfl ?_)
      | (refine CallDet.std ?_; (conv => whnf); fail_if_success refine (?_ : False)))
        | (refine EndOk.mk (by kernel_rfl) ?_; conv => whnf)
        | (refine And.intro (by (first | decide | exact trivial | omega | exact Nat.le_refl _ | (((try simp only [decide_eq_true_eq, decide_eq_false_iff_not, cond_true, cond_false, beq_iff_eq, beq_eq_false_iff_ne, bne_iff_ne, bne_eq_false_iff_eq, ne_eq, Bool.not_eq_true', Bool.not_eq_false', Bool.not_eq_eq_eq_not, Bool.not_true, Bool.not_false, sLe_eq, Bool.and_eq_true, Bool.and_eq_false_iff, List.length_map, List.length_set, List.length_append, List.length_take, List.length_drop, List.length_replicate, List.length_cons, List.length_nil, lenMax, capMax, Int.toNat_natCast, gt_iff_lt, ge_iff_le] at *); (try simp (disch := omega) only [wr, wru, shr1, Int.tdiv_eq_ediv_of_nonneg] at *)); omega) | (((try simp only [decide_eq_true_eq, decide_eq_false_iff_not, cond_true, cond_false, beq_iff_eq, beq_eq_false_iff_ne, bne_iff_ne, bne_eq_false_iff_eq, ne_eq, Bool.not_eq_true', Bool.not_eq_false', Bool.not_eq_eq_eq_not, Bool.not_true, Bool.not_false, sLe_eq, Bool.and_eq_true, Bool.and_eq_false_iff, List.length_map, List.length_set, List.length_append, List.length_take, List.length_drop, List.length_replicate, List.length_cons, List.length_nil, lenMax, capMax, Int.toNat_natCast, gt_iff_lt, ge_iff_le] at *); (try simp (disch := omega) only [wr, wru, shr1, Int.tdiv_eq_ediv_of_nonneg] at *)); assumption))) ?_; conv => whnf)
        | (refine idxOld (by assumption) ?_; conv => whnf)
        | (refine idxMap (by (first | decide | exact trivial | omega | exact Nat.le_refl _ | (((try simp only [decide_eq_true_eq, decide_eq_false_iff_not, cond_true, cond_false, beq_iff_eq, beq_eq_false_iff_ne, bne_iff_ne, bne_eq_false_iff_eq, ne_eq, Bool.not_eq_true', Bool.not_eq_false', Bool.not_eq_eq_eq_not, Bool.not_true, Bool.not_false, sLe_eq, Bool.and_eq_true, Bool.and_eq_false_iff, List.length_map, List.length_set, List.length_append, List.length_take, List.length_drop, List.length_replicate, List.length_cons, List.length_nil, lenMax, capMax, Int.toNat_natCast, gt_iff_lt, ge_iff_le] at *); (try simp (disch := omega) only [wr, wru, shr1, Int.tdiv_eq_ediv_of_nonneg] at *)); omega) | (((try simp only [decide_eq_true_eq, decide_eq_false_iff_not, cond_true, cond_false, beq_iff_eq, beq_eq_false_iff_ne, bne_iff_ne, bne_eq_false_iff_eq, ne_eq, Bool.not_eq_true', Bool.not_eq_false', Bool.not_eq_eq_eq_not, Bool.not_true, Bool.not_false, sLe_eq, Bool.and_eq_true, Bool.and_eq_false_iff, List.length_map, List.length_set, List.length_append, List.length_take, List.length_drop, List.length_replicate, List.length_cons, List.length_nil, lenMax, capMax, Int.toNat_natCast, gt_iff_lt, ge_iff_le] at *); (try simp (disch := omega) only [wr, wru, shr1, Int.tdiv_eq_ediv_of_nonneg] at *)); assumption))) (fun _ _ => ?_); conv => whnf)
        | refine Exists.intro _ (And.intro (DV_toV rfl) ?_)
        | (refine rowSet (by (first | decide | exact trivial | omega | exact Nat.le_refl _ | (((try simp only [decide_eq_true_eq, decide_eq_false_iff_not, cond_true, cond_false, beq_iff_eq, beq_eq_false_iff_ne, bne_iff_ne, bne_eq_false_iff_eq, ne_eq, Bool.not_eq_true', Bool.not_eq_false', Bool.not_eq_eq_eq_not, Bool.not_true, Bool.not_false, sLe_eq, Bool.and_eq_true, Bool.and_eq_false_iff, List.length_map, List.length_set, List.length_append, List.length_take, List.length_drop, List.length_replicate, List.length_cons, List.length_nil, lenMax, capMax, Int.toNat_natCast, gt_iff_lt, ge_iff_le] at *); (try simp (disch := omega) only [wr, wru, shr1, Int.tdiv_eq_ediv_of_nonneg] at *)); omega) | (((try simp only [decide_eq_true_eq, decide_eq_false_iff_not, cond_true, cond_false, beq_iff_eq, beq_eq_false_iff_ne, bne_iff_ne, bne_eq_false_iff_eq, ne_eq, Bool.not_eq_true', Bool.not_eq_false', Bool.not_eq_eq_eq_not, Bool.not_true, Bool.not_false, sLe_eq, Bool.and_eq_true, Bool.and_eq_false_iff, List.length_map, List.length_set, List.length_append, List.length_take, List.length_drop, List.length_replicate, List.length_cons, List.length_nil, lenMax, capMax, Int.toNat_natCast, gt_iff_lt, ge_iff_le] at *); (try simp (disch := omega) only [wr, wru, shr1, Int.tdiv_eq_ediv_of_nonneg] at *)); assumption))) ?_; conv => whnf)
        | (refine rowOld (by assumption) ?_; conv => whnf)
        | (refine rowNew (by (first | decide | exact trivial | omega | exact Nat.le_refl _ | (((try simp only [decide_eq_true_eq, decide_eq_false_iff_not, cond_true, cond_false, beq_iff_eq, beq_eq_false_iff_ne, bne_iff_ne, bne_eq_false_iff_eq, ne_eq, Bool.not_eq_true', Bool.not_eq_false', Bool.not_eq_eq_eq_not, Bool.not_true, Bool.not_false, sLe_eq, Bool.and_eq_true, Bool.and_eq_false_iff, List.length_map, List.length_set, List.length_append, List.length_take, List.length_drop, List.length_replicate, List.length_cons, List.length_nil, lenMax, capMax, Int.toNat_natCast, gt_iff_lt, ge_iff_le] at *); (try simp (disch := omega) only [wr, wru, shr1, Int.tdiv_eq_ediv_of_nonneg] at *)); omega) | (((try simp only [decide_eq_true_eq, decide_eq_false_iff_not, cond_true, cond_false, beq_iff_eq, beq_eq_false_iff_ne, bne_iff_ne, bne_eq_false_iff_eq, ne_eq, Bool.not_eq_true', Bool.not_eq_false', Bool.not_eq_eq_eq_not, Bool.not_true, Bool.not_false, sLe_eq, Bool.and_eq_true, Bool.and_eq_false_iff, List.length_map, List.length_set, List.length_append, List.length_take, List.length_drop, List.length_replicate, List.length_cons, List.length_nil, lenMax, capMax, Int.toNat_natCast, gt_iff_lt, ge_iff_le] at *); (try simp (disch := omega) only [wr, wru, shr1, Int.tdiv_eq_ediv_of_nonneg] at *)); assumption))) (fun _ _ => ?_); conv => whnf)
        | (apply WpD.id; first
      | (refine WpD.walk rfl ?_; conv => whnf))
      all_goals (rw [hw]; exact ⟨_, _, rfl, ⟨rfl, rfl⟩, rfl⟩)
    · obtain ⟨n, rfl⟩ : ∃ m, n = m + 1 := ⟨n - 1, by omega⟩
      have ih := c_result z l host hl hr hh n
      have hw : IntKind.wrap .i64 (lk + 1) = lk + 1 := wr (by omega) (by omega)
      have dlk : decide (IntKind.wrap .i64 (lk + 1) > 10) = false := by rw [hw]; simp; omega
      cases hf : l.findIdx? (isD dom) with
      | none =>
        have hi : idxI (isD dom) l = -1 := by unfold idxI; rw [hf]
        rw [hi] at h1
        rw [hres_none hlk hf]
        refine callW_of Tryd.func32 rfl (Nat.le_of_ble_eq_true rfl) (by kernel_rfl) ?_
        repeat' first
          | (apply Br.id; first
      | (apply Br.tt; try conv => whnf)
      | (apply Br.ff; try conv => whnf)
      | (refine Br.of_t (by assumption) ?_; conv => whnf)
      | (refine Br.of_f (by assumption) ?_; conv => whnf)
      | (refine Br.mk (fun _ => ?_) (fun _ => ?_) <;> try conv => whnf))
          | (apply CallOp.id; first
      | (refine call_at rfl rfl rfl rfl rfl ?_)
      | (refine call_rd rfl rfl rfl rfl rfl ?_)
      | (refine CallOp.std ?_; (conv => whnf); fail_if_success refine (?_ : False)))
          | (apply CallDet.id; first
      | (refine call_atD rfl rfl rfl rfl rfl ?_)
      | (refine call_rdD rfl rfl rfl rfl rfl ?_)
      | (refine CallDet.std ?_; (conv => whnf); fail_if_success refine (?_ : False)))
          | (apply CallAt.id; first
      | (apply CallAt.mk1 (h1); conv => whnf))
          | (apply CallRd.id; first
      | (apply CallRd.mk1 (h1); (· rfl); conv => whnf)
      | (apply CallRd.mk1 h1; (· rfl); conv => whnf))
          | (refine EndOk.mk (by kernel_rfl) ?_; conv => whnf)
          | (refine And.intro (by (first | decide | exact trivial | omega | exact Nat.le_refl _ | (((try simp only [decide_eq_true_eq, decide_eq_false_iff_not, cond_true, cond_false, beq_iff_eq, beq_eq_false_iff_ne, bne_iff_ne, bne_eq_false_iff_eq, ne_eq, Bool.not_eq_true', Bool.not_eq_false', Bool.not_eq_eq_eq_not, Bool.not_true, Bool.not_false, sLe_eq, Bool.and_eq_true, Bool.and_eq_false_iff, List.length_map, List.length_set, List.length_append, List.length_take, List.length_drop, List.length_replicate, List.length_cons, List.length_nil, lenMax, capMax, Int.toNat_natCast, gt_iff_lt, ge_iff_le] at *); (try simp (disch := omega) only [wr, wru, shr1, Int.tdiv_eq_ediv_of_nonneg] at *)); omega) | (((try simp only [decide_eq_true_eq, decide_eq_false_iff_not, cond_true, cond_false, beq_iff_eq, beq_eq_false_iff_ne, bne_iff_ne, bne_eq_false_iff_eq, ne_eq, Bool.not_eq_true', Bool.not_eq_false', Bool.not_eq_eq_eq_not, Bool.not_true, Bool.not_false, sLe_eq, Bool.and_eq_true, Bool.and_eq_false_iff, List.length_map, List.length_set, List.length_append, List.length_take, List.length_drop, List.length_replicate, List.length_cons, List.length_nil, lenMax, capMax, Int.toNat_natCast, gt_iff_lt, ge_iff_le] at *); (try simp (disch := omega) only [wr, wru, shr1, Int.tdiv_eq_ediv_of_nonneg] at *)); assumption))) ?_; conv => whnf)
          | (refine idxOld (by assumption) ?_; conv => whnf)
          | (refine idxMap (by (first | decide | exact trivial | omega | exact Nat.le_refl _ | (((try simp only [decide_eq_true_eq, decide_eq_false_iff_not, cond_true, cond_false, beq_iff_eq, beq_eq_false_iff_ne, bne_iff_ne, bne_eq_false_iff_eq, ne_eq, Bool.not_eq_true', Bool.not_eq_false', Bool.not_eq_eq_eq_not, Bool.not_true, Bool.not_false, sLe_eq, Bool.and_eq_true, Bool.and_eq_false_iff, List.length_map, List.length_set, List.length_append, List.length_take, List.length_drop, List.length_replicate, List.length_cons, List.length_nil, lenMax, capMax, Int.toNat_natCast, gt_iff_lt, ge_iff_le] at *); (try simp (disch := omega) only [wr, wru, shr1, Int.tdiv_eq_ediv_of_nonneg] at *)); omega) | (((try simp only [decide_eq_true_eq, decide_eq_false_iff_not, cond_true, cond_false, beq_iff_eq, beq_eq_false_iff_ne, bne_iff_ne, bne_eq_false_iff_eq, ne_eq, Bool.not_eq_true', Bool.not_eq_false', Bool.not_eq_eq_eq_not, Bool.not_true, Bool.not_false, sLe_eq, Bool.and_eq_true, Bool.and_eq_false_iff, List.length_map, List.length_set, List.length_append, List.length_take, List.length_drop, List.length_replicate, List.length_cons, List.length_nil, lenMax, capMax, Int.toNat_natCast, gt_iff_lt, ge_iff_le] at *); (try simp (disch := omega) only [wr, wru, shr1, Int.tdiv_eq_ediv_of_nonneg] at *)); assumption))) (fun _ _ => ?_); conv => whnf)
          | refine Exists.intro _ (And.intro (DV_toV rfl) ?_)
          | (refine rowSet (by (first | decide | exact trivial | omega | exact Nat.le_refl _ | (((try simp only [decide_eq_true_eq, decide_eq_false_iff_not, cond_true, cond_false, beq_iff_eq, beq_eq_false_iff_ne, bne_iff_ne, bne_eq_false_iff_eq, ne_eq, Bool.not_eq_true', Bool.not_eq_false', Bool.not_eq_eq_eq_not, Bool.not_true, Bool.not_false, sLe_eq, Bool.and_eq_true, Bool.and_eq_false_iff, List.length_map, List.length_set, List.length_append, List.length_take, List.length_drop, List.length_replicate, List.length_cons, List.length_nil, lenMax, capMax, Int.toNat_natCast, gt_iff_lt, ge_iff_le] at *); (try simp (disch := omega) only [wr, wru, shr1, Int.tdiv_eq_ediv_of_nonneg] at *)); omega) | (((try simp only [decide_eq_true_eq, decide_eq_false_iff_not, cond_true, cond_false, beq_iff_eq, beq_eq_false_iff_ne, bne_iff_ne, bne_eq_false_iff_eq, ne_eq, Bool.not_eq_true', Bool.not_eq_false', Bool.not_eq_eq_eq_not, Bool.not_true, Bool.not_false, sLe_eq, Bool.and_eq_true, Bool.and_eq_false_iff, List.length_map, List.length_set, List.length_append, List.length_take, List.length_drop, List.length_replicate, List.length_cons, List.length_nil, lenMax, capMax, Int.toNat_natCast, gt_iff_lt, ge_iff_le] at *); (try simp (disch := omega) only [wr, wru, shr1, Int.tdiv_eq_ediv_of_nonneg] at *)); assumption))) ?_; conv => whnf)
          | (refine rowOld (by assumption) ?_; conv => whnf)
          | (refine rowNew (by (first | decide | exact trivial | omega | exact Nat.le_refl _ | (((try simp only [decide_eq_true_eq, decide_eq_false_iff_not, cond_true, cond_false, beq_iff_eq, beq_eq_false_iff_ne, bne_iff_ne, bne_eq_false_iff_eq, ne_eq, Bool.not_eq_true', Bool.not_eq_false', Bool.not_eq_eq_eq_not, Bool.not_true, Bool.not_false, sLe_eq, Bool.and_eq_true, Bool.and_eq_false_iff, List.length_map, List.length_set, List.length_append, List.length_take, List.length_drop, List.length_replicate, List.length_cons, List.length_nil, lenMax, capMax, Int.toNat_natCast, gt_iff_lt, ge_iff_le] at *); (try simp (disch := omega) only [wr, wru, shr1, Int.tdiv_eq_ediv_of_nonneg] at *)); omega) | (((try simp only [decide_eq_true_eq, decide_eq_false_iff_not, cond_true, cond_false, beq_iff_eq, beq_eq_false_iff_ne, bne_iff_ne, bne_eq_false_iff_eq, ne_eq, Bool.not_eq_true', Bool.not_eq_false', Bool.not_eq_eq_eq_not, Bool.not_true, Bool.not_false, sLe_eq, Bool.and_eq_true, Bool.and_eq_false_iff, List.length_map, List.length_set, List.length_append, List.length_take, List.length_drop, List.length_replicate, List.length_cons, List.length_nil, lenMax, capMax, Int.toNat_natCast, gt_iff_lt, ge_iff_le] at *); (try simp (disch := omega) only [wr, wru, shr1, Int.tdiv_eq_ediv_of_nonneg] at *)); assumption))) (fun _ _ => ?_); conv => whnf)
          | (apply WpD.id; first
      | (refine WpD.walk rfl ?_; conv => whnf))
        all_goals (rw [hw]; exact ⟨_, _, rfl, ⟨rfl, rfl⟩, rfl⟩)
      | some i =>
        have hi : idxI (isD dom) l = (i : Int) := by unfold idxI; rw [hf]
        rw [hi] at h1
        have hlt : i < l.length := by rw [List.findIdx?_eq_some_iff_getElem] at hf; exact hf.1
        obtain ⟨p, hp⟩ : ∃ p, l[i]? = some p := ⟨_, List.getElem?_eq_getElem hlt⟩
        have hp0 : l[((i : Nat) : Int).toNat]? = some p := hp
        have hpl := (hr p (List.mem_of_getElem? hp)).1
        have di : decide (((i : Nat) : Int) < 0) = false := by simp
        refine callW_of Tryd.func32 rfl (Nat.le_of_ble_eq_true rfl) (by kernel_rfl) ?_
        repeat' first
          | (apply Br.id; first
      | (apply Br.tt; try conv => whnf)
      | (apply Br.ff; try conv => whnf)
      | (refine Br.of_t (by assumption) ?_; conv => whnf)
      | (refine Br.of_f (by assumption) ?_; conv => whnf)
      | (refine Br.mk (fun _ => ?_) (fun _ => ?_) <;> try conv => whnf))
          | (apply CallOp.id; first
      | (refine call_inw 0 hrec rfl rfl rfl rfl rfl rfl (obLe_v rfl) (fun r0 y0 hq0 => ?_); obtain ⟨rfl, rfl⟩ := hq0; conv => whnf)
      | (refine call_inwD 0 hrec rfl rfl rfl rfl rfl rfl (obLe_v rfl) ?_; conv => whnf)
      | (refine call_at rfl rfl rfl rfl rfl ?_)
      | (refine call_rd rfl rfl rfl rfl rfl ?_)
      | (refine CallOp.std ?_; (conv => whnf); fail_if_success refine (?_ : False)))
          | (apply CallDet.id; first
      | (refine call_inw 0 hrec rfl rfl rfl rfl rfl rfl (obLe_v rfl) (fun r0 y0 hq0 => ?_); obtain ⟨rfl, rfl⟩ := hq0; conv => whnf)
      | (refine call_inwD 0 hrec rfl rfl rfl rfl rfl rfl (obLe_v rfl) ?_; conv => whnf)
      | (refine call_atD rfl rfl rfl rfl rfl ?_)
      | (refine call_rdD rfl rfl rfl rfl rfl ?_)
      | (refine CallDet.std ?_; (conv => whnf); fail_if_success refine (?_ : False)))
          | (apply CallAt.id; first
      | (apply CallAt.mk1 (h1); conv => whnf)
      | (apply CallAt.mk1 (hsu); conv => whnf))
          | (apply CallRd.id; first
      | (apply CallRd.mk1 (h1); (· rfl); conv => whnf)
      | (apply CallRd.mk1 h1; (· rfl); conv => whnf)
      | (apply CallRd.mk1 (hsu); (· rfl); conv => whnf))
          | (refine EndOk.mk (by kernel_rfl) ?_; conv => whnf)
          | (refine And.intro (by with_reducible exact qs) ?_; conv => whnf)
          | (refine And.intro (by (first | decide | exact trivial | omega | exact Nat.le_refl _ | (((try simp only [decide_eq_true_eq, decide_eq_false_iff_not, cond_true, cond_false, beq_iff_eq, beq_eq_false_iff_ne, bne_iff_ne, bne_eq_false_iff_eq, ne_eq, Bool.not_eq_true', Bool.not_eq_false', Bool.not_eq_eq_eq_not, Bool.not_true, Bool.not_false, sLe_eq, Bool.and_eq_true, Bool.and_eq_false_iff, List.length_map, List.length_set, List.length_append, List.length_take, List.length_drop, List.length_replicate, List.length_cons, List.length_nil, lenMax, capMax, Int.toNat_natCast, gt_iff_lt, ge_iff_le] at *); (try simp (disch := omega) only [wr, wru, shr1, Int.tdiv_eq_ediv_of_nonneg] at *)); omega) | (((try simp only [decide_eq_true_eq, decide_eq_false_iff_not, cond_true, cond_false, beq_iff_eq, beq_eq_false_iff_ne, bne_iff_ne, bne_eq_false_iff_eq, ne_eq, Bool.not_eq_true', Bool.not_eq_false', Bool.not_eq_eq_eq_not, Bool.not_true, Bool.not_false, sLe_eq, Bool.and_eq_true, Bool.and_eq_false_iff, List.length_map, List.length_set, List.length_append, List.length_take, List.length_drop, List.length_replicate, List.length_cons, List.length_nil, lenMax, capMax, Int.toNat_natCast, gt_iff_lt, ge_iff_le] at *); (try simp (disch := omega) only [wr, wru, shr1, Int.tdiv_eq_ediv_of_nonneg] at *)); assumption))) ?_; conv => whnf)
          | (refine idxOld (by assumption) ?_; conv => whnf)
          | (refine idxMap (by (first | decide | exact trivial | omega | exact Nat.le_refl _ | (((try simp only [decide_eq_true_eq, decide_eq_false_iff_not, cond_true, cond_false, beq_iff_eq, beq_eq_false_iff_ne, bne_iff_ne, bne_eq_false_iff_eq, ne_eq, Bool.not_eq_true', Bool.not_eq_false', Bool.not_eq_eq_eq_not, Bool.not_true, Bool.not_false, sLe_eq, Bool.and_eq_true, Bool.and_eq_false_iff, List.length_map, List.length_set, List.length_append, List.length_take, List.length_drop, List.length_replicate, List.length_cons, List.length_nil, lenMax, capMax, Int.toNat_natCast, gt_iff_lt, ge_iff_le] at *); (try simp (disch := omega) only [wr, wru, shr1, Int.tdiv_eq_ediv_of_nonneg] at *)); omega) | (((try simp only [decide_eq_true_eq, decide_eq_false_iff_not, cond_true, cond_false, beq_iff_eq, beq_eq_false_iff_ne, bne_iff_ne, bne_eq_false_iff_eq, ne_eq, Bool.not_eq_true', Bool.not_eq_false', Bool.not_eq_eq_eq_not, Bool.not_true, Bool.not_false, sLe_eq, Bool.and_eq_true, Bool.and_eq_false_iff, List.length_map, List.length_set, List.length_append, List.length_take, List.length_drop, List.length_replicate, List.length_cons, List.length_nil, lenMax, capMax, Int.toNat_natCast, gt_iff_lt, ge_iff_le] at *); (try simp (disch := omega) only [wr, wru, shr1, Int.tdiv_eq_ediv_of_nonneg] at *)); assumption))) (fun _ _ => ?_); conv => whnf)
          | refine Exists.intro _ (And.intro (DV_toV rfl) ?_)
          | (refine rowSet (by (first | decide | exact trivial | omega | exact Nat.le_refl _ | (((try simp only [decide_eq_true_eq, decide_eq_false_iff_not, cond_true, cond_false, beq_iff_eq, beq_eq_false_iff_ne, bne_iff_ne, bne_eq_false_iff_eq, ne_eq, Bool.not_eq_true', Bool.not_eq_false', Bool.not_eq_eq_eq_not, Bool.not_true, Bool.not_false, sLe_eq, Bool.and_eq_true, Bool.and_eq_false_iff, List.length_map, List.length_set, List.length_append, List.length_take, List.length_drop, List.length_replicate, List.length_cons, List.length_nil, lenMax, capMax, Int.toNat_natCast, gt_iff_lt, ge_iff_le] at *); (try simp (disch := omega) only [wr, wru, shr1, Int.tdiv_eq_ediv_of_nonneg] at *)); omega) | (((try simp only [decide_eq_true_eq, decide_eq_false_iff_not, cond_true, cond_false, beq_iff_eq, beq_eq_false_iff_ne, bne_iff_ne, bne_eq_false_iff_eq, ne_eq, Bool.not_eq_true', Bool.not_eq_false', Bool.not_eq_eq_eq_not, Bool.not_true, Bool.not_false, sLe_eq, Bool.and_eq_true, Bool.and_eq_false_iff, List.length_map, List.length_set, List.length_append, List.length_take, List.length_drop, List.length_replicate, List.length_cons, List.length_nil, lenMax, capMax, Int.toNat_natCast, gt_iff_lt, ge_iff_le] at *); (try simp (disch := omega) only [wr, wru, shr1, Int.tdiv_eq_ediv_of_nonneg] at *)); assumption))) ?_; conv => whnf)
          | (refine rowOld (by assumption) ?_; conv => whnf)
          | (refine rowNew (by (first | decide | exact trivial | omega | exact Nat.le_refl _ | (((try simp only [decide_eq_true_eq, decide_eq_false_iff_not, cond_true, cond_false, beq_iff_eq, beq_eq_false_iff_ne, bne_iff_ne, bne_eq_false_iff_eq, ne_eq, Bool.not_eq_true', Bool.not_eq_false', Bool.not_eq_eq_eq_not, Bool.not_true, Bool.not_false, sLe_eq, Bool.and_eq_true, Bool.and_eq_false_iff, List.length_map, List.length_set, List.length_append, List.length_take, List.length_drop, List.length_replicate, List.length_cons, List.length_nil, lenMax, capMax, Int.toNat_natCast, gt_iff_lt, ge_iff_le] at *); (try simp (disch := omega) only [wr, wru, shr1, Int.tdiv_eq_ediv_of_nonneg] at *)); omega) | (((try simp only [decide_eq_true_eq, decide_eq_false_iff_not, cond_true, cond_false, beq_iff_eq, beq_eq_false_iff_ne, bne_iff_ne, bne_eq_false_iff_eq, ne_eq, Bool.not_eq_true', Bool.not_eq_false', Bool.not_eq_eq_eq_not, Bool.not_true, Bool.not_false, sLe_eq, Bool.and_eq_true, Bool.and_eq_false_iff, List.length_map, List.length_set, List.length_append, List.length_take, List.length_drop, List.length_replicate, List.length_cons, List.length_nil, lenMax, capMax, Int.toNat_natCast, gt_iff_lt, ge_iff_le] at *); (try simp (disch := omega) only [wr, wru, shr1, Int.tdiv_eq_ediv_of_nonneg] at *)); assumption))) (fun _ _ => ?_); conv => whnf)
          | (apply WpD.id; first
      | (refine WpD.loopAt 40 rfl (fun q : Nat × Int => ⟨[(0, .ptr 0 0 0), (37, .v (.sl 3 p.z (p.l.map Rl.row))), (38, .v (.int .i64 p.l.length)), (39, .v (.int .i64 q.1))], [.arr 3 (vrows [fiV z l host q.2])], []⟩) (fiP host (hresF l host n) p.l (lk + 1)) (fun q => p.l.length - q.1) ?_ (fun ⟨k, lq⟩ hq => ?_); rotate_left; obtain ⟨q1, q2, q3, q4⟩ := hq; dsimp only at q1 q2 q3 q4; rcases Nat.lt_or_ge k p.l.length with hlt2 | hge; (obtain ⟨x, hx⟩ : ∃ x, p.l[k]? = some x := ⟨_, List.getElem?_eq_getElem hlt2⟩); (have hx0 : p.l[((k : Nat) : Int).toNat]? = some x := hx); (have dk : decide ((k : Int) < (p.l.length : Int)) = true := by { simp; omega }); (obtain ⟨hxr, hxk, hxn⟩ := (hr p (List.mem_of_getElem? hp)).2 x (List.mem_of_getElem? hx)); (have qs : (⟨#[46]⟩ : ByteArray).size + x.n.size ≤ 9223372036854775807 := by { show 1 + x.n.size ≤ _; omega }); (have hrec := ih x.n lq (by omega) q4 (by omega)); (have hlp := hresL (l := l) (host := host) n x.n lq q4); (have hsu := c_HS host (dot ++ x.n) (by { show host.size ≤ _; omega })); rotate_left; (have dk : decide ((k : Int) < (p.l.length : Int)) = false := by { simp; omega }); rotate_left)
      | (refine WpD.walk rfl ?_; conv => whnf))
        all_goals clear h1 ih
        all_goals try clear hrec
        all_goals try clear hsu
        all_goals ((try simp only [decide_eq_true_eq, decide_eq_false_iff_not, cond_true, cond_false, beq_iff_eq, beq_eq_false_iff_ne, bne_iff_ne, bne_eq_false_iff_eq, ne_eq, Bool.not_eq_true', Bool.not_eq_false', Bool.not_eq_eq_eq_not, Bool.not_true, Bool.not_false, sLe_eq, Bool.and_eq_true, Bool.and_eq_false_iff, List.length_map, List.length_set, List.length_append, List.length_take, List.length_drop, List.length_replicate, List.length_cons, List.length_nil, lenMax, capMax, Int.toNat_natCast, gt_iff_lt, ge_iff_le] at *); (try simp (disch := omega) only [wr, wru, shr1, Int.tdiv_eq_ediv_of_nonneg] at *))
        all_goals try rw [hw]
        all_goals first
          | (exfalso; omega)
          | (refine ⟨(0, lk + 1), [0], ⟨Nat.zero_le _, by rw [List.drop_zero], Int.le_refl _, by dsimp only; omega⟩, ⟨by decide, rfl, ?_, ?_, rfl⟩⟩
             · (repeat' first | exact trivial | rfl | apply And.intro | (refine leInt rfl ?_; simp; done))
               done
             · exact ⟨obLe_v rfl, trivial⟩)
          | (rw [hres_some hlk hf hp, q2, rl_hit hx (by omega) (by first | exact hit_1 (by assumption) | (rw [hit_2 (by assumption)]; simp [*]; done) | (rw [hit_3 (by assumption)]; simp [*]; done))]
             exact ⟨_, _, rfl, ⟨rfl, rfl⟩, rfl⟩)
          | (rw [hres_some hlk hf hp, q2, rl_err hx (by omega) (by omega)]
             exact ⟨_, _, rfl, ⟨rfl, rfl⟩, rfl⟩)
          | (rw [hres_some hlk hf hp, q2, rl_pass hx (by omega) (by omega)]
             exact ⟨_, _, rfl, ⟨rfl, rfl⟩, rfl⟩)
          | (rw [hres_some hlk hf hp, q2, rl_end (by omega)]
             exact ⟨_, _, rfl, ⟨rfl, rfl⟩, rfl⟩)
          | (have e := rl_no (g := hresF l host n) (lk := lq) hx (by omega) (by first | (rw [hit_2 (by assumption)]; simp; assumption) | (rw [hit_3 (by assumption)]; simp; exact ⟨by assumption, by assumption⟩))
             refine ⟨(k + 1, lq), [0], ⟨by dsimp only; omega, by dsimp only; rw [q2, e], by dsimp only; omega, by dsimp only; omega⟩, ⟨⟨by decide, rfl, ?_, ?_, rfl⟩, by dsimp only; omega⟩⟩
             · exact ⟨rfl, rfl, rfl, rfl, rfl, rfl, leInt rfl (by first | omega | (dsimp only; omega) | exact wr (by omega) (by omega)), rfl, trivial⟩
             · exact ⟨obLe_v rfl, trivial⟩)
          | (have e := rl_on (host := host) (g := hresF l host n) (lk := lq) hx (by omega) (by omega) (by omega)
             have h5 := hlp.c (by omega)
             have h6 := hlp.a
             refine ⟨(k + 1, (hresF l host n x.n lq).2), [0], ⟨by dsimp only; omega, by dsimp only; rw [q2, e], by dsimp only; omega, by dsimp only; omega⟩, ⟨⟨by decide, rfl, ?_, ?_, rfl⟩, by dsimp only; omega⟩⟩
             · exact ⟨rfl, rfl, rfl, rfl, rfl, rfl, leInt rfl (by first | omega | (dsimp only; omega) | exact wr (by omega) (by omega)), rfl, trivial⟩
             · exact ⟨obLe_v rfl, trivial⟩)
          | skip
        all_goals trace_state
end Go.DL
