/- Hosts: the reference's result for a domain. No condition. -/
import Derived.Test.YtacpahgoomdfaaaDoorH14
set_option linter.unusedVariables false
set_option linter.unusedSimpArgs false
set_option maxHeartbeats 4000000
namespace Go.DL
open Go.Proofs

theorem suf_a {T host : ByteArray} (h1 : ((T.size : Nat) : Int) < ((host.size : Nat) : Int)) (h2 : host.extract (((host.size : Nat) : Int) - ((T.size : Nat) : Int)).toNat host.size = T) : sufB T host = true := by
  rw [show (((host.size : Nat) : Int) - ((T.size : Nat) : Int)).toNat = host.size - T.size by omega] at h2
  unfold sufB
  rw [h2]; simp; omega
theorem ext_all (s : ByteArray) : s.extract 0 s.size = s := tl_inj (by rw [tl_all _ (Nat.le_refl _), List.drop_zero])
theorem suf_b {T host : ByteArray} (h : host = T) : sufB T host = true := by
  subst h
  unfold sufB
  rw [Nat.sub_self, ext_all]; simp
theorem suf_n1 {T host : ByteArray} (h : ¬ host = T) (h1 : ¬ ((T.size : Nat) : Int) < ((host.size : Nat) : Int)) : sufB T host = false := by
  cases hs : sufB T host with
  | false => rfl
  | true =>
    exfalso
    unfold sufB at hs
    simp at hs
    rw [show host.size - T.size = 0 by omega, ext_all] at hs
    exact h hs.2
theorem suf_n2 {T host : ByteArray} (h2 : ¬ host.extract (((host.size : Nat) : Int) - ((T.size : Nat) : Int)).toNat host.size = T) : sufB T host = false := by
  cases hs : sufB T host with
  | false => rfl
  | true =>
    exfalso
    unfold sufB at hs
    simp at hs
    rw [show (((host.size : Nat) : Int) - ((T.size : Nat) : Int)).toNat = host.size - T.size by omega] at h2
    exact h2 hs.2
theorem kf1 {k : Int} (h : k = 1) : (k == 1) = true ∧ (k == 3) = false ∧ (k == 4) = false ∧ (k != 4) = true := by subst h; decide
theorem kf2 {k : Int} (h : k = 2) : (k == 1) = false ∧ (k == 3) = false ∧ (k == 4) = false ∧ (k != 4) = true := by subst h; decide
theorem kf3 {k : Int} (h : k = 3) : (k == 1) = false ∧ (k == 3) = true ∧ (k == 4) = false ∧ (k != 4) = true := by subst h; decide
theorem kf4 {k : Int} (h : k = 4) : (k == 1) = false ∧ (k == 3) = false ∧ (k == 4) = true ∧ (k != 4) = false := by subst h; decide
attribute [local irreducible] ByteArray.extract ByteArray.append in
theorem c_HostResult (z : Bool) (l : List Pl) (host : ByteArray) (hl : l.length ≤ 60) (hr : ∀ p ∈ l, p.l.length ≤ 60 ∧ ∀ x ∈ p.l, okR1 x) (hh : host.size ≤ 60) : ∀ (n : Nat) (dom : ByteArray) (lk : Int), 0 ≤ lk → lk ≤ 10 → 10 ≤ (n : Int) + lk → CallV tab 15 [pls z l, .str dom, .str host, .int .i64 lk] (· = .tup [.int .i64 (hresF l host n dom lk).1, .int .i64 (hresF l host n dom lk).2])
  | n, dom, lk, h0, h10, hn => by
    by_cases hlk : 10 < lk + 1
    · have e : hresF l host n dom lk = (5, lk + 1) := by
        cases n with
        | zero => rfl
        | succ n => unfold hresF; rw [if_pos hlk]
      rw [e]
      have hw : IntKind.wrap .i64 (lk + 1) = lk + 1 := wr (by omega) (by omega)
      have dlk : decide (IntKind.wrap .i64 (lk + 1) > 10) = true := by rw [hw]; simp; omega
      refine callV_of Tryd.func15 rfl (Nat.le_of_ble_eq_true rfl) (by kernel_rfl) ?_
      repeat' first
        | (apply Br.id; first
      | (apply Br.tt; try conv => whnf)
      | (apply Br.ff; try conv => whnf)
      | (refine Br.of_t (by assumption) ?_; conv => whnf)
      | (refine Br.of_f (by assumption) ?_; conv => whnf)
      | (refine Br.mk (fun _ => ?_) (fun _ => ?_) <;> try conv => whnf))
        | (apply CallOp.id; first
      | (refine call_at rfl rfl rfl rfl rfl ?_)
      | (refine call_rd rfl rfl rfl rfl rfl ?_)
      | (refine CallOp.std ?_; (conv => whnf); fail_if_success refine (?_ : False)))
        | (apply CallDet.id; first
      | (refine call_atD rfl rfl rfl rfl rfl ?_)
      | (refine call_rdD rfl rfl rfl rfl rfl ?_)
      | (refine CallDet.std ?_; (conv => whnf); fail_if_success refine (?_ : False)))
        | (refine EndOk.mk (by kernel_rfl) ?_; conv => whnf)
        | (refine And.intro (by (first | decide | exact trivial | omega | with_reducible exact Nat.le_refl _ | (((try simp only [decide_eq_true_eq, decide_eq_false_iff_not, cond_true, cond_false, beq_iff_eq, beq_eq_false_iff_ne, bne_iff_ne, bne_eq_false_iff_eq, ne_eq, Bool.not_eq_true', Bool.not_eq_false', Bool.not_eq_eq_eq_not, Bool.not_true, Bool.not_false, sLe_eq, Bool.and_eq_true, Bool.and_eq_false_iff, List.length_map, List.length_set, List.length_append, List.length_take, List.length_drop, List.length_replicate, List.length_cons, List.length_nil, lenMax, capMax, Int.toNat_natCast, gt_iff_lt, ge_iff_le] at *); (try simp (disch := omega) only [wr, wru, shr1, Int.tdiv_eq_ediv_of_nonneg] at *)); omega) | (((try simp only [decide_eq_true_eq, decide_eq_false_iff_not, cond_true, cond_false, beq_iff_eq, beq_eq_false_iff_ne, bne_iff_ne, bne_eq_false_iff_eq, ne_eq, Bool.not_eq_true', Bool.not_eq_false', Bool.not_eq_eq_eq_not, Bool.not_true, Bool.not_false, sLe_eq, Bool.and_eq_true, Bool.and_eq_false_iff, List.length_map, List.length_set, List.length_append, List.length_take, List.length_drop, List.length_replicate, List.length_cons, List.length_nil, lenMax, capMax, Int.toNat_natCast, gt_iff_lt, ge_iff_le] at *); (try simp (disch := omega) only [wr, wru, shr1, Int.tdiv_eq_ediv_of_nonneg] at *)); with_reducible assumption))) ?_; conv => whnf)
        | (refine idxOld (by assumption) ?_; conv => whnf)
        | (refine idxMap (by (first | decide | exact trivial | omega | with_reducible exact Nat.le_refl _ | (((try simp only [decide_eq_true_eq, decide_eq_false_iff_not, cond_true, cond_false, beq_iff_eq, beq_eq_false_iff_ne, bne_iff_ne, bne_eq_false_iff_eq, ne_eq, Bool.not_eq_true', Bool.not_eq_false', Bool.not_eq_eq_eq_not, Bool.not_true, Bool.not_false, sLe_eq, Bool.and_eq_true, Bool.and_eq_false_iff, List.length_map, List.length_set, List.length_append, List.length_take, List.length_drop, List.length_replicate, List.length_cons, List.length_nil, lenMax, capMax, Int.toNat_natCast, gt_iff_lt, ge_iff_le] at *); (try simp (disch := omega) only [wr, wru, shr1, Int.tdiv_eq_ediv_of_nonneg] at *)); omega) | (((try simp only [decide_eq_true_eq, decide_eq_false_iff_not, cond_true, cond_false, beq_iff_eq, beq_eq_false_iff_ne, bne_iff_ne, bne_eq_false_iff_eq, ne_eq, Bool.not_eq_true', Bool.not_eq_false', Bool.not_eq_eq_eq_not, Bool.not_true, Bool.not_false, sLe_eq, Bool.and_eq_true, Bool.and_eq_false_iff, List.length_map, List.length_set, List.length_append, List.length_take, List.length_drop, List.length_replicate, List.length_cons, List.length_nil, lenMax, capMax, Int.toNat_natCast, gt_iff_lt, ge_iff_le] at *); (try simp (disch := omega) only [wr, wru, shr1, Int.tdiv_eq_ediv_of_nonneg] at *)); with_reducible assumption))) (fun _ _ => ?_); conv => whnf)
        | refine Exists.intro _ (And.intro (DV_toV rfl) ?_)
        | (refine rowSet (by (first | decide | exact trivial | omega | with_reducible exact Nat.le_refl _ | (((try simp only [decide_eq_true_eq, decide_eq_false_iff_not, cond_true, cond_false, beq_iff_eq, beq_eq_false_iff_ne, bne_iff_ne, bne_eq_false_iff_eq, ne_eq, Bool.not_eq_true', Bool.not_eq_false', Bool.not_eq_eq_eq_not, Bool.not_true, Bool.not_false, sLe_eq, Bool.and_eq_true, Bool.and_eq_false_iff, List.length_map, List.length_set, List.length_append, List.length_take, List.length_drop, List.length_replicate, List.length_cons, List.length_nil, lenMax, capMax, Int.toNat_natCast, gt_iff_lt, ge_iff_le] at *); (try simp (disch := omega) only [wr, wru, shr1, Int.tdiv_eq_ediv_of_nonneg] at *)); omega) | (((try simp only [decide_eq_true_eq, decide_eq_false_iff_not, cond_true, cond_false, beq_iff_eq, beq_eq_false_iff_ne, bne_iff_ne, bne_eq_false_iff_eq, ne_eq, Bool.not_eq_true', Bool.not_eq_false', Bool.not_eq_eq_eq_not, Bool.not_true, Bool.not_false, sLe_eq, Bool.and_eq_true, Bool.and_eq_false_iff, List.length_map, List.length_set, List.length_append, List.length_take, List.length_drop, List.length_replicate, List.length_cons, List.length_nil, lenMax, capMax, Int.toNat_natCast, gt_iff_lt, ge_iff_le] at *); (try simp (disch := omega) only [wr, wru, shr1, Int.tdiv_eq_ediv_of_nonneg] at *)); with_reducible assumption))) ?_; conv => whnf)
        | (refine rowOld (by assumption) ?_; conv => whnf)
        | (refine rowNew (by (first | decide | exact trivial | omega | with_reducible exact Nat.le_refl _ | (((try simp only [decide_eq_true_eq, decide_eq_false_iff_not, cond_true, cond_false, beq_iff_eq, beq_eq_false_iff_ne, bne_iff_ne, bne_eq_false_iff_eq, ne_eq, Bool.not_eq_true', Bool.not_eq_false', Bool.not_eq_eq_eq_not, Bool.not_true, Bool.not_false, sLe_eq, Bool.and_eq_true, Bool.and_eq_false_iff, List.length_map, List.length_set, List.length_append, List.length_take, List.length_drop, List.length_replicate, List.length_cons, List.length_nil, lenMax, capMax, Int.toNat_natCast, gt_iff_lt, ge_iff_le] at *); (try simp (disch := omega) only [wr, wru, shr1, Int.tdiv_eq_ediv_of_nonneg] at *)); omega) | (((try simp only [decide_eq_true_eq, decide_eq_false_iff_not, cond_true, cond_false, beq_iff_eq, beq_eq_false_iff_ne, bne_iff_ne, bne_eq_false_iff_eq, ne_eq, Bool.not_eq_true', Bool.not_eq_false', Bool.not_eq_eq_eq_not, Bool.not_true, Bool.not_false, sLe_eq, Bool.and_eq_true, Bool.and_eq_false_iff, List.length_map, List.length_set, List.length_append, List.length_take, List.length_drop, List.length_replicate, List.length_cons, List.length_nil, lenMax, capMax, Int.toNat_natCast, gt_iff_lt, ge_iff_le] at *); (try simp (disch := omega) only [wr, wru, shr1, Int.tdiv_eq_ediv_of_nonneg] at *)); with_reducible assumption))) (fun _ _ => ?_); conv => whnf)
        | (apply WpD.id; first
      | (refine WpD.walk rfl ?_; conv => whnf))
      all_goals (rw [hw]; rfl)
    · obtain ⟨n, rfl⟩ : ∃ m, n = m + 1 := ⟨n - 1, by omega⟩
      have ih := c_HostResult z l host hl hr hh n
      have hw : IntKind.wrap .i64 (lk + 1) = lk + 1 := wr (by omega) (by omega)
      have dlk : decide (IntKind.wrap .i64 (lk + 1) > 10) = false := by rw [hw]; simp; omega
      refine callV_of Tryd.func15 rfl (Nat.le_of_ble_eq_true rfl) (by kernel_rfl) ?_
      repeat' first
        | (apply Br.id; first
      | (apply Br.tt; try conv => whnf)
      | (apply Br.ff; try conv => whnf)
      | (refine Br.of_t (by assumption) ?_; conv => whnf)
      | (refine Br.of_f (by assumption) ?_; conv => whnf)
      | (refine Br.mk (fun _ => ?_) (fun _ => ?_) <;> try conv => whnf))
        | (apply CallOp.id; first
      | (refine call_at rfl rfl rfl rfl rfl ?_)
      | (refine call_rd rfl rfl rfl rfl rfl ?_)
      | (refine CallOp.std ?_; (conv => whnf); fail_if_success refine (?_ : False)))
        | (apply CallDet.id; first
      | (refine call_atD rfl rfl rfl rfl rfl ?_)
      | (refine call_rdD rfl rfl rfl rfl rfl ?_)
      | (refine CallDet.std ?_; (conv => whnf); fail_if_success refine (?_ : False)))
        | (apply CallAt.id; first
      | (apply CallAt.mk1 (hrec); conv => whnf))
        | (apply CallRd.id; first
      | (apply CallRd.mk1 (hrec); (· rfl); conv => whnf))
        | (refine EndOk.mk (by kernel_rfl) ?_; conv => whnf)
        | (refine And.intro (by with_reducible exact qs) ?_; conv => whnf)
        | (refine And.intro (by (first | decide | exact trivial | omega | with_reducible exact Nat.le_refl _ | (((try simp only [decide_eq_true_eq, decide_eq_false_iff_not, cond_true, cond_false, beq_iff_eq, beq_eq_false_iff_ne, bne_iff_ne, bne_eq_false_iff_eq, ne_eq, Bool.not_eq_true', Bool.not_eq_false', Bool.not_eq_eq_eq_not, Bool.not_true, Bool.not_false, sLe_eq, Bool.and_eq_true, Bool.and_eq_false_iff, List.length_map, List.length_set, List.length_append, List.length_take, List.length_drop, List.length_replicate, List.length_cons, List.length_nil, lenMax, capMax, Int.toNat_natCast, gt_iff_lt, ge_iff_le] at *); (try simp (disch := omega) only [wr, wru, shr1, Int.tdiv_eq_ediv_of_nonneg] at *)); omega) | (((try simp only [decide_eq_true_eq, decide_eq_false_iff_not, cond_true, cond_false, beq_iff_eq, beq_eq_false_iff_ne, bne_iff_ne, bne_eq_false_iff_eq, ne_eq, Bool.not_eq_true', Bool.not_eq_false', Bool.not_eq_eq_eq_not, Bool.not_true, Bool.not_false, sLe_eq, Bool.and_eq_true, Bool.and_eq_false_iff, List.length_map, List.length_set, List.length_append, List.length_take, List.length_drop, List.length_replicate, List.length_cons, List.length_nil, lenMax, capMax, Int.toNat_natCast, gt_iff_lt, ge_iff_le] at *); (try simp (disch := omega) only [wr, wru, shr1, Int.tdiv_eq_ediv_of_nonneg] at *)); with_reducible assumption))) ?_; conv => whnf)
        | (refine idxOld (by assumption) ?_; conv => whnf)
        | (refine idxMap (by (first | decide | exact trivial | omega | with_reducible exact Nat.le_refl _ | (((try simp only [decide_eq_true_eq, decide_eq_false_iff_not, cond_true, cond_false, beq_iff_eq, beq_eq_false_iff_ne, bne_iff_ne, bne_eq_false_iff_eq, ne_eq, Bool.not_eq_true', Bool.not_eq_false', Bool.not_eq_eq_eq_not, Bool.not_true, Bool.not_false, sLe_eq, Bool.and_eq_true, Bool.and_eq_false_iff, List.length_map, List.length_set, List.length_append, List.length_take, List.length_drop, List.length_replicate, List.length_cons, List.length_nil, lenMax, capMax, Int.toNat_natCast, gt_iff_lt, ge_iff_le] at *); (try simp (disch := omega) only [wr, wru, shr1, Int.tdiv_eq_ediv_of_nonneg] at *)); omega) | (((try simp only [decide_eq_true_eq, decide_eq_false_iff_not, cond_true, cond_false, beq_iff_eq, beq_eq_false_iff_ne, bne_iff_ne, bne_eq_false_iff_eq, ne_eq, Bool.not_eq_true', Bool.not_eq_false', Bool.not_eq_eq_eq_not, Bool.not_true, Bool.not_false, sLe_eq, Bool.and_eq_true, Bool.and_eq_false_iff, List.length_map, List.length_set, List.length_append, List.length_take, List.length_drop, List.length_replicate, List.length_cons, List.length_nil, lenMax, capMax, Int.toNat_natCast, gt_iff_lt, ge_iff_le] at *); (try simp (disch := omega) only [wr, wru, shr1, Int.tdiv_eq_ediv_of_nonneg] at *)); with_reducible assumption))) (fun _ _ => ?_); conv => whnf)
        | refine Exists.intro _ (And.intro (DV_toV rfl) ?_)
        | (refine rowSet (by (first | decide | exact trivial | omega | with_reducible exact Nat.le_refl _ | (((try simp only [decide_eq_true_eq, decide_eq_false_iff_not, cond_true, cond_false, beq_iff_eq, beq_eq_false_iff_ne, bne_iff_ne, bne_eq_false_iff_eq, ne_eq, Bool.not_eq_true', Bool.not_eq_false', Bool.not_eq_eq_eq_not, Bool.not_true, Bool.not_false, sLe_eq, Bool.and_eq_true, Bool.and_eq_false_iff, List.length_map, List.length_set, List.length_append, List.length_take, List.length_drop, List.length_replicate, List.length_cons, List.length_nil, lenMax, capMax, Int.toNat_natCast, gt_iff_lt, ge_iff_le] at *); (try simp (disch := omega) only [wr, wru, shr1, Int.tdiv_eq_ediv_of_nonneg] at *)); omega) | (((try simp only [decide_eq_true_eq, decide_eq_false_iff_not, cond_true, cond_false, beq_iff_eq, beq_eq_false_iff_ne, bne_iff_ne, bne_eq_false_iff_eq, ne_eq, Bool.not_eq_true', Bool.not_eq_false', Bool.not_eq_eq_eq_not, Bool.not_true, Bool.not_false, sLe_eq, Bool.and_eq_true, Bool.and_eq_false_iff, List.length_map, List.length_set, List.length_append, List.length_take, List.length_drop, List.length_replicate, List.length_cons, List.length_nil, lenMax, capMax, Int.toNat_natCast, gt_iff_lt, ge_iff_le] at *); (try simp (disch := omega) only [wr, wru, shr1, Int.tdiv_eq_ediv_of_nonneg] at *)); with_reducible assumption))) ?_; conv => whnf)
        | (refine rowOld (by assumption) ?_; conv => whnf)
        | (refine rowNew (by (first | decide | exact trivial | omega | with_reducible exact Nat.le_refl _ | (((try simp only [decide_eq_true_eq, decide_eq_false_iff_not, cond_true, cond_false, beq_iff_eq, beq_eq_false_iff_ne, bne_iff_ne, bne_eq_false_iff_eq, ne_eq, Bool.not_eq_true', Bool.not_eq_false', Bool.not_eq_eq_eq_not, Bool.not_true, Bool.not_false, sLe_eq, Bool.and_eq_true, Bool.and_eq_false_iff, List.length_map, List.length_set, List.length_append, List.length_take, List.length_drop, List.length_replicate, List.length_cons, List.length_nil, lenMax, capMax, Int.toNat_natCast, gt_iff_lt, ge_iff_le] at *); (try simp (disch := omega) only [wr, wru, shr1, Int.tdiv_eq_ediv_of_nonneg] at *)); omega) | (((try simp only [decide_eq_true_eq, decide_eq_false_iff_not, cond_true, cond_false, beq_iff_eq, beq_eq_false_iff_ne, bne_iff_ne, bne_eq_false_iff_eq, ne_eq, Bool.not_eq_true', Bool.not_eq_false', Bool.not_eq_eq_eq_not, Bool.not_true, Bool.not_false, sLe_eq, Bool.and_eq_true, Bool.and_eq_false_iff, List.length_map, List.length_set, List.length_append, List.length_take, List.length_drop, List.length_replicate, List.length_cons, List.length_nil, lenMax, capMax, Int.toNat_natCast, gt_iff_lt, ge_iff_le] at *); (try simp (disch := omega) only [wr, wru, shr1, Int.tdiv_eq_ediv_of_nonneg] at *)); with_reducible assumption))) (fun _ _ => ?_); conv => whnf)
        | (apply WpD.id; first
      | (refine WpD.loopAt 35 rfl (fun q : Nat × Int => ⟨[(0, .v (pls z l)), (2, .v (.str host)), (3, .v (.int .i64 q.2)), (10, .v (.int .i64 i)), (11, .v (.int .i64 q.1))], [], []⟩) (fiP host (hresF l host n) p.l (lk + 1)) (fun q => p.l.length - q.1) ?_ (fun ⟨k, lq⟩ hq => ?_); rotate_left; obtain ⟨q1, q2, q3, q4⟩ := hq; dsimp only at q1 q2 q3 q4; rcases Nat.lt_or_ge k p.l.length with hlt2 | hge2; (obtain ⟨x, hx⟩ : ∃ x, p.l[k]? = some x := ⟨_, List.getElem?_eq_getElem hlt2⟩); (have hx0 : p.l[((k : Nat) : Int).toNat]? = some x := hx); (have dk : decide ((k : Int) < (((p.l.map Rl.row).length : Nat) : Int)) = true := by { simp; omega }); (obtain ⟨hxr, hxk, hxn⟩ := (hr p (List.mem_of_getElem? hp)).2 x (List.mem_of_getElem? hx)); (have qs : (⟨#[46]⟩ : ByteArray).size + x.n.size ≤ 9223372036854775807 := by { show 1 + x.n.size ≤ _; omega }); (have hrec := ih x.n lq (by omega) q4 (by omega)); (have hlp := hresL (l := l) (host := host) n x.n lq q4); (rcases (show x.k = 1 ∨ x.k = 2 ∨ x.k = 3 ∨ x.k = 4 by omega) with hk4 | hk4 | hk4 | hk4); (obtain ⟨f1, f3, f4, f5⟩ := kf1 hk4); rotate_left; (obtain ⟨f1, f3, f4, f5⟩ := kf2 hk4); rotate_left; (obtain ⟨f1, f3, f4, f5⟩ := kf3 hk4); rotate_left; (obtain ⟨f1, f3, f4, f5⟩ := kf4 hk4); rotate_left; (have dk : decide ((k : Int) < (((p.l.map Rl.row).length : Nat) : Int)) = false := by { simp; omega }); rotate_left)
      | (refine WpD.loopAt 22 rfl (fun i : Nat => ⟨[(0, .v (pls z l)), (1, .v (.str dom)), (2, .v (.str host)), (3, .v (.int .i64 (lk + 1))), (10, .v (.int .i64 i))], [], []⟩) (fun i => i ≤ l.length ∧ ∀ j p, j < i → l[j]? = some p → isD dom p = false) (fun i => l.length - i) ?_ (fun i hi => ?_); rotate_left; obtain ⟨hi1, hi2⟩ := hi; rcases Nat.lt_or_ge i l.length with hlt | hge; (obtain ⟨p, hp⟩ : ∃ p, l[i]? = some p := ⟨_, List.getElem?_eq_getElem hlt⟩); (have hp0 : l[((i : Nat) : Int).toNat]? = some p := hp); (have hpl := (hr p (List.mem_of_getElem? hp)).1); (have di : decide ((i : Int) < (((l.map Pl.row).length : Nat) : Int)) = true := by { simp; omega }); rotate_left; (have di : decide ((i : Int) < (((l.map Pl.row).length : Nat) : Int)) = false := by { simp; omega }); rotate_left)
      | (refine WpD.walk rfl ?_; conv => whnf))
      all_goals clear ih
      all_goals try clear hrec
      all_goals ((try simp only [decide_eq_true_eq, decide_eq_false_iff_not, cond_true, cond_false, beq_iff_eq, beq_eq_false_iff_ne, bne_iff_ne, bne_eq_false_iff_eq, ne_eq, Bool.not_eq_true', Bool.not_eq_false', Bool.not_eq_eq_eq_not, Bool.not_true, Bool.not_false, sLe_eq, Bool.and_eq_true, Bool.and_eq_false_iff, List.length_map, List.length_set, List.length_append, List.length_take, List.length_drop, List.length_replicate, List.length_cons, List.length_nil, lenMax, capMax, Int.toNat_natCast, gt_iff_lt, ge_iff_le] at *); (try simp (disch := omega) only [wr, wru, shr1, Int.tdiv_eq_ediv_of_nonneg] at *))
      all_goals first
        | (exfalso; omega)
        | (refine ⟨0, [], ⟨Nat.zero_le _, fun j p h _ => by omega⟩, ⟨by decide, rfl, ?_, trivial, rfl⟩⟩
           (repeat' first | exact trivial | rfl | apply And.intro | (refine leInt rfl ?_; first | omega | (dsimp only; omega)) | (refine leArr rfl ?_ rfl; (simp; try omega)) | (refine leBool rfl ?_; assumption))
           done)
        | (rename ¬ p.d = dom => hne
           refine ⟨i + 1, [], ⟨by omega, fun j p' h1 h2 => ?_⟩, ⟨⟨by decide, rfl, ?_, trivial, rfl⟩, by omega⟩⟩
           · rcases Nat.lt_or_ge j i with h | h
             · exact hi2 j p' h h2
             · have : j = i := by omega
               subst this
               rw [hp] at h2
               injection h2 with h2
               rw [← h2]; unfold isD; simpa using hne
           · (repeat' first | exact trivial | rfl | apply And.intro | (refine leInt rfl ?_; first | omega | (dsimp only; omega)) | (refine leArr rfl ?_ rfl; (simp; try omega)) | (refine leBool rfl ?_; assumption))
             done)
        | (refine ⟨(0, lk + 1), [], ⟨Nat.zero_le _, by rw [List.drop_zero], Int.le_refl _, by dsimp only; omega⟩, ⟨by decide, rfl, ?_, trivial, rfl⟩⟩
           try dsimp only
           (repeat' first | exact trivial | rfl | apply And.intro | (refine leInt rfl ?_; first | omega | (dsimp only; omega)) | (refine leArr rfl ?_ rfl; (simp; try omega)) | (refine leBool rfl ?_; assumption))
           done)
        | (have e := rl_no (host := host) (g := hresF l host n) (lk := lq) hx (by omega) (by first | (rw [hit_2 (by assumption)]; simp; assumption) | (rw [hit_3 (by assumption)]; simp; exact ⟨by assumption, by first | exact suf_n1 (by assumption) (by assumption) | exact suf_n2 (by assumption)⟩))
           refine ⟨(k + 1, lq), [], ⟨by dsimp only; omega, by dsimp only; rw [q2, e], by dsimp only; omega, by dsimp only; omega⟩, ⟨⟨by decide, rfl, ?_, trivial, rfl⟩, by dsimp only; omega⟩⟩
           exact ⟨rfl, rfl, rfl, rfl, rfl, rfl, rfl, rfl, leInt rfl (by first | omega | (dsimp only; omega) | exact wr (by omega) (by omega)), rfl, trivial⟩)
        | (have e := rl_on (host := host) (g := hresF l host n) (lk := lq) hx (by omega) (by omega) (by omega)
           have h5 := hlp.c (by omega)
           have h6 := hlp.a
           refine ⟨(k + 1, (hresF l host n x.n lq).2), [], ⟨by dsimp only; omega, by dsimp only; rw [q2, e], by dsimp only; omega, by dsimp only; omega⟩, ⟨⟨by decide, rfl, ?_, trivial, rfl⟩, by dsimp only; omega⟩⟩
           exact ⟨rfl, rfl, rfl, rfl, rfl, rfl, rfl, rfl, leInt rfl (by first | omega | (dsimp only; omega) | exact wr (by omega) (by omega)), rfl, trivial⟩)
        | (rw [hres_none hlk (findIdx?_no fun j p h => hi2 j p (by have := lt_get h; omega) h)]
           rfl)
        | (rename p.d = dom => hpd
           have hF := hres_some (host := host) (n := n) hlk (findIdx?_at hp (by unfold isD; simpa using hpd) hi2) hp
           first
           | (rw [hF, q2, rl_hit hx (by omega) (by first | exact hit_1 (by assumption) | (rw [hit_2 (by assumption)]; simp; assumption) | (rw [hit_3 (by assumption)]; simp; first | exact .inl (by assumption) | exact .inr (suf_a (by assumption) (by assumption)) | exact .inr (suf_b (by assumption))))]
              done)
           | (rw [hF, q2, rl_err hx (by omega) (by omega)]; rfl)
           | (rw [hF, q2, rl_pass hx (by omega) (by omega)]; done)
           | (rw [hF, q2, rl_end (by omega)]; rfl))
        | skip
      all_goals trace_state
end Go.DL
