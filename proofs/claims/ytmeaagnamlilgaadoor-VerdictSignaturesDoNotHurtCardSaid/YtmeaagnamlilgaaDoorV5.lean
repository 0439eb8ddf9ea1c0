/- Verdict: the reference's Points. No condition. -/
import Derived.Test.YtmeaagnamlilgaaDoorV4
import Derived.Test.YtmeaagnamlilgaaDoorDl22
set_option linter.unusedVariables false
set_option linter.unusedSimpArgs false
set_option maxHeartbeats 4000000
namespace Go.DL
open Go.Proofs

def ptsV (r : Rs) : List (List V) := (allR r).map fun x => [V.int .i64 x.p]
def PS (r : Rs) (t : Nat) (v a c d e : Int) : St := ⟨[(1, .ptr 0 0 0), (3, .arr 1 0 5), (t, .v (.int .i64 v))], [.arr 7 (vrows [r.row]), .arr 1 (vrows [[.int .i64 (hostP r.h)], [.int .i64 a], [.int .i64 c], [.int .i64 d], [.int .i64 e]])], []⟩
theorem sign_next {l : List Vd} {k : Nat} {x : Vd} (hx : l[k]? = some x) : signP (l.take (k + 1)) = if x.r = 1 then -30 else if x.r = 2 ∧ signP (l.take k) = 0 then 20 else signP (l.take k) := by
  unfold signP
  rw [take_get hx]
  simp only [List.any_append, List.any_cons, List.any_nil, Bool.or_false, Bool.or_eq_true, beq_iff_eq]
  by_cases h1 : ((l.take k).any fun x => x.r == 1) = true
  · simp only [h1, true_or, if_true]; (repeat' split) <;> omega
  · by_cases h2 : ((l.take k).any fun x => x.r == 2) = true
    · simp only [h1, h2, true_or, if_true, false_or]; (repeat' split) <;> simp_all
    · simp only [h1, h2, false_or]; (repeat' split) <;> simp_all
theorem c_Points (r : Rs) (hh : 0 ≤ r.h ∧ r.h ≤ 5) (hl : r.s.length ≤ 60) (hp : -1000 ≤ r.p ∧ r.p ≤ 1000) (hj : 0 ≤ r.j ∧ r.j ≤ 1000) : CallE tab 12 [.v (.agg r.row)] [] 1 (· = ptsV r) := by
  have hget : [[D.v (V.int .i64 5)], [D.v (V.int .i64 0)], [D.v (V.int .i64 40)], [D.v (V.int .i64 20)], [D.v (V.int .i64 5)], [D.v (V.int .i64 10)]][0 + r.h.toNat]? = some [D.v (V.int .i64 (hostP r.h))] := by
    have hc : r.h = 0 ∨ r.h = 1 ∨ r.h = 2 ∨ r.h = 3 ∨ r.h = 4 ∨ r.h = 5 := by omega
    rcases hc with e | e | e | e | e | e <;> rw [e] <;> rfl
  obtain ⟨A, hA⟩ : ∃ A : Int, (0 ≤ r.p → 25 * A ≤ r.p ∧ r.p < 25 * A + 25) ∧ (r.p < 0 → A = 0) := by
    by_cases h : 0 ≤ r.p
    · exact ⟨r.p / 25, by omega⟩
    · exact ⟨0, by omega⟩
  obtain ⟨B, hB⟩ : ∃ A : Int, (0 ≤ -r.p → 25 * A ≤ -r.p ∧ -r.p < 25 * A + 25) ∧ (-r.p < 0 → A = 0) := by
    by_cases h : 0 ≤ -r.p
    · exact ⟨(-r.p) / 25, by omega⟩
    · exact ⟨0, by omega⟩
  obtain ⟨C, hC⟩ : ∃ A : Int, (0 ≤ r.j - 500 → 10 * A ≤ r.j - 500 ∧ r.j - 500 < 10 * A + 10) ∧ (r.j - 500 < 0 → A = 0) := by
    by_cases h : 0 ≤ r.j - 500
    · exact ⟨(r.j - 500) / 10, by omega⟩
    · exact ⟨0, by omega⟩
  obtain ⟨D', hD⟩ : ∃ A : Int, (0 ≤ 500 - r.j → 10 * A ≤ 500 - r.j ∧ 500 - r.j < 10 * A + 10) ∧ (500 - r.j < 0 → A = 0) := by
    by_cases h : 0 ≤ 500 - r.j
    · exact ⟨(500 - r.j) / 10, by omega⟩
    · exact ⟨0, by omega⟩
  have e4 : (-r.p).tdiv 25 = -A + B := by rw [td (by decide)]; split <;> omega
  have e5 : (r.j - 500).tdiv 10 = C - D' := by rw [td (by decide)]; split <;> omega
  have hpts : ptsV r = [[.int .i64 (hostP r.h)], [.int .i64 (signP r.s)], [.int .i64 (chainP r.c)], [.int .i64 (-A + B)], [.int .i64 (C - D')]] := by rw [← e4, ← e5]; rfl
  clear e4 e5
  have hch : (r.c < 0 → chainP r.c = 10) ∧ (0 < r.c → chainP r.c = -10) ∧ (¬ r.c < 0 → ¬ 0 < r.c → chainP r.c = 0) := by unfold chainP; (repeat' split) <;> omega
  have hsb := fun k => sign_b (r.s.take k)
  have hcb := chain_b r.c
  refine callD_of Tryd.func12 rfl (Nat.le_of_ble_eq_true rfl) (by kernel_rfl) ?_
  repeat' first
    | (apply Br.id; first
      | (apply Br.tt; try conv => whnf)
      | (apply Br.ff; try conv => whnf)
      | (refine Br.of_t (by assumption) ?_; conv => whnf)
      | (refine Br.of_f (by assumption) ?_; conv => whnf)
      | (refine Br.mk (fun _ => ?_) (fun _ => ?_) <;> try conv => whnf))
    | (apply CallOp.id; first
      | (refine call_at rfl rfl rfl rfl rfl ?_)
      | (refine call_rd rfl rfl rfl rfl rfl ?_)
      | (refine CallOp.std ?_; (conv => whnf); fail_if_success refine (?_ : False)))
    | (apply CallDet.id; first
      | (refine call_atD rfl rfl rfl rfl rfl ?_)
      | (refine call_rdD rfl rfl rfl rfl rfl ?_)
      | (refine CallDet.std ?_; (conv => whnf); fail_if_success refine (?_ : False)))
    | (refine EndOk.mk (by kernel_rfl) ?_; conv => whnf)
    | (refine And.intro (by (first | decide | exact trivial | omega | exact Nat.le_refl _ | (((try simp only [decide_eq_true_eq, decide_eq_false_iff_not, cond_true, cond_false, beq_iff_eq, beq_eq_false_iff_ne, bne_iff_ne, bne_eq_false_iff_eq, ne_eq, Bool.not_eq_true', Bool.not_eq_false', Bool.not_eq_eq_eq_not, Bool.not_true, Bool.not_false, sLe_eq, Bool.and_eq_true, Bool.and_eq_false_iff, List.length_map, List.length_set, List.length_append, List.length_take, List.length_drop, List.length_replicate, List.length_cons, List.length_nil, lenMax, capMax, Int.toNat_natCast, gt_iff_lt, ge_iff_le] at *); (try simp (disch := omega) only [wr, wru, shr1, Int.tdiv_eq_ediv_of_nonneg] at *)); omega) | (((try simp only [decide_eq_true_eq, decide_eq_false_iff_not, cond_true, cond_false, beq_iff_eq, beq_eq_false_iff_ne, bne_iff_ne, bne_eq_false_iff_eq, ne_eq, Bool.not_eq_true', Bool.not_eq_false', Bool.not_eq_eq_eq_not, Bool.not_true, Bool.not_false, sLe_eq, Bool.and_eq_true, Bool.and_eq_false_iff, List.length_map, List.length_set, List.length_append, List.length_take, List.length_drop, List.length_replicate, List.length_cons, List.length_nil, lenMax, capMax, Int.toNat_natCast, gt_iff_lt, ge_iff_le] at *); (try simp (disch := omega) only [wr, wru, shr1, Int.tdiv_eq_ediv_of_nonneg] at *)); assumption))) ?_; conv => whnf)
    | (refine idxOld (by assumption) ?_; conv => whnf)
    | (refine idxMap (by (first | decide | exact trivial | omega | exact Nat.le_refl _ | (((try simp only [decide_eq_true_eq, decide_eq_false_iff_not, cond_true, cond_false, beq_iff_eq, beq_eq_false_iff_ne, bne_iff_ne, bne_eq_false_iff_eq, ne_eq, Bool.not_eq_true', Bool.not_eq_false', Bool.not_eq_eq_eq_not, Bool.not_true, Bool.not_false, sLe_eq, Bool.and_eq_true, Bool.and_eq_false_iff, List.length_map, List.length_set, List.length_append, List.length_take, List.length_drop, List.length_replicate, List.length_cons, List.length_nil, lenMax, capMax, Int.toNat_natCast, gt_iff_lt, ge_iff_le] at *); (try simp (disch := omega) only [wr, wru, shr1, Int.tdiv_eq_ediv_of_nonneg] at *)); omega) | (((try simp only [decide_eq_true_eq, decide_eq_false_iff_not, cond_true, cond_false, beq_iff_eq, beq_eq_false_iff_ne, bne_iff_ne, bne_eq_false_iff_eq, ne_eq, Bool.not_eq_true', Bool.not_eq_false', Bool.not_eq_eq_eq_not, Bool.not_true, Bool.not_false, sLe_eq, Bool.and_eq_true, Bool.and_eq_false_iff, List.length_map, List.length_set, List.length_append, List.length_take, List.length_drop, List.length_replicate, List.length_cons, List.length_nil, lenMax, capMax, Int.toNat_natCast, gt_iff_lt, ge_iff_le] at *); (try simp (disch := omega) only [wr, wru, shr1, Int.tdiv_eq_ediv_of_nonneg] at *)); assumption))) (fun _ _ => ?_); conv => whnf)
    | refine Exists.intro _ (And.intro (DV_toV rfl) ?_)
    | (refine rowSet (by (first | decide | exact trivial | omega | exact Nat.le_refl _ | (((try simp only [decide_eq_true_eq, decide_eq_false_iff_not, cond_true, cond_false, beq_iff_eq, beq_eq_false_iff_ne, bne_iff_ne, bne_eq_false_iff_eq, ne_eq, Bool.not_eq_true', Bool.not_eq_false', Bool.not_eq_eq_eq_not, Bool.not_true, Bool.not_false, sLe_eq, Bool.and_eq_true, Bool.and_eq_false_iff, List.length_map, List.length_set, List.length_append, List.length_take, List.length_drop, List.length_replicate, List.length_cons, List.length_nil, lenMax, capMax, Int.toNat_natCast, gt_iff_lt, ge_iff_le] at *); (try simp (disch := omega) only [wr, wru, shr1, Int.tdiv_eq_ediv_of_nonneg] at *)); omega) | (((try simp only [decide_eq_true_eq, decide_eq_false_iff_not, cond_true, cond_false, beq_iff_eq, beq_eq_false_iff_ne, bne_iff_ne, bne_eq_false_iff_eq, ne_eq, Bool.not_eq_true', Bool.not_eq_false', Bool.not_eq_eq_eq_not, Bool.not_true, Bool.not_false, sLe_eq, Bool.and_eq_true, Bool.and_eq_false_iff, List.length_map, List.length_set, List.length_append, List.length_take, List.length_drop, List.length_replicate, List.length_cons, List.length_nil, lenMax, capMax, Int.toNat_natCast, gt_iff_lt, ge_iff_le] at *); (try simp (disch := omega) only [wr, wru, shr1, Int.tdiv_eq_ediv_of_nonneg] at *)); assumption))) ?_; conv => whnf)
    | (refine rowOld (by assumption) ?_; conv => whnf)
    | (refine rowNew (by (first | decide | exact trivial | omega | exact Nat.le_refl _ | (((try simp only [decide_eq_true_eq, decide_eq_false_iff_not, cond_true, cond_false, beq_iff_eq, beq_eq_false_iff_ne, bne_iff_ne, bne_eq_false_iff_eq, ne_eq, Bool.not_eq_true', Bool.not_eq_false', Bool.not_eq_eq_eq_not, Bool.not_true, Bool.not_false, sLe_eq, Bool.and_eq_true, Bool.and_eq_false_iff, List.length_map, List.length_set, List.length_append, List.length_take, List.length_drop, List.length_replicate, List.length_cons, List.length_nil, lenMax, capMax, Int.toNat_natCast, gt_iff_lt, ge_iff_le] at *); (try simp (disch := omega) only [wr, wru, shr1, Int.tdiv_eq_ediv_of_nonneg] at *)); omega) | (((try simp only [decide_eq_true_eq, decide_eq_false_iff_not, cond_true, cond_false, beq_iff_eq, beq_eq_false_iff_ne, bne_iff_ne, bne_eq_false_iff_eq, ne_eq, Bool.not_eq_true', Bool.not_eq_false', Bool.not_eq_eq_eq_not, Bool.not_true, Bool.not_false, sLe_eq, Bool.and_eq_true, Bool.and_eq_false_iff, List.length_map, List.length_set, List.length_append, List.length_take, List.length_drop, List.length_replicate, List.length_cons, List.length_nil, lenMax, capMax, Int.toNat_natCast, gt_iff_lt, ge_iff_le] at *); (try simp (disch := omega) only [wr, wru, shr1, Int.tdiv_eq_ediv_of_nonneg] at *)); assumption))) (fun _ _ => ?_); conv => whnf)
    | (apply WpD.id; first
      | (refine WpD.loopAt 15 rfl (fun k : Nat => PS r 4 k (signP (r.s.take k)) 0 0 0) (fun k => k ≤ r.s.length) (fun k => r.s.length - k) ?_ (fun k hk => ?_); rotate_left; dsimp only [PS])
      | (refine WpD.loopAt 56 rfl (fun k : Nat => PS r 5 (25 + 25 * k) (signP r.s) (chainP r.c) (-k) 0) (fun k => k = 0 ∨ 25 * (k : Int) ≤ r.p) (fun k => 1000 - k) ?_ (fun k hk => ?_); rotate_left; dsimp only [PS])
      | (refine WpD.loopAt 68 rfl (fun k : Nat => PS r 6 (25 + 25 * k) (signP r.s) (chainP r.c) (-A + k) 0) (fun k => k = 0 ∨ 25 * (k : Int) ≤ -r.p) (fun k => 1000 - k) ?_ (fun k hk => ?_); rotate_left; dsimp only [PS])
      | (refine WpD.loopAt 80 rfl (fun k : Nat => PS r 7 (510 + 10 * k) (signP r.s) (chainP r.c) (-A + B) k) (fun k => k = 0 ∨ 10 * (k : Int) ≤ r.j - 500) (fun k => 1000 - k) ?_ (fun k hk => ?_); rotate_left; dsimp only [PS])
      | (refine WpD.loopAt 91 rfl (fun k : Nat => PS r 8 (490 - 10 * k) (signP r.s) (chainP r.c) (-A + B) (C - k)) (fun k => k = 0 ∨ 10 * (k : Int) ≤ 500 - r.j) (fun k => 1000 - k) ?_ (fun k hk => ?_); rotate_left; dsimp only [PS])
      | (refine WpD.walk rfl ?_; conv => whnf))
    | (refine rowAt hget ?_; conv => whnf)
  all_goals ((try simp only [decide_eq_true_eq, decide_eq_false_iff_not, cond_true, cond_false, beq_iff_eq, beq_eq_false_iff_ne, bne_iff_ne, bne_eq_false_iff_eq, ne_eq, Bool.not_eq_true', Bool.not_eq_false', Bool.not_eq_eq_eq_not, Bool.not_true, Bool.not_false, sLe_eq, Bool.and_eq_true, Bool.and_eq_false_iff, List.length_map, List.length_set, List.length_append, List.length_take, List.length_drop, List.length_replicate, List.length_cons, List.length_nil, lenMax, capMax, Int.toNat_natCast, gt_iff_lt, ge_iff_le] at *); (try simp (disch := omega) only [wr, wru, shr1, Int.tdiv_eq_ediv_of_nonneg] at *))
  all_goals try dsimp only [PS]
  all_goals first
    | (exfalso; omega)
    | (refine ⟨0, [0, 2], Nat.zero_le _, ⟨by decide, rfl, ?_, ?_, rfl⟩⟩
       · (repeat' first | exact trivial | rfl | apply And.intro | (refine leInt rfl ?_; first | omega | (dsimp only; omega)) | (refine leArr rfl ?_ rfl; (simp; try omega)) | (refine leBool rfl ?_; assumption))
         done
       · (repeat' first | exact trivial | (refine obLe_v ?_; try dsimp only) | rfl | apply And.intro)
         all_goals (simp [vrows, vOf, signP]; done)
         done)
    | (rename r.s[k]? = some _ => hx
       have hn := sign_next hx
       refine ⟨k + 1, [0, 1], by omega, ⟨⟨by decide, rfl, ?_, ?_, rfl⟩, by omega⟩⟩
       · (repeat' first | exact trivial | rfl | apply And.intro | (refine leInt rfl ?_; first | omega | (dsimp only; omega)) | (refine leArr rfl ?_ rfl; (simp; try omega)) | (refine leBool rfl ?_; assumption))
         done
       · (repeat' first | exact trivial | (refine obLe_v ?_; try dsimp only) | rfl | apply And.intro)
         all_goals (rw [hn]; simp [vrows, vOf, *]; done)
         done)
    | (refine ⟨0, [0, 1], by omega, ⟨by decide, rfl, ?_, ?_, rfl⟩⟩
       · (repeat' first | exact trivial | rfl | apply And.intro | (refine leInt rfl ?_; first | omega | (dsimp only; omega)) | (refine leArr rfl ?_ rfl; (simp; try omega)) | (refine leBool rfl ?_; assumption))
         done
       · (repeat' first | exact trivial | (refine obLe_v ?_; try dsimp only) | rfl | apply And.intro)
         all_goals (first | rfl | (simp [vrows, vOf]; omega) | (have := List.take_of_length_le (l := r.s) (i := k) (by omega); simp [vrows, vOf, *]; try omega))
         done)
    | (refine ⟨k + 1, [0, 1], by omega, ⟨⟨by decide, rfl, ?_, ?_, rfl⟩, by omega⟩⟩
       · (repeat' first | exact trivial | apply And.intro | (refine leInt rfl ?_; first | omega | (dsimp only; omega)) | rfl | (refine leArr rfl ?_ rfl; (simp; try omega)) | (refine leBool rfl ?_; assumption))
         done
       · (repeat' first | exact trivial | (refine obLe_v ?_; try dsimp only) | rfl | apply And.intro)
         all_goals (simp [vrows, vOf]; omega)
         done)
    | (refine ⟨_, hpts.symm, .inl ⟨1, _, rfl, rfl, ?_⟩⟩
       simp [vrows]; omega)
    | skip
  all_goals trace_state
end Go.DL
