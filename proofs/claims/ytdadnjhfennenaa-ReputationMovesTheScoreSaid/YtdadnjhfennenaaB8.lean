import Derived.Test.YtdadnjhfennenaaDl15
import Derived.Test.YtdadnjhfennenaaB2
set_option linter.unusedVariables false
set_option linter.unusedSimpArgs false
set_option maxHeartbeats 4000000
namespace Go.DL
open Go.Proofs

def Sd.drow (x : Sd) : List D := x.row.map .v
theorem drows (l : List Sd) : ((l.map Sd.row).map fun r => r.map D.v) = l.map Sd.drow := by simp [Sd.drow]
theorem c_Clone (z : Bool) (l : List Sd) (hl : l.length ≤ 1000000) : CallE tab 37 [.v (sds z l)] [] 4 (· = l.map Sd.row) := by
  unfold CallE
  refine callD_of Try.func37 rfl (Nat.le_of_ble_eq_true rfl) (by kernel_rfl) ?_
  repeat' first
    | (refine op_isnil rfl rfl rfl (fun b hb => ?_); conv => whnf)
    | (refine idxMap (by (first | decide | exact trivial | omega | exact Nat.le_refl _ | (((try simp only [decide_eq_true_eq, decide_eq_false_iff_not, cond_true, cond_false, beq_iff_eq, beq_eq_false_iff_ne, bne_iff_ne, bne_eq_false_iff_eq, ne_eq, Bool.not_eq_true', Bool.not_eq_false', Bool.not_eq_eq_eq_not, Bool.not_true, Bool.not_false, sLe_eq, Bool.and_eq_true, Bool.and_eq_false_iff, List.length_map, List.length_append, List.length_take, List.length_drop, List.length_replicate, List.length_cons, List.length_nil, lenMax, capMax, Int.toNat_natCast, gt_iff_lt, ge_iff_le] at *); (try simp (disch := omega) only [wr, wru, shr1, Int.tdiv_eq_ediv_of_nonneg] at *)); omega) | (((try simp only [decide_eq_true_eq, decide_eq_false_iff_not, cond_true, cond_false, beq_iff_eq, beq_eq_false_iff_ne, bne_iff_ne, bne_eq_false_iff_eq, ne_eq, Bool.not_eq_true', Bool.not_eq_false', Bool.not_eq_eq_eq_not, Bool.not_true, Bool.not_false, sLe_eq, Bool.and_eq_true, Bool.and_eq_false_iff, List.length_map, List.length_append, List.length_take, List.length_drop, List.length_replicate, List.length_cons, List.length_nil, lenMax, capMax, Int.toNat_natCast, gt_iff_lt, ge_iff_le] at *); (try simp (disch := omega) only [wr, wru, shr1, Int.tdiv_eq_ediv_of_nonneg] at *)); assumption))) (fun _ _ => ?_); conv => whnf)
    | refine WpD.seq ?_
    | (refine WpD.region ?_; conv => whnf)
    | (refine WpD.draw ?_; conv => whnf)
    | (refine EndOk.mk (by kernel_rfl) ?_; conv => whnf)
    | refine WpD.block ?_
    | (refine WpD.exit ?_; conv => whnf)
    | (refine WpD.skip ?_; conv => whnf)
    | (refine WpD.ret ?_; conv => whnf)
    | refine WpD.cond rfl ?_
    | (refine Br.tt ?_; try conv => whnf)
    | (refine Br.ff ?_; try conv => whnf)
    | (refine Br.of_t (by assumption) ?_; conv => whnf)
    | (refine Br.of_f (by assumption) ?_; conv => whnf)
    | (refine Br.mk (fun _ => ?_) (fun _ => ?_) <;> try conv => whnf)
    | refine Exists.intro _ (And.intro (DV_toV rfl) ?_)
    | (refine CallOp.std ?_; (conv => whnf); fail_if_success refine (?_ : False))
    | (refine CallDet.std ?_; (conv => whnf); fail_if_success refine (?_ : False))
    | (refine And.intro (by (first | decide | exact trivial | omega | exact Nat.le_refl _ | (((try simp only [decide_eq_true_eq, decide_eq_false_iff_not, cond_true, cond_false, beq_iff_eq, beq_eq_false_iff_ne, bne_iff_ne, bne_eq_false_iff_eq, ne_eq, Bool.not_eq_true', Bool.not_eq_false', Bool.not_eq_eq_eq_not, Bool.not_true, Bool.not_false, sLe_eq, Bool.and_eq_true, Bool.and_eq_false_iff, List.length_map, List.length_append, List.length_take, List.length_drop, List.length_replicate, List.length_cons, List.length_nil, lenMax, capMax, Int.toNat_natCast, gt_iff_lt, ge_iff_le] at *); (try simp (disch := omega) only [wr, wru, shr1, Int.tdiv_eq_ediv_of_nonneg] at *)); omega) | (((try simp only [decide_eq_true_eq, decide_eq_false_iff_not, cond_true, cond_false, beq_iff_eq, beq_eq_false_iff_ne, bne_iff_ne, bne_eq_false_iff_eq, ne_eq, Bool.not_eq_true', Bool.not_eq_false', Bool.not_eq_eq_eq_not, Bool.not_true, Bool.not_false, sLe_eq, Bool.and_eq_true, Bool.and_eq_false_iff, List.length_map, List.length_append, List.length_take, List.length_drop, List.length_replicate, List.length_cons, List.length_nil, lenMax, capMax, Int.toNat_natCast, gt_iff_lt, ge_iff_le] at *); (try simp (disch := omega) only [wr, wru, shr1, Int.tdiv_eq_ediv_of_nonneg] at *)); assumption))) ?_; conv => whnf)
  · have h0 : l = [] := by
      have := hb ‹_›
      simpa using this
    subst h0
    exact ⟨[], rfl, .inr ⟨rfl, rfl⟩⟩
  · refine ⟨l.map Sd.row, rfl, .inl ⟨1, (l.map Sd.row).map fun r => r.map .v, ?_, rfl, ?_⟩⟩
    · show D.arr 1 0 (0 + ((l.map Sd.row).map fun r => r.map D.v).length) = _
      simp
    · rw [List.take_of_length_le (by simp)]
theorem ins_end {α : Type} (L : List α) (X : α) {N r t u : Nat} (hr : r = L.length) (ht : t = 1) (hu : u = 0) (hN : N = L.length + 1) : List.take N (List.take r L ++ List.take t (List.drop u [X])) = L ++ [X] := by
  subst hr ht hu hN
  rw [List.take_of_length_le (by simp)]; simp
theorem ins_grow {α : Type} (L : List α) (X : α) {i N p q r t u m q' : Nat} (R0 R1 R2 : List α) (hi : i ≤ L.length) (hr : r = i) (hq : q = i) (hp : p = i + 1) (ht : t = 1) (hu : u = 0) (hm : m = L.length - i) (hq' : q' = i) (hN : N = L.length + 1) :
    List.take N (List.take p (List.take q (List.take r L ++ R0) ++ List.take t (List.drop u [X]) ++ R1) ++ List.take m (List.drop q' L) ++ R2) = L.take i ++ X :: L.drop i := by
  rw [hr, hq, hp, ht, hu, hm, hq', hN]
  clear hr hq hp ht hu hm hq' hN
  have l1 : (List.take i L).length = i := by simp; omega
  rw [List.take_left' l1]
  have l2 : (List.take i L ++ List.take 1 (List.drop 0 [X])).length = i + 1 := by simp; omega
  rw [List.take_left' l2]
  rw [List.take_of_length_le (by simp : (List.drop i L).length ≤ L.length - i)]
  rw [List.take_left' (by simp; omega)]
  simp
theorem ins_place {α : Type} (L : List α) (X : α) {i N i' a m b t u v : Nat} (R : List α) (hi : i < L.length) (hi' : i' = i) (ha : a = i + 1) (hm : m = L.length - i) (hb : b = i) (ht : t = 1) (hu : u = 0) (hv : v = i + 1) (hN : N = L.length + 1) :
    List.take N (List.take i' (List.take a L ++ List.take m (List.drop b L) ++ R) ++ List.take t (List.drop u [X]) ++ List.drop v (List.take a L ++ List.take m (List.drop b L) ++ R)) = L.take i ++ X :: L.drop i := by
  rw [hi', ha, hm, hb, ht, hu, hv, hN]
  clear hi' ha hm hb ht hu hv hN
  rw [List.append_assoc (List.take _ L)]
  have l1 : (List.take (i + 1) L).length = i + 1 := by simp; omega
  rw [List.drop_left' l1, List.take_append_of_le_length (l₁ := List.take (i + 1) L) (by rw [l1]; omega), List.take_take, Nat.min_eq_left (by omega)]
  rw [List.take_of_length_le (by simp : (List.drop i L).length ≤ L.length - i)]
  rw [← List.append_assoc, List.take_left' (by simp; omega)]
  simp
theorem ins_rhs (l : List Sd) (x : Sd) (i : Nat) : List.map (fun r => List.map D.v r) (List.map Sd.row (List.take i l ++ x :: List.drop i l)) = (l.map Sd.drow).take i ++ x.drow :: (l.map Sd.drow).drop i := by
  rw [drows]; simp [List.map_take, List.map_drop]
theorem c_Insert (l : List Sd) (x : Sd) (i : Nat) (hi : i ≤ l.length) (hl : l.length ≤ 1000000) : CallE tab 38 [.arr 0 0 l.length, .v (.int .i64 i), .arr 1 0 1] [.arr 4 (l.map Sd.drow), .arr 4 [x.drow]] 4 (· = (l.take i ++ x :: l.drop i).map Sd.row) := by
  unfold CallE
  refine callD_of Try.func38 rfl (Nat.le_of_ble_eq_true rfl) (by kernel_rfl) ?_
  repeat' first
    | (refine op_cap rfl rfl rfl rfl rfl rfl rfl (fun k h1 h2 h3 => ?_); conv => whnf)
    | (refine op_overlaps (t := 22) (tr := 4) (e := 61) Try.func62 rfl (by kernel_rfl) (by kernel_rfl) (by kernel_rfl) rfl rfl rfl rfl rfl rfl rfl (by decide) ?_; conv => whnf)
    | (refine op_append_make (q := 2) rfl rfl rfl rfl rfl rfl rfl rfl rfl rfl rfl rfl rfl rfl rfl (by ((try simp only [decide_eq_true_eq, decide_eq_false_iff_not, cond_true, cond_false, beq_iff_eq, beq_eq_false_iff_ne, bne_iff_ne, bne_eq_false_iff_eq, ne_eq, Bool.not_eq_true', Bool.not_eq_false', Bool.not_eq_eq_eq_not, Bool.not_true, Bool.not_false, sLe_eq, Bool.and_eq_true, Bool.and_eq_false_iff, List.length_map, List.length_append, List.length_take, List.length_drop, List.length_replicate, List.length_cons, List.length_nil, lenMax, capMax, Int.toNat_natCast, gt_iff_lt, ge_iff_le] at *); (try simp (disch := omega) only [wr, wru, shr1, Int.tdiv_eq_ediv_of_nonneg] at *)); omega) (by ((try simp only [decide_eq_true_eq, decide_eq_false_iff_not, cond_true, cond_false, beq_iff_eq, beq_eq_false_iff_ne, bne_iff_ne, bne_eq_false_iff_eq, ne_eq, Bool.not_eq_true', Bool.not_eq_false', Bool.not_eq_eq_eq_not, Bool.not_true, Bool.not_false, sLe_eq, Bool.and_eq_true, Bool.and_eq_false_iff, List.length_map, List.length_append, List.length_take, List.length_drop, List.length_replicate, List.length_cons, List.length_nil, lenMax, capMax, Int.toNat_natCast, gt_iff_lt, ge_iff_le] at *); (try simp (disch := omega) only [wr, wru, shr1, Int.tdiv_eq_ediv_of_nonneg] at *)); omega) (by ((try simp only [decide_eq_true_eq, decide_eq_false_iff_not, cond_true, cond_false, beq_iff_eq, beq_eq_false_iff_ne, bne_iff_ne, bne_eq_false_iff_eq, ne_eq, Bool.not_eq_true', Bool.not_eq_false', Bool.not_eq_eq_eq_not, Bool.not_true, Bool.not_false, sLe_eq, Bool.and_eq_true, Bool.and_eq_false_iff, List.length_map, List.length_append, List.length_take, List.length_drop, List.length_replicate, List.length_cons, List.length_nil, lenMax, capMax, Int.toNat_natCast, gt_iff_lt, ge_iff_le] at *); (try simp (disch := omega) only [wr, wru, shr1, Int.tdiv_eq_ediv_of_nonneg] at *)); omega) (by ((try simp only [decide_eq_true_eq, decide_eq_false_iff_not, cond_true, cond_false, beq_iff_eq, beq_eq_false_iff_ne, bne_iff_ne, bne_eq_false_iff_eq, ne_eq, Bool.not_eq_true', Bool.not_eq_false', Bool.not_eq_eq_eq_not, Bool.not_true, Bool.not_false, sLe_eq, Bool.and_eq_true, Bool.and_eq_false_iff, List.length_map, List.length_append, List.length_take, List.length_drop, List.length_replicate, List.length_cons, List.length_nil, lenMax, capMax, Int.toNat_natCast, gt_iff_lt, ge_iff_le] at *); (try simp (disch := omega) only [wr, wru, shr1, Int.tdiv_eq_ediv_of_nonneg] at *)); omega) ?_; conv => whnf)
    | (refine op_copy rfl rfl rfl rfl rfl rfl rfl rfl rfl rfl rfl (by ((try simp only [decide_eq_true_eq, decide_eq_false_iff_not, cond_true, cond_false, beq_iff_eq, beq_eq_false_iff_ne, bne_iff_ne, bne_eq_false_iff_eq, ne_eq, Bool.not_eq_true', Bool.not_eq_false', Bool.not_eq_eq_eq_not, Bool.not_true, Bool.not_false, sLe_eq, Bool.and_eq_true, Bool.and_eq_false_iff, List.length_map, List.length_append, List.length_take, List.length_drop, List.length_replicate, List.length_cons, List.length_nil, lenMax, capMax, Int.toNat_natCast, gt_iff_lt, ge_iff_le] at *); (try simp (disch := omega) only [wr, wru, shr1, Int.tdiv_eq_ediv_of_nonneg] at *)); omega) (by ((try simp only [decide_eq_true_eq, decide_eq_false_iff_not, cond_true, cond_false, beq_iff_eq, beq_eq_false_iff_ne, bne_iff_ne, bne_eq_false_iff_eq, ne_eq, Bool.not_eq_true', Bool.not_eq_false', Bool.not_eq_eq_eq_not, Bool.not_true, Bool.not_false, sLe_eq, Bool.and_eq_true, Bool.and_eq_false_iff, List.length_map, List.length_append, List.length_take, List.length_drop, List.length_replicate, List.length_cons, List.length_nil, lenMax, capMax, Int.toNat_natCast, gt_iff_lt, ge_iff_le] at *); (try simp (disch := omega) only [wr, wru, shr1, Int.tdiv_eq_ediv_of_nonneg] at *)); omega) (by ((try simp only [decide_eq_true_eq, decide_eq_false_iff_not, cond_true, cond_false, beq_iff_eq, beq_eq_false_iff_ne, bne_iff_ne, bne_eq_false_iff_eq, ne_eq, Bool.not_eq_true', Bool.not_eq_false', Bool.not_eq_eq_eq_not, Bool.not_true, Bool.not_false, sLe_eq, Bool.and_eq_true, Bool.and_eq_false_iff, List.length_map, List.length_append, List.length_take, List.length_drop, List.length_replicate, List.length_cons, List.length_nil, lenMax, capMax, Int.toNat_natCast, gt_iff_lt, ge_iff_le] at *); (try simp (disch := omega) only [wr, wru, shr1, Int.tdiv_eq_ediv_of_nonneg] at *)); omega) ?_; conv => whnf)
    | (refine op_copyD rfl rfl rfl rfl rfl rfl rfl rfl rfl rfl rfl (by ((try simp only [decide_eq_true_eq, decide_eq_false_iff_not, cond_true, cond_false, beq_iff_eq, beq_eq_false_iff_ne, bne_iff_ne, bne_eq_false_iff_eq, ne_eq, Bool.not_eq_true', Bool.not_eq_false', Bool.not_eq_eq_eq_not, Bool.not_true, Bool.not_false, sLe_eq, Bool.and_eq_true, Bool.and_eq_false_iff, List.length_map, List.length_append, List.length_take, List.length_drop, List.length_replicate, List.length_cons, List.length_nil, lenMax, capMax, Int.toNat_natCast, gt_iff_lt, ge_iff_le] at *); (try simp (disch := omega) only [wr, wru, shr1, Int.tdiv_eq_ediv_of_nonneg] at *)); omega) (by ((try simp only [decide_eq_true_eq, decide_eq_false_iff_not, cond_true, cond_false, beq_iff_eq, beq_eq_false_iff_ne, bne_iff_ne, bne_eq_false_iff_eq, ne_eq, Bool.not_eq_true', Bool.not_eq_false', Bool.not_eq_eq_eq_not, Bool.not_true, Bool.not_false, sLe_eq, Bool.and_eq_true, Bool.and_eq_false_iff, List.length_map, List.length_append, List.length_take, List.length_drop, List.length_replicate, List.length_cons, List.length_nil, lenMax, capMax, Int.toNat_natCast, gt_iff_lt, ge_iff_le] at *); (try simp (disch := omega) only [wr, wru, shr1, Int.tdiv_eq_ediv_of_nonneg] at *)); omega) (by ((try simp only [decide_eq_true_eq, decide_eq_false_iff_not, cond_true, cond_false, beq_iff_eq, beq_eq_false_iff_ne, bne_iff_ne, bne_eq_false_iff_eq, ne_eq, Bool.not_eq_true', Bool.not_eq_false', Bool.not_eq_eq_eq_not, Bool.not_true, Bool.not_false, sLe_eq, Bool.and_eq_true, Bool.and_eq_false_iff, List.length_map, List.length_append, List.length_take, List.length_drop, List.length_replicate, List.length_cons, List.length_nil, lenMax, capMax, Int.toNat_natCast, gt_iff_lt, ge_iff_le] at *); (try simp (disch := omega) only [wr, wru, shr1, Int.tdiv_eq_ediv_of_nonneg] at *)); omega) ?_; conv => whnf)
    | (refine op_slice_cap (q := 2) rfl rfl rfl rfl rfl rfl ?_; conv => whnf)
    | (refine idxMap (by (first | decide | exact trivial | omega | exact Nat.le_refl _ | (((try simp only [decide_eq_true_eq, decide_eq_false_iff_not, cond_true, cond_false, beq_iff_eq, beq_eq_false_iff_ne, bne_iff_ne, bne_eq_false_iff_eq, ne_eq, Bool.not_eq_true', Bool.not_eq_false', Bool.not_eq_eq_eq_not, Bool.not_true, Bool.not_false, sLe_eq, Bool.and_eq_true, Bool.and_eq_false_iff, List.length_map, List.length_append, List.length_take, List.length_drop, List.length_replicate, List.length_cons, List.length_nil, lenMax, capMax, Int.toNat_natCast, gt_iff_lt, ge_iff_le] at *); (try simp (disch := omega) only [wr, wru, shr1, Int.tdiv_eq_ediv_of_nonneg] at *)); omega) | (((try simp only [decide_eq_true_eq, decide_eq_false_iff_not, cond_true, cond_false, beq_iff_eq, beq_eq_false_iff_ne, bne_iff_ne, bne_eq_false_iff_eq, ne_eq, Bool.not_eq_true', Bool.not_eq_false', Bool.not_eq_eq_eq_not, Bool.not_true, Bool.not_false, sLe_eq, Bool.and_eq_true, Bool.and_eq_false_iff, List.length_map, List.length_append, List.length_take, List.length_drop, List.length_replicate, List.length_cons, List.length_nil, lenMax, capMax, Int.toNat_natCast, gt_iff_lt, ge_iff_le] at *); (try simp (disch := omega) only [wr, wru, shr1, Int.tdiv_eq_ediv_of_nonneg] at *)); assumption))) (fun _ _ => ?_); conv => whnf)
    | refine WpD.seq ?_
    | (refine WpD.region ?_; conv => whnf)
    | (refine WpD.draw ?_; conv => whnf)
    | (refine EndOk.mk (by kernel_rfl) ?_; conv => whnf)
    | refine WpD.block ?_
    | (refine WpD.exit ?_; conv => whnf)
    | (refine WpD.skip ?_; conv => whnf)
    | (refine WpD.ret ?_; conv => whnf)
    | refine WpD.cond rfl ?_
    | (refine Br.tt ?_; try conv => whnf)
    | (refine Br.ff ?_; try conv => whnf)
    | (refine Br.of_t (by assumption) ?_; conv => whnf)
    | (refine Br.of_f (by assumption) ?_; conv => whnf)
    | (refine Br.mk (fun _ => ?_) (fun _ => ?_) <;> try conv => whnf)
    | refine Exists.intro _ (And.intro (DV_toV rfl) ?_)
    | (refine CallOp.std ?_; (conv => whnf); fail_if_success refine (?_ : False))
    | (refine CallDet.std ?_; (conv => whnf); fail_if_success refine (?_ : False))
    | (refine And.intro (by (first | decide | exact trivial | omega | exact Nat.le_refl _ | (((try simp only [decide_eq_true_eq, decide_eq_false_iff_not, cond_true, cond_false, beq_iff_eq, beq_eq_false_iff_ne, bne_iff_ne, bne_eq_false_iff_eq, ne_eq, Bool.not_eq_true', Bool.not_eq_false', Bool.not_eq_eq_eq_not, Bool.not_true, Bool.not_false, sLe_eq, Bool.and_eq_true, Bool.and_eq_false_iff, List.length_map, List.length_append, List.length_take, List.length_drop, List.length_replicate, List.length_cons, List.length_nil, lenMax, capMax, Int.toNat_natCast, gt_iff_lt, ge_iff_le] at *); (try simp (disch := omega) only [wr, wru, shr1, Int.tdiv_eq_ediv_of_nonneg] at *)); omega) | (((try simp only [decide_eq_true_eq, decide_eq_false_iff_not, cond_true, cond_false, beq_iff_eq, beq_eq_false_iff_ne, bne_iff_ne, bne_eq_false_iff_eq, ne_eq, Bool.not_eq_true', Bool.not_eq_false', Bool.not_eq_eq_eq_not, Bool.not_true, Bool.not_false, sLe_eq, Bool.and_eq_true, Bool.and_eq_false_iff, List.length_map, List.length_append, List.length_take, List.length_drop, List.length_replicate, List.length_cons, List.length_nil, lenMax, capMax, Int.toNat_natCast, gt_iff_lt, ge_iff_le] at *); (try simp (disch := omega) only [wr, wru, shr1, Int.tdiv_eq_ediv_of_nonneg] at *)); assumption))) ?_; conv => whnf)
  all_goals have w1 : IntKind.wrap .i64 ((i : Int) + ((1 : Nat) : Int)) = ((i + 1 : Nat) : Int) := by rw [wr (by omega) (by omega)]; rfl
  all_goals have w2 : IntKind.wrap .i64 ((l.length : Int) + ((1 : Nat) : Int)) = ((l.length + 1 : Nat) : Int) := by rw [wr (by omega) (by omega)]; rfl
  all_goals have w3 : IntKind.wrap .i64 (((l.length + 1 : Nat) : Int) - (i : Int)) = ((l.length + 1 - i : Nat) : Int) := by rw [wr (by omega) (by omega)]; omega
  · refine ⟨_, rfl, .inl ⟨2, _, ?_, rfl, ?_⟩⟩
    · show D.arr 2 0 (l.length + 1) = D.arr 2 0 _
      congr 1; simp; omega
    · rename_i h
      have hn : i = l.length := by have h' : (i : Int) = l.length := by simpa using h
                                   omega
      subst hn
      rw [ins_rhs, ins_end (l.map Sd.drow) x.drow (by simp) rfl rfl (by simp)]
      rw [List.take_of_length_le (by simp), List.drop_eq_nil_of_le (by simp)]
  · refine ⟨_, rfl, .inl ⟨3, _, ?_, rfl, ?_⟩⟩
    · show D.arr 3 0 (_ + _) = D.arr 3 0 _
      rw [w2, w3]
      congr 1
      simp only [Int.toNat_natCast]
      simp; omega
    · rw [ins_rhs]
      simp only [w1, w2, w3, Int.toNat_natCast, Nat.zero_add]
      exact ins_grow (l.map Sd.drow) x.drow _ _ _ (by simp; omega) (by simp) rfl (by omega) (by simp; omega) rfl (by simp; omega) rfl (by simp; omega)
  · have hne : i < l.length := by
      have h' : ((i : Int) == (l.length : Int)) = false := by assumption
      have : (i : Int) ≠ l.length := by simpa using h'
      omega
    refine ⟨_, rfl, .inl ⟨0, _, ?_, rfl, ?_⟩⟩
    · show D.arr 0 _ (_ - _) = D.arr 0 0 _
      rw [w2]
      congr 1
      simp only [Int.toNat_natCast]
      simp; omega
    · rw [ins_rhs]
      simp only [w1, w2, w3, Int.toNat_natCast, Nat.zero_add]
      exact ins_place (l.map Sd.drow) x.drow _ (by simp; omega) rfl (by simp) (by simp; omega) (by simp) (by simp; omega) rfl (by simp; omega) (by simp; omega)
end Go.DL
