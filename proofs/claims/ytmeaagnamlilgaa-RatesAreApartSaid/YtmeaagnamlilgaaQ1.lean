/- Rates: checkKey, Validate, RatesFault, SameRates. No condition. -/
import Derived.Test.YtmeaagnamlilgaaG2
import Derived.Test.YtmeaagnamlilgaaDl22
set_option linter.unusedVariables false
set_option linter.unusedSimpArgs false
set_option maxHeartbeats 4000000
namespace Go.DL
open Go.Proofs

structure Us where
  a : Int
  n : Int
deriving DecidableEq
def Us.row (x : Us) : List V := [.int .i64 x.a, .int .i64 x.n]
def uss (z : Bool) (l : List Us) : V := .sl 2 z (l.map Us.row)
structure Rk where
  k : ByteArray
  z : Bool
  u : List Us
deriving DecidableEq
def Rk.row (x : Rk) : List V := [.str x.k, .sl 2 x.z (x.u.map Us.row)]
def rks (z : Bool) (l : List Rk) : V := .sl 2 z (l.map Rk.row)
structure Rt where
  w : Int
  m : Int
  z : Bool
  l : List Rk
deriving DecidableEq
def Rt.row (r : Rt) : List V := [.int .i64 r.w, .int .i64 r.m, .sl 2 r.z (r.l.map Rk.row)]
def uOk (m : Int) (x : Us) : Prop := -68719476736 ≤ x.a ∧ x.a ≤ 68719476736 ∧ 1 ≤ x.n ∧ x.n ≤ m
instance (m : Int) (x : Us) : Decidable (uOk m x) := by unfold uOk; infer_instance
def uchk (m : Int) (p : Option Us) (x : Us) : Int := if ¬ uOk m x then 3 else match p with | some y => if x.a < y.a then 19 else 0 | none => 0
theorem uchk_r {m : Int} {p : Option Us} {x : Us} (h : ¬ uOk m x) : uchk m p x = 3 := by unfold uchk; rw [if_pos h]
theorem uchk_o {m : Int} {y x : Us} (h : uOk m x) (h2 : x.a < y.a) : uchk m (some y) x = 19 := by unfold uchk; rw [if_neg (by simpa using h)]; simp [h2]
theorem uchk_0 {m : Int} {x : Us} (h : uOk m x) : uchk m none x = 0 := by unfold uchk; rw [if_neg (by simpa using h)]
theorem uchk_1 {m : Int} {y x : Us} (h : uOk m x) (h2 : ¬ x.a < y.a) : uchk m (some y) x = 0 := by unfold uchk; rw [if_neg (by simpa using h)]; simp [h2]
def nSz (s : ByteArray) : Prop := 1 ≤ s.size ∧ s.size ≤ 4000
instance (s : ByteArray) : Decidable (nSz s) := by unfold nSz; infer_instance
def keyF (m : Int) (x : Rk) : Int := if ¬ nSz x.k then 10 else if 300 < x.u.length then 2 else (vfl (uchk m) 0 none x.u).1
theorem c_checkKey (r : Rt) (x : Rk) : CallV tab 50 [.agg r.row, .agg x.row] (· = .int .i64 (keyF r.m x)) := by
  refine callV_of Try.func50 rfl (Nat.le_of_ble_eq_true rfl) (by kernel_rfl) ?_
  repeat' first
    | (apply Br.id; first
      | (apply Br.tt; try conv => whnf)
      | (apply Br.ff; try conv => whnf)
      | (refine Br.of_t (by assumption) ?_; conv => whnf)
      | (refine Br.of_f (by assumption) ?_; conv => whnf)
      | (refine Br.mk (fun _ => ?_) (fun _ => ?_) <;> try conv => whnf))
    | (apply CallOp.id; first
      | (refine call_at rfl rfl rfl rfl rfl ?_)
      | (refine call_rd rfl rfl rfl rfl rfl ?_)
      | (refine CallOp.std ?_; (conv => whnf); fail_if_success refine (?_ : False)))
    | (apply CallDet.id; first
      | (refine call_atD rfl rfl rfl rfl rfl ?_)
      | (refine call_rdD rfl rfl rfl rfl rfl ?_)
      | (refine CallDet.std ?_; (conv => whnf); fail_if_success refine (?_ : False)))
    | (refine EndOk.mk (by kernel_rfl) ?_; conv => whnf)
    | (refine And.intro (by (first | decide | exact trivial | omega | exact Nat.le_refl _ | (((try simp only [decide_eq_true_eq, decide_eq_false_iff_not, cond_true, cond_false, beq_iff_eq, beq_eq_false_iff_ne, bne_iff_ne, bne_eq_false_iff_eq, ne_eq, Bool.not_eq_true', Bool.not_eq_false', Bool.not_eq_eq_eq_not, Bool.not_true, Bool.not_false, sLe_eq, Bool.and_eq_true, Bool.and_eq_false_iff, List.length_map, List.length_set, List.length_append, List.length_take, List.length_drop, List.length_replicate, List.length_cons, List.length_nil, lenMax, capMax, Int.toNat_natCast, gt_iff_lt, ge_iff_le] at *); (try simp (disch := omega) only [wr, wru, shr1, Int.tdiv_eq_ediv_of_nonneg] at *)); omega) | (((try simp only [decide_eq_true_eq, decide_eq_false_iff_not, cond_true, cond_false, beq_iff_eq, beq_eq_false_iff_ne, bne_iff_ne, bne_eq_false_iff_eq, ne_eq, Bool.not_eq_true', Bool.not_eq_false', Bool.not_eq_eq_eq_not, Bool.not_true, Bool.not_false, sLe_eq, Bool.and_eq_true, Bool.and_eq_false_iff, List.length_map, List.length_set, List.length_append, List.length_take, List.length_drop, List.length_replicate, List.length_cons, List.length_nil, lenMax, capMax, Int.toNat_natCast, gt_iff_lt, ge_iff_le] at *); (try simp (disch := omega) only [wr, wru, shr1, Int.tdiv_eq_ediv_of_nonneg] at *)); assumption))) ?_; conv => whnf)
    | (refine idxOld (by assumption) ?_; conv => whnf)
    | (refine idxMap (by (first | decide | exact trivial | omega | exact Nat.le_refl _ | (((try simp only [decide_eq_true_eq, decide_eq_false_iff_not, cond_true, cond_false, beq_iff_eq, beq_eq_false_iff_ne, bne_iff_ne, bne_eq_false_iff_eq, ne_eq, Bool.not_eq_true', Bool.not_eq_false', Bool.not_eq_eq_eq_not, Bool.not_true, Bool.not_false, sLe_eq, Bool.and_eq_true, Bool.and_eq_false_iff, List.length_map, List.length_set, List.length_append, List.length_take, List.length_drop, List.length_replicate, List.length_cons, List.length_nil, lenMax, capMax, Int.toNat_natCast, gt_iff_lt, ge_iff_le] at *); (try simp (disch := omega) only [wr, wru, shr1, Int.tdiv_eq_ediv_of_nonneg] at *)); omega) | (((try simp only [decide_eq_true_eq, decide_eq_false_iff_not, cond_true, cond_false, beq_iff_eq, beq_eq_false_iff_ne, bne_iff_ne, bne_eq_false_iff_eq, ne_eq, Bool.not_eq_true', Bool.not_eq_false', Bool.not_eq_eq_eq_not, Bool.not_true, Bool.not_false, sLe_eq, Bool.and_eq_true, Bool.and_eq_false_iff, List.length_map, List.length_set, List.length_append, List.length_take, List.length_drop, List.length_replicate, List.length_cons, List.length_nil, lenMax, capMax, Int.toNat_natCast, gt_iff_lt, ge_iff_le] at *); (try simp (disch := omega) only [wr, wru, shr1, Int.tdiv_eq_ediv_of_nonneg] at *)); assumption))) (fun _ _ => ?_); conv => whnf)
    | refine Exists.intro _ (And.intro (DV_toV rfl) ?_)
    | (refine rowSet (by (first | decide | exact trivial | omega | exact Nat.le_refl _ | (((try simp only [decide_eq_true_eq, decide_eq_false_iff_not, cond_true, cond_false, beq_iff_eq, beq_eq_false_iff_ne, bne_iff_ne, bne_eq_false_iff_eq, ne_eq, Bool.not_eq_true', Bool.not_eq_false', Bool.not_eq_eq_eq_not, Bool.not_true, Bool.not_false, sLe_eq, Bool.and_eq_true, Bool.and_eq_false_iff, List.length_map, List.length_set, List.length_append, List.length_take, List.length_drop, List.length_replicate, List.length_cons, List.length_nil, lenMax, capMax, Int.toNat_natCast, gt_iff_lt, ge_iff_le] at *); (try simp (disch := omega) only [wr, wru, shr1, Int.tdiv_eq_ediv_of_nonneg] at *)); omega) | (((try simp only [decide_eq_true_eq, decide_eq_false_iff_not, cond_true, cond_false, beq_iff_eq, beq_eq_false_iff_ne, bne_iff_ne, bne_eq_false_iff_eq, ne_eq, Bool.not_eq_true', Bool.not_eq_false', Bool.not_eq_eq_eq_not, Bool.not_true, Bool.not_false, sLe_eq, Bool.and_eq_true, Bool.and_eq_false_iff, List.length_map, List.length_set, List.length_append, List.length_take, List.length_drop, List.length_replicate, List.length_cons, List.length_nil, lenMax, capMax, Int.toNat_natCast, gt_iff_lt, ge_iff_le] at *); (try simp (disch := omega) only [wr, wru, shr1, Int.tdiv_eq_ediv_of_nonneg] at *)); assumption))) ?_; conv => whnf)
    | (refine rowOld (by assumption) ?_; conv => whnf)
    | (refine rowNew (by (first | decide | exact trivial | omega | exact Nat.le_refl _ | (((try simp only [decide_eq_true_eq, decide_eq_false_iff_not, cond_true, cond_false, beq_iff_eq, beq_eq_false_iff_ne, bne_iff_ne, bne_eq_false_iff_eq, ne_eq, Bool.not_eq_true', Bool.not_eq_false', Bool.not_eq_eq_eq_not, Bool.not_true, Bool.not_false, sLe_eq, Bool.and_eq_true, Bool.and_eq_false_iff, List.length_map, List.length_set, List.length_append, List.length_take, List.length_drop, List.length_replicate, List.length_cons, List.length_nil, lenMax, capMax, Int.toNat_natCast, gt_iff_lt, ge_iff_le] at *); (try simp (disch := omega) only [wr, wru, shr1, Int.tdiv_eq_ediv_of_nonneg] at *)); omega) | (((try simp only [decide_eq_true_eq, decide_eq_false_iff_not, cond_true, cond_false, beq_iff_eq, beq_eq_false_iff_ne, bne_iff_ne, bne_eq_false_iff_eq, ne_eq, Bool.not_eq_true', Bool.not_eq_false', Bool.not_eq_eq_eq_not, Bool.not_true, Bool.not_false, sLe_eq, Bool.and_eq_true, Bool.and_eq_false_iff, List.length_map, List.length_set, List.length_append, List.length_take, List.length_drop, List.length_replicate, List.length_cons, List.length_nil, lenMax, capMax, Int.toNat_natCast, gt_iff_lt, ge_iff_le] at *); (try simp (disch := omega) only [wr, wru, shr1, Int.tdiv_eq_ediv_of_nonneg] at *)); assumption))) (fun _ _ => ?_); conv => whnf)
    | (apply WpD.id; first
      | (refine WpD.loop (fun k : Nat => ⟨[(2, .ptr 0 0 0), (3, .ptr 1 0 0), (22, .v (uss x.z x.u)), (23, .v (.int .i64 x.u.length)), (24, .v (.int .i64 k))], [.arr 3 (vrows [r.row]), .arr 2 (vrows [x.row])], []⟩) (fun k => k ≤ x.u.length ∧ x.u.length ≤ 300 ∧ vfl (uchk r.m) 0 none x.u = vfl (uchk r.m) k (prevL x.u k) (x.u.drop k)) (fun k => x.u.length - k) ?_ (fun k hk => ?_))
      | (refine WpD.walk rfl ?_; conv => whnf))
  all_goals ((try simp only [decide_eq_true_eq, decide_eq_false_iff_not, cond_true, cond_false, beq_iff_eq, beq_eq_false_iff_ne, bne_iff_ne, bne_eq_false_iff_eq, ne_eq, Bool.not_eq_true', Bool.not_eq_false', Bool.not_eq_eq_eq_not, Bool.not_true, Bool.not_false, sLe_eq, Bool.and_eq_true, Bool.and_eq_false_iff, List.length_map, List.length_set, List.length_append, List.length_take, List.length_drop, List.length_replicate, List.length_cons, List.length_nil, lenMax, capMax, Int.toNat_natCast, gt_iff_lt, ge_iff_le] at *); (try simp (disch := omega) only [wr, wru, shr1, Int.tdiv_eq_ediv_of_nonneg] at *))
  all_goals try rcases hk with ⟨hk, h300, hi⟩
  all_goals try rename x.u[k]? = some _ => hx
  all_goals first
    | (refine congrArg (V.int .i64) ?_
       rw [keyF, if_pos (by unfold nSz; omega)]
       done)
    | (refine congrArg (V.int .i64) ?_
       rw [keyF, if_neg (by unfold nSz; omega), if_pos (by omega)]
       done)
    | (refine ⟨0, [0, 1], ⟨Nat.zero_le _, by omega, rfl⟩, ⟨by decide, rfl, ?_, ?_, rfl⟩⟩
       · (repeat' first | exact trivial | rfl | apply And.intro | (refine leInt rfl ?_; first | omega | (dsimp only; omega)) | (refine leArr rfl ?_ rfl; (simp; try omega)) | (refine leBool rfl ?_; assumption))
         done
       · (repeat' first | exact trivial | (refine obLe_v ?_; try dsimp only) | rfl | apply And.intro)
         done)
    | (refine congrArg (V.int .i64) ?_
       rw [keyF, if_neg (by unfold nSz; omega), if_neg (by omega)]
       have hv : vfl (uchk r.m) 0 none x.u = (3, (k : Int)) := vfl_ret hi hx (uchk_r (by unfold uOk; omega)) (by decide)
       rw [hv]
       done)
    | (refine congrArg (V.int .i64) ?_
       rw [keyF, if_neg (by unfold nSz; omega), if_neg (by omega)]
       have hv : vfl (uchk r.m) 0 none x.u = (19, (k : Int)) := vfl_ret hi hx (by rw [prevL_s ‹_› ‹_›]; exact uchk_o (by unfold uOk; omega) (by omega)) (by decide)
       rw [hv]
       done)
    | (refine ⟨k + 1, [0, 1], ⟨by omega, by omega, vfl_next hi hx ?_⟩, ⟨⟨by decide, rfl, ?_, ?_, rfl⟩, by omega⟩⟩
       · first
          | (rw [prevL_0 ‹_›]; exact uchk_0 (by unfold uOk; omega))
          | (rw [prevL_s ‹_› ‹_›]; exact uchk_1 (by unfold uOk; omega) (by omega))
       · (repeat' first | exact trivial | rfl | apply And.intro | (refine leInt rfl ?_; first | omega | (dsimp only; omega)) | (refine leArr rfl ?_ rfl; (simp; try omega)) | (refine leBool rfl ?_; assumption))
         done
       · (repeat' first | exact trivial | (refine obLe_v ?_; try dsimp only) | rfl | apply And.intro)
         done)
    | (refine congrArg (V.int .i64) ?_
       rw [keyF, if_neg (by unfold nSz; omega), if_neg (by omega), vfl_end hi (by omega)]
       done)
    | skip
  all_goals trace_state
def kchk (m : Int) (p : Option Rk) (x : Rk) : Int := if keyF m x ≠ 0 then keyF m x else match p with | some y => if sLt y.k x.k = true then 0 else 19 | none => 0
theorem kchk_f {m c : Int} {p : Option Rk} {x : Rk} (h : keyF m x = c) (hc : c ≠ 0) : kchk m p x = c := by unfold kchk; rw [if_pos (by rw [h]; exact hc), h]
theorem kchk_o {m : Int} {y x : Rk} (h : keyF m x = 0) (h2 : sLt y.k x.k = false) : kchk m (some y) x = 19 := by unfold kchk; rw [if_neg (by simp [h])]; simp [h2]
theorem kchk_0 {m : Int} {x : Rk} (h : keyF m x = 0) : kchk m none x = 0 := by unfold kchk; rw [if_neg (by simp [h])]
theorem kchk_1 {m : Int} {y x : Rk} (h : keyF m x = 0) (h2 : sLt y.k x.k = true) : kchk m (some y) x = 0 := by unfold kchk; rw [if_neg (by simp [h])]; simp [h2]
theorem keyF_n {m : Int} {x : Rk} (h : ¬ nSz x.k) : keyF m x = 10 := by unfold keyF; rw [if_pos h]
theorem keyF_t {m : Int} {x : Rk} (h : nSz x.k) (h2 : 300 < x.u.length) : keyF m x = 2 := by unfold keyF; rw [if_neg (by simpa using h), if_pos h2]
theorem keyF_v {m : Int} {x : Rk} {c : Int × Int} (h : nSz x.k) (h2 : x.u.length ≤ 300) (h3 : vfl (uchk m) 0 none x.u = c) : keyF m x = c.1 := by unfold keyF; rw [if_neg (by simpa using h), if_neg (by omega), h3]
def ratF (r : Rt) : Int × Int := if ¬ (1 ≤ r.w ∧ r.w ≤ 1000000 ∧ 0 ≤ r.m ∧ r.m ≤ 1000000) then (3, -3) else if 300 < r.l.length then (2, -1) else vfl (kchk r.m) 0 none r.l
theorem c_rValidate (r : Rt) : CallV tab 21 [.agg r.row] (· = fv (ratF r)) := by
  refine callV_of Try.func21 rfl (Nat.le_of_ble_eq_true rfl) (by kernel_rfl) ?_
  repeat' first
    | (apply Br.id; first
      | (apply Br.tt; try conv => whnf)
      | (apply Br.ff; try conv => whnf)
      | (refine Br.of_t (by assumption) ?_; conv => whnf)
      | (refine Br.of_f (by assumption) ?_; conv => whnf)
      | (refine Br.mk (fun _ => ?_) (fun _ => ?_) <;> try conv => whnf))
    | (apply CallOp.id; first
      | (refine call_at rfl rfl rfl rfl rfl ?_)
      | (refine call_rd rfl rfl rfl rfl rfl ?_)
      | (refine CallOp.std ?_; (conv => whnf); fail_if_success refine (?_ : False)))
    | (apply CallDet.id; first
      | (refine call_atD rfl rfl rfl rfl rfl ?_)
      | (refine call_rdD rfl rfl rfl rfl rfl ?_)
      | (refine CallDet.std ?_; (conv => whnf); fail_if_success refine (?_ : False)))
    | (apply CallAt.id; first
      | (apply CallAt.mk1 (c_checkKey _ _); conv => whnf))
    | (apply CallRd.id; first
      | (apply CallRd.mk1 (c_checkKey _ _); (· rfl); conv => whnf))
    | (refine EndOk.mk (by kernel_rfl) ?_; conv => whnf)
    | (refine And.intro (by (first | decide | exact trivial | omega | exact Nat.le_refl _ | (((try simp only [decide_eq_true_eq, decide_eq_false_iff_not, cond_true, cond_false, beq_iff_eq, beq_eq_false_iff_ne, bne_iff_ne, bne_eq_false_iff_eq, ne_eq, Bool.not_eq_true', Bool.not_eq_false', Bool.not_eq_eq_eq_not, Bool.not_true, Bool.not_false, sLe_eq, Bool.and_eq_true, Bool.and_eq_false_iff, List.length_map, List.length_set, List.length_append, List.length_take, List.length_drop, List.length_replicate, List.length_cons, List.length_nil, lenMax, capMax, Int.toNat_natCast, gt_iff_lt, ge_iff_le] at *); (try simp (disch := omega) only [wr, wru, shr1, Int.tdiv_eq_ediv_of_nonneg] at *)); omega) | (((try simp only [decide_eq_true_eq, decide_eq_false_iff_not, cond_true, cond_false, beq_iff_eq, beq_eq_false_iff_ne, bne_iff_ne, bne_eq_false_iff_eq, ne_eq, Bool.not_eq_true', Bool.not_eq_false', Bool.not_eq_eq_eq_not, Bool.not_true, Bool.not_false, sLe_eq, Bool.and_eq_true, Bool.and_eq_false_iff, List.length_map, List.length_set, List.length_append, List.length_take, List.length_drop, List.length_replicate, List.length_cons, List.length_nil, lenMax, capMax, Int.toNat_natCast, gt_iff_lt, ge_iff_le] at *); (try simp (disch := omega) only [wr, wru, shr1, Int.tdiv_eq_ediv_of_nonneg] at *)); assumption))) ?_; conv => whnf)
    | (refine idxOld (by assumption) ?_; conv => whnf)
    | (refine idxMap (by (first | decide | exact trivial | omega | exact Nat.le_refl _ | (((try simp only [decide_eq_true_eq, decide_eq_false_iff_not, cond_true, cond_false, beq_iff_eq, beq_eq_false_iff_ne, bne_iff_ne, bne_eq_false_iff_eq, ne_eq, Bool.not_eq_true', Bool.not_eq_false', Bool.not_eq_eq_eq_not, Bool.not_true, Bool.not_false, sLe_eq, Bool.and_eq_true, Bool.and_eq_false_iff, List.length_map, List.length_set, List.length_append, List.length_take, List.length_drop, List.length_replicate, List.length_cons, List.length_nil, lenMax, capMax, Int.toNat_natCast, gt_iff_lt, ge_iff_le] at *); (try simp (disch := omega) only [wr, wru, shr1, Int.tdiv_eq_ediv_of_nonneg] at *)); omega) | (((try simp only [decide_eq_true_eq, decide_eq_false_iff_not, cond_true, cond_false, beq_iff_eq, beq_eq_false_iff_ne, bne_iff_ne, bne_eq_false_iff_eq, ne_eq, Bool.not_eq_true', Bool.not_eq_false', Bool.not_eq_eq_eq_not, Bool.not_true, Bool.not_false, sLe_eq, Bool.and_eq_true, Bool.and_eq_false_iff, List.length_map, List.length_set, List.length_append, List.length_take, List.length_drop, List.length_replicate, List.length_cons, List.length_nil, lenMax, capMax, Int.toNat_natCast, gt_iff_lt, ge_iff_le] at *); (try simp (disch := omega) only [wr, wru, shr1, Int.tdiv_eq_ediv_of_nonneg] at *)); assumption))) (fun _ _ => ?_); conv => whnf)
    | refine Exists.intro _ (And.intro (DV_toV rfl) ?_)
    | (refine rowSet (by (first | decide | exact trivial | omega | exact Nat.le_refl _ | (((try simp only [decide_eq_true_eq, decide_eq_false_iff_not, cond_true, cond_false, beq_iff_eq, beq_eq_false_iff_ne, bne_iff_ne, bne_eq_false_iff_eq, ne_eq, Bool.not_eq_true', Bool.not_eq_false', Bool.not_eq_eq_eq_not, Bool.not_true, Bool.not_false, sLe_eq, Bool.and_eq_true, Bool.and_eq_false_iff, List.length_map, List.length_set, List.length_append, List.length_take, List.length_drop, List.length_replicate, List.length_cons, List.length_nil, lenMax, capMax, Int.toNat_natCast, gt_iff_lt, ge_iff_le] at *); (try simp (disch := omega) only [wr, wru, shr1, Int.tdiv_eq_ediv_of_nonneg] at *)); omega) | (((try simp only [decide_eq_true_eq, decide_eq_false_iff_not, cond_true, cond_false, beq_iff_eq, beq_eq_false_iff_ne, bne_iff_ne, bne_eq_false_iff_eq, ne_eq, Bool.not_eq_true', Bool.not_eq_false', Bool.not_eq_eq_eq_not, Bool.not_true, Bool.not_false, sLe_eq, Bool.and_eq_true, Bool.and_eq_false_iff, List.length_map, List.length_set, List.length_append, List.length_take, List.length_drop, List.length_replicate, List.length_cons, List.length_nil, lenMax, capMax, Int.toNat_natCast, gt_iff_lt, ge_iff_le] at *); (try simp (disch := omega) only [wr, wru, shr1, Int.tdiv_eq_ediv_of_nonneg] at *)); assumption))) ?_; conv => whnf)
    | (refine rowOld (by assumption) ?_; conv => whnf)
    | (refine rowNew (by (first | decide | exact trivial | omega | exact Nat.le_refl _ | (((try simp only [decide_eq_true_eq, decide_eq_false_iff_not, cond_true, cond_false, beq_iff_eq, beq_eq_false_iff_ne, bne_iff_ne, bne_eq_false_iff_eq, ne_eq, Bool.not_eq_true', Bool.not_eq_false', Bool.not_eq_eq_eq_not, Bool.not_true, Bool.not_false, sLe_eq, Bool.and_eq_true, Bool.and_eq_false_iff, List.length_map, List.length_set, List.length_append, List.length_take, List.length_drop, List.length_replicate, List.length_cons, List.length_nil, lenMax, capMax, Int.toNat_natCast, gt_iff_lt, ge_iff_le] at *); (try simp (disch := omega) only [wr, wru, shr1, Int.tdiv_eq_ediv_of_nonneg] at *)); omega) | (((try simp only [decide_eq_true_eq, decide_eq_false_iff_not, cond_true, cond_false, beq_iff_eq, beq_eq_false_iff_ne, bne_iff_ne, bne_eq_false_iff_eq, ne_eq, Bool.not_eq_true', Bool.not_eq_false', Bool.not_eq_eq_eq_not, Bool.not_true, Bool.not_false, sLe_eq, Bool.and_eq_true, Bool.and_eq_false_iff, List.length_map, List.length_set, List.length_append, List.length_take, List.length_drop, List.length_replicate, List.length_cons, List.length_nil, lenMax, capMax, Int.toNat_natCast, gt_iff_lt, ge_iff_le] at *); (try simp (disch := omega) only [wr, wru, shr1, Int.tdiv_eq_ediv_of_nonneg] at *)); assumption))) (fun _ _ => ?_); conv => whnf)
    | (apply WpD.id; first
      | (refine WpD.loop (fun k : Nat => ⟨[(1, .ptr 0 0 0), (2, .ptr 1 0 0), (31, .v (rks r.z r.l)), (32, .v (.int .i64 r.l.length)), (33, .v (.int .i64 k))], [.arr 3 (vrows [r.row]), .arr 2 (vrows [[.int .i64 0, .int .i64 0]])], []⟩) (fun k => k ≤ r.l.length ∧ r.l.length ≤ 300 ∧ vfl (kchk r.m) 0 none r.l = vfl (kchk r.m) k (prevL r.l k) (r.l.drop k)) (fun k => r.l.length - k) ?_ (fun k hk => ?_))
      | (refine WpD.walk rfl ?_; conv => whnf))
  all_goals ((try simp only [decide_eq_true_eq, decide_eq_false_iff_not, cond_true, cond_false, beq_iff_eq, beq_eq_false_iff_ne, bne_iff_ne, bne_eq_false_iff_eq, ne_eq, Bool.not_eq_true', Bool.not_eq_false', Bool.not_eq_eq_eq_not, Bool.not_true, Bool.not_false, sLe_eq, Bool.and_eq_true, Bool.and_eq_false_iff, List.length_map, List.length_set, List.length_append, List.length_take, List.length_drop, List.length_replicate, List.length_cons, List.length_nil, lenMax, capMax, Int.toNat_natCast, gt_iff_lt, ge_iff_le] at *); (try simp (disch := omega) only [wr, wru, shr1, Int.tdiv_eq_ediv_of_nonneg] at *))
  all_goals try rcases hk with ⟨hk, h300, hi⟩
  all_goals try rename r.l[k]? = some _ => hx
  all_goals first
    | (refine fvEq ?_
       rw [ratF, if_pos (by omega)]
       done)
    | (refine fvEq ?_
       rw [ratF, if_neg (by omega), if_pos (by omega)]
       done)
    | (refine ⟨0, [0, 1], ⟨Nat.zero_le _, by omega, rfl⟩, ⟨by decide, rfl, ?_, ?_, rfl⟩⟩
       · (repeat' first | exact trivial | rfl | apply And.intro | (refine leInt rfl ?_; first | omega | (dsimp only; omega)) | (refine leArr rfl ?_ rfl; (simp; try omega)) | (refine leBool rfl ?_; assumption))
         done
       · (repeat' first | exact trivial | (refine obLe_v ?_; try dsimp only) | rfl | apply And.intro)
         done)
    | (refine fvEq ?_
       rw [ratF, if_neg (by omega), if_neg (by omega)]
       first
        | exact vfl_ret hi hx (kchk_f rfl ‹_›) ‹_›
        | exact vfl_ret hi hx (by rw [prevL_s ‹_› ‹_›]; exact kchk_o ‹_› ‹_›) (by decide))
    | (refine ⟨k + 1, [0, 1], ⟨by omega, by omega, vfl_next hi hx ?_⟩, ⟨⟨by decide, rfl, ?_, ?_, rfl⟩, by omega⟩⟩
       · first
          | (rw [prevL_0 ‹_›]; exact kchk_0 ‹_›)
          | (rw [prevL_s ‹_› ‹_›]; exact kchk_1 ‹_› ‹_›)
       · (repeat' first | exact trivial | rfl | apply And.intro | (refine leInt rfl ?_; first | omega | (dsimp only; omega)) | (refine leArr rfl ?_ rfl; (simp; try omega)) | (refine leBool rfl ?_; assumption))
         done
       · (repeat' first | exact trivial | (refine obLe_v ?_; try dsimp only) | rfl | apply And.intro)
         done)
    | (refine fvEq ?_
       rw [ratF, if_neg (by omega), if_neg (by omega), vfl_end hi (by omega)]
       done)
    | skip
  all_goals trace_state
theorem c_RatesFault (r : Rt) : CallV tab 22 [.agg r.row] (· = fv (ratF r)) := by
  refine callV_of Try.func22 rfl (Nat.le_of_ble_eq_true rfl) (by kernel_rfl) ?_
  repeat' first
    | (rename Rk => x; refine WpD.loopAt 47 rfl (fun j : Nat => ⟨[(1, .ptr 0 0 0), (2, .ptr 1 0 0), (3, .v (.int .i64 k)), (4, .ptr 2 0 0), (5, .v (.int .i64 j))], [.arr 3 (vrows [r.row]), .arr 2 (vrows [[.int .i64 0, .int .i64 0]]), .arr 2 (vrows [x.row])], []⟩) (fun j => j ≤ x.u.length ∧ x.u.length ≤ 300 ∧ vfl (uchk r.m) 0 none x.u = vfl (uchk r.m) j (prevL x.u j) (x.u.drop j)) (fun j => x.u.length - j) ?_ (fun j hj => ?_))
    | (apply Br.id; first
      | (apply Br.tt; try conv => whnf)
      | (apply Br.ff; try conv => whnf)
      | (refine Br.of_t (by assumption) ?_; conv => whnf)
      | (refine Br.of_f (by assumption) ?_; conv => whnf)
      | (refine Br.mk (fun _ => ?_) (fun _ => ?_) <;> try conv => whnf))
    | (apply CallOp.id; first
      | (refine call_at rfl rfl rfl rfl rfl ?_)
      | (refine call_rd rfl rfl rfl rfl rfl ?_)
      | (refine CallOp.std ?_; (conv => whnf); fail_if_success refine (?_ : False)))
    | (apply CallDet.id; first
      | (refine call_atD rfl rfl rfl rfl rfl ?_)
      | (refine call_rdD rfl rfl rfl rfl rfl ?_)
      | (refine CallDet.std ?_; (conv => whnf); fail_if_success refine (?_ : False)))
    | (apply CallAt.id; first
      | (apply CallAt.mk1 (c_In _ _ _); conv => whnf)
      | (apply CallAt.mk1 (c_At _ _); conv => whnf)
      | (apply CallAt.mk1 (c_Instant _); conv => whnf))
    | (apply CallRd.id; first
      | (apply CallRd.mk1 (c_In _ _ _); (· rfl); conv => whnf)
      | (apply CallRd.mk1 (c_At _ _); (· rfl); conv => whnf)
      | (apply CallRd.mk1 (c_Instant _); (· rfl); conv => whnf))
    | (refine EndOk.mk (by kernel_rfl) ?_; conv => whnf)
    | (refine And.intro (by (first | decide | exact trivial | omega | exact Nat.le_refl _ | (((try simp only [decide_eq_true_eq, decide_eq_false_iff_not, cond_true, cond_false, beq_iff_eq, beq_eq_false_iff_ne, bne_iff_ne, bne_eq_false_iff_eq, ne_eq, Bool.not_eq_true', Bool.not_eq_false', Bool.not_eq_eq_eq_not, Bool.not_true, Bool.not_false, sLe_eq, Bool.and_eq_true, Bool.and_eq_false_iff, List.length_map, List.length_set, List.length_append, List.length_take, List.length_drop, List.length_replicate, List.length_cons, List.length_nil, lenMax, capMax, Int.toNat_natCast, gt_iff_lt, ge_iff_le] at *); (try simp (disch := omega) only [wr, wru, shr1, Int.tdiv_eq_ediv_of_nonneg] at *)); omega) | (((try simp only [decide_eq_true_eq, decide_eq_false_iff_not, cond_true, cond_false, beq_iff_eq, beq_eq_false_iff_ne, bne_iff_ne, bne_eq_false_iff_eq, ne_eq, Bool.not_eq_true', Bool.not_eq_false', Bool.not_eq_eq_eq_not, Bool.not_true, Bool.not_false, sLe_eq, Bool.and_eq_true, Bool.and_eq_false_iff, List.length_map, List.length_set, List.length_append, List.length_take, List.length_drop, List.length_replicate, List.length_cons, List.length_nil, lenMax, capMax, Int.toNat_natCast, gt_iff_lt, ge_iff_le] at *); (try simp (disch := omega) only [wr, wru, shr1, Int.tdiv_eq_ediv_of_nonneg] at *)); assumption))) ?_; conv => whnf)
    | (refine idxOld (by assumption) ?_; conv => whnf)
    | (refine idxMap (by (first | decide | exact trivial | omega | exact Nat.le_refl _ | (((try simp only [decide_eq_true_eq, decide_eq_false_iff_not, cond_true, cond_false, beq_iff_eq, beq_eq_false_iff_ne, bne_iff_ne, bne_eq_false_iff_eq, ne_eq, Bool.not_eq_true', Bool.not_eq_false', Bool.not_eq_eq_eq_not, Bool.not_true, Bool.not_false, sLe_eq, Bool.and_eq_true, Bool.and_eq_false_iff, List.length_map, List.length_set, List.length_append, List.length_take, List.length_drop, List.length_replicate, List.length_cons, List.length_nil, lenMax, capMax, Int.toNat_natCast, gt_iff_lt, ge_iff_le] at *); (try simp (disch := omega) only [wr, wru, shr1, Int.tdiv_eq_ediv_of_nonneg] at *)); omega) | (((try simp only [decide_eq_true_eq, decide_eq_false_iff_not, cond_true, cond_false, beq_iff_eq, beq_eq_false_iff_ne, bne_iff_ne, bne_eq_false_iff_eq, ne_eq, Bool.not_eq_true', Bool.not_eq_false', Bool.not_eq_eq_eq_not, Bool.not_true, Bool.not_false, sLe_eq, Bool.and_eq_true, Bool.and_eq_false_iff, List.length_map, List.length_set, List.length_append, List.length_take, List.length_drop, List.length_replicate, List.length_cons, List.length_nil, lenMax, capMax, Int.toNat_natCast, gt_iff_lt, ge_iff_le] at *); (try simp (disch := omega) only [wr, wru, shr1, Int.tdiv_eq_ediv_of_nonneg] at *)); assumption))) (fun _ _ => ?_); conv => whnf)
    | refine Exists.intro _ (And.intro (DV_toV rfl) ?_)
    | (refine rowSet (by (first | decide | exact trivial | omega | exact Nat.le_refl _ | (((try simp only [decide_eq_true_eq, decide_eq_false_iff_not, cond_true, cond_false, beq_iff_eq, beq_eq_false_iff_ne, bne_iff_ne, bne_eq_false_iff_eq, ne_eq, Bool.not_eq_true', Bool.not_eq_false', Bool.not_eq_eq_eq_not, Bool.not_true, Bool.not_false, sLe_eq, Bool.and_eq_true, Bool.and_eq_false_iff, List.length_map, List.length_set, List.length_append, List.length_take, List.length_drop, List.length_replicate, List.length_cons, List.length_nil, lenMax, capMax, Int.toNat_natCast, gt_iff_lt, ge_iff_le] at *); (try simp (disch := omega) only [wr, wru, shr1, Int.tdiv_eq_ediv_of_nonneg] at *)); omega) | (((try simp only [decide_eq_true_eq, decide_eq_false_iff_not, cond_true, cond_false, beq_iff_eq, beq_eq_false_iff_ne, bne_iff_ne, bne_eq_false_iff_eq, ne_eq, Bool.not_eq_true', Bool.not_eq_false', Bool.not_eq_eq_eq_not, Bool.not_true, Bool.not_false, sLe_eq, Bool.and_eq_true, Bool.and_eq_false_iff, List.length_map, List.length_set, List.length_append, List.length_take, List.length_drop, List.length_replicate, List.length_cons, List.length_nil, lenMax, capMax, Int.toNat_natCast, gt_iff_lt, ge_iff_le] at *); (try simp (disch := omega) only [wr, wru, shr1, Int.tdiv_eq_ediv_of_nonneg] at *)); assumption))) ?_; conv => whnf)
    | (refine rowOld (by assumption) ?_; conv => whnf)
    | (refine rowNew (by (first | decide | exact trivial | omega | exact Nat.le_refl _ | (((try simp only [decide_eq_true_eq, decide_eq_false_iff_not, cond_true, cond_false, beq_iff_eq, beq_eq_false_iff_ne, bne_iff_ne, bne_eq_false_iff_eq, ne_eq, Bool.not_eq_true', Bool.not_eq_false', Bool.not_eq_eq_eq_not, Bool.not_true, Bool.not_false, sLe_eq, Bool.and_eq_true, Bool.and_eq_false_iff, List.length_map, List.length_set, List.length_append, List.length_take, List.length_drop, List.length_replicate, List.length_cons, List.length_nil, lenMax, capMax, Int.toNat_natCast, gt_iff_lt, ge_iff_le] at *); (try simp (disch := omega) only [wr, wru, shr1, Int.tdiv_eq_ediv_of_nonneg] at *)); omega) | (((try simp only [decide_eq_true_eq, decide_eq_false_iff_not, cond_true, cond_false, beq_iff_eq, beq_eq_false_iff_ne, bne_iff_ne, bne_eq_false_iff_eq, ne_eq, Bool.not_eq_true', Bool.not_eq_false', Bool.not_eq_eq_eq_not, Bool.not_true, Bool.not_false, sLe_eq, Bool.and_eq_true, Bool.and_eq_false_iff, List.length_map, List.length_set, List.length_append, List.length_take, List.length_drop, List.length_replicate, List.length_cons, List.length_nil, lenMax, capMax, Int.toNat_natCast, gt_iff_lt, ge_iff_le] at *); (try simp (disch := omega) only [wr, wru, shr1, Int.tdiv_eq_ediv_of_nonneg] at *)); assumption))) (fun _ _ => ?_); conv => whnf)
    | (apply WpD.id; first
      | (refine WpD.loopAt 22 rfl (fun k : Nat => ⟨[(1, .ptr 0 0 0), (2, .ptr 1 0 0), (3, .v (.int .i64 k))], [.arr 3 (vrows [r.row]), .arr 2 (vrows [[.int .i64 0, .int .i64 0]])], []⟩) (fun k => k ≤ r.l.length ∧ r.l.length ≤ 300 ∧ vfl (kchk r.m) 0 none r.l = vfl (kchk r.m) k (prevL r.l k) (r.l.drop k)) (fun k => r.l.length - k) ?_ (fun k hk => ?_))
      | (refine WpD.walk rfl ?_; conv => whnf))
  all_goals ((try simp only [decide_eq_true_eq, decide_eq_false_iff_not, cond_true, cond_false, beq_iff_eq, beq_eq_false_iff_ne, bne_iff_ne, bne_eq_false_iff_eq, ne_eq, Bool.not_eq_true', Bool.not_eq_false', Bool.not_eq_eq_eq_not, Bool.not_true, Bool.not_false, sLe_eq, Bool.and_eq_true, Bool.and_eq_false_iff, List.length_map, List.length_set, List.length_append, List.length_take, List.length_drop, List.length_replicate, List.length_cons, List.length_nil, lenMax, capMax, Int.toNat_natCast, gt_iff_lt, ge_iff_le] at *); (try simp (disch := omega) only [wr, wru, shr1, Int.tdiv_eq_ediv_of_nonneg] at *))
  all_goals try rcases hk with ⟨hk, h300, hi⟩
  all_goals try rcases hj with ⟨hj, hu3, hv⟩
  all_goals first
    | (refine fvEq ?_
       rw [ratF, if_pos (by omega)]
       done)
    | (refine fvEq ?_
       rw [ratF, if_neg (by omega), if_pos (by omega)]
       done)
    | (refine ⟨0, [0, 1], ⟨Nat.zero_le _, by omega, rfl⟩, ⟨by decide, rfl, ?_, ?_, rfl⟩⟩
       · (repeat' first | exact trivial | rfl | apply And.intro | (refine leInt rfl ?_; first | omega | (dsimp only; omega)) | (refine leArr rfl ?_ rfl; (simp; try omega)) | (refine leBool rfl ?_; assumption))
         done
       · (repeat' first | exact trivial | (refine obLe_v ?_; try dsimp only) | rfl | apply And.intro)
         done)
    | (refine ⟨0, [0, 1, 2], ⟨Nat.zero_le _, by omega, rfl⟩, ⟨by decide, rfl, ?_, ?_, rfl⟩⟩
       · (repeat' first | exact trivial | rfl | apply And.intro | (refine leInt rfl ?_; first | omega | (dsimp only; omega)) | (refine leArr rfl ?_ rfl; (simp; try omega)) | (refine leBool rfl ?_; assumption))
         done
       · (repeat' first | exact trivial | (refine obLe_v ?_; try dsimp only) | rfl | apply And.intro)
         done)
    | (rename x.u[j]? = some _ => hx'
       refine ⟨j + 1, [0, 1, 2], ⟨by omega, by omega, vfl_next hv hx' ?_⟩, ⟨⟨by decide, rfl, ?_, ?_, rfl⟩, by omega⟩⟩
       · first
          | (rw [prevL_0 ‹_›]; exact uchk_0 (by unfold uOk; omega))
          | (rw [prevL_s ‹_› ‹_›]; exact uchk_1 (by unfold uOk; omega) (by omega))
       · (repeat' first | exact trivial | rfl | apply And.intro | (refine leInt rfl ?_; first | omega | (dsimp only; omega)) | (refine leArr rfl ?_ rfl; (simp; try omega)) | (refine leBool rfl ?_; assumption))
         done
       · (repeat' first | exact trivial | (refine obLe_v ?_; try dsimp only) | rfl | apply And.intro)
         done)
    | (rename r.l[k]? = some _ => hx
       refine fvEq ?_
       rw [ratF, if_neg (by omega), if_neg (by omega)]
       first
        | exact vfl_ret hi hx (kchk_f (keyF_n (by unfold nSz; omega)) (by decide)) (by decide)
        | exact vfl_ret hi hx (kchk_f (keyF_t (by unfold nSz; omega) (by omega)) (by decide)) (by decide)
        | (rename x.u[j]? = some _ => hx'
           exact vfl_ret hi hx (kchk_f (keyF_v (c := (3, (j : Int))) (by unfold nSz; omega) hu3 (vfl_ret hv hx' (uchk_r (by unfold uOk; omega)) (by decide))) (by decide)) (by decide))
        | (rename x.u[j]? = some _ => hx'
           exact vfl_ret hi hx (kchk_f (keyF_v (c := (19, (j : Int))) (by unfold nSz; omega) hu3 (vfl_ret hv hx' (by rw [prevL_s ‹_› ‹_›]; exact uchk_o (by unfold uOk; omega) (by omega)) (by decide))) (by decide)) (by decide))
        | (have hk0 : keyF r.m x = 0 := keyF_v (c := (0, 0)) (by unfold nSz; omega) hu3 (vfl_end hv (by omega))
           exact vfl_ret hi hx (by rw [prevL_s ‹_› ‹_›]; exact kchk_o hk0 ‹_›) (by decide)))
    | (rename r.l[k]? = some _ => hx
       have hk0 : keyF r.m x = 0 := keyF_v (c := (0, 0)) (by unfold nSz; omega) hu3 (vfl_end hv (by omega))
       refine ⟨k + 1, [0, 1], ⟨by omega, by omega, vfl_next hi hx ?_⟩, ⟨⟨by decide, rfl, ?_, ?_, rfl⟩, by omega⟩⟩
       · first
          | (rw [prevL_0 ‹_›]; exact kchk_0 hk0)
          | (rw [prevL_s ‹_› ‹_›]; exact kchk_1 hk0 ‹_›)
       · (repeat' first | exact trivial | rfl | apply And.intro | (refine leInt rfl ?_; first | omega | (dsimp only; omega)) | (refine leArr rfl ?_ rfl; (simp; try omega)) | (refine leBool rfl ?_; assumption))
         done
       · (repeat' first | exact trivial | (refine obLe_v ?_; try dsimp only) | rfl | apply And.intro)
         done)
    | (refine fvEq ?_
       rw [ratF, if_neg (by omega), if_neg (by omega), vfl_end hi (by omega)]
       done)
    | skip
  all_goals trace_state
theorem us_ext {x y : Us} (h1 : x.a = y.a) (h2 : x.n = y.n) : x = y := by cases x; cases y; simp at *; exact ⟨h1, h2⟩
def rkE (x : Rk) : ByteArray × List Us := (x.k, x.u)
def rtE (r : Rt) : Int × Int × List (ByteArray × List Us) := (r.w, r.m, r.l.map rkE)
theorem c_SameRates (a b : Rt) (ha : a.l.length ≤ 1000000) (ha' : ∀ x ∈ a.l, x.u.length ≤ 1000000) : CallV tab 23 [.agg a.row, .agg b.row] (· = .bool (decide (rtE a = rtE b))) := by
  refine callV_of Try.func23 rfl (Nat.le_of_ble_eq_true rfl) (by kernel_rfl) ?_
  repeat' first
    | (rename a.l[_]? = some _ => hx; rename b.l[_]? = some _ => hy; have hxl := ha' _ (List.mem_of_getElem? hx); obtain ⟨x, hxe⟩ : ∃ x, a.l[k]? = some x := ⟨_, hx⟩; have e := hxe.symm.trans hx; injection e with e; subst e; obtain ⟨y, hye⟩ : ∃ y, b.l[k]? = some y := ⟨_, hy⟩; have e := hye.symm.trans hy; injection e with e; subst e; refine WpD.loopAt 65 rfl (fun j : Nat => ⟨[(2, .ptr 0 0 0), (3, .ptr 1 0 0), (5, .v (.int .i64 k)), (6, .v (.int .i64 j))], [.arr 3 (vrows [a.row]), .arr 3 (vrows [b.row])], []⟩) (fun j => j ≤ x.u.length ∧ y.u.length = x.u.length ∧ ∀ i : Nat, i < j → x.u[i]? = y.u[i]?) (fun j => x.u.length - j) ?_ (fun j hj => ?_))
    | (apply Br.id; first
      | (apply Br.tt; try conv => whnf)
      | (apply Br.ff; try conv => whnf)
      | (refine Br.of_t (by assumption) ?_; conv => whnf)
      | (refine Br.of_f (by assumption) ?_; conv => whnf)
      | (refine Br.mk (fun _ => ?_) (fun _ => ?_) <;> try conv => whnf))
    | (apply CallOp.id; first
      | (refine call_at rfl rfl rfl rfl rfl ?_)
      | (refine call_rd rfl rfl rfl rfl rfl ?_)
      | (refine CallOp.std ?_; (conv => whnf); fail_if_success refine (?_ : False)))
    | (apply CallDet.id; first
      | (refine call_atD rfl rfl rfl rfl rfl ?_)
      | (refine call_rdD rfl rfl rfl rfl rfl ?_)
      | (refine CallDet.std ?_; (conv => whnf); fail_if_success refine (?_ : False)))
    | (refine EndOk.mk (by kernel_rfl) ?_; conv => whnf)
    | (refine And.intro (by (first | decide | exact trivial | omega | exact Nat.le_refl _ | (((try simp only [decide_eq_true_eq, decide_eq_false_iff_not, cond_true, cond_false, beq_iff_eq, beq_eq_false_iff_ne, bne_iff_ne, bne_eq_false_iff_eq, ne_eq, Bool.not_eq_true', Bool.not_eq_false', Bool.not_eq_eq_eq_not, Bool.not_true, Bool.not_false, sLe_eq, Bool.and_eq_true, Bool.and_eq_false_iff, List.length_map, List.length_set, List.length_append, List.length_take, List.length_drop, List.length_replicate, List.length_cons, List.length_nil, lenMax, capMax, Int.toNat_natCast, gt_iff_lt, ge_iff_le] at *); (try simp (disch := omega) only [wr, wru, shr1, Int.tdiv_eq_ediv_of_nonneg] at *)); omega) | (((try simp only [decide_eq_true_eq, decide_eq_false_iff_not, cond_true, cond_false, beq_iff_eq, beq_eq_false_iff_ne, bne_iff_ne, bne_eq_false_iff_eq, ne_eq, Bool.not_eq_true', Bool.not_eq_false', Bool.not_eq_eq_eq_not, Bool.not_true, Bool.not_false, sLe_eq, Bool.and_eq_true, Bool.and_eq_false_iff, List.length_map, List.length_set, List.length_append, List.length_take, List.length_drop, List.length_replicate, List.length_cons, List.length_nil, lenMax, capMax, Int.toNat_natCast, gt_iff_lt, ge_iff_le] at *); (try simp (disch := omega) only [wr, wru, shr1, Int.tdiv_eq_ediv_of_nonneg] at *)); assumption))) ?_; conv => whnf)
    | (refine idxOld (by assumption) ?_; conv => whnf)
    | (refine idxMap (by (first | decide | exact trivial | omega | exact Nat.le_refl _ | (((try simp only [decide_eq_true_eq, decide_eq_false_iff_not, cond_true, cond_false, beq_iff_eq, beq_eq_false_iff_ne, bne_iff_ne, bne_eq_false_iff_eq, ne_eq, Bool.not_eq_true', Bool.not_eq_false', Bool.not_eq_eq_eq_not, Bool.not_true, Bool.not_false, sLe_eq, Bool.and_eq_true, Bool.and_eq_false_iff, List.length_map, List.length_set, List.length_append, List.length_take, List.length_drop, List.length_replicate, List.length_cons, List.length_nil, lenMax, capMax, Int.toNat_natCast, gt_iff_lt, ge_iff_le] at *); (try simp (disch := omega) only [wr, wru, shr1, Int.tdiv_eq_ediv_of_nonneg] at *)); omega) | (((try simp only [decide_eq_true_eq, decide_eq_false_iff_not, cond_true, cond_false, beq_iff_eq, beq_eq_false_iff_ne, bne_iff_ne, bne_eq_false_iff_eq, ne_eq, Bool.not_eq_true', Bool.not_eq_false', Bool.not_eq_eq_eq_not, Bool.not_true, Bool.not_false, sLe_eq, Bool.and_eq_true, Bool.and_eq_false_iff, List.length_map, List.length_set, List.length_append, List.length_take, List.length_drop, List.length_replicate, List.length_cons, List.length_nil, lenMax, capMax, Int.toNat_natCast, gt_iff_lt, ge_iff_le] at *); (try simp (disch := omega) only [wr, wru, shr1, Int.tdiv_eq_ediv_of_nonneg] at *)); assumption))) (fun _ _ => ?_); conv => whnf)
    | refine Exists.intro _ (And.intro (DV_toV rfl) ?_)
    | (refine rowSet (by (first | decide | exact trivial | omega | exact Nat.le_refl _ | (((try simp only [decide_eq_true_eq, decide_eq_false_iff_not, cond_true, cond_false, beq_iff_eq, beq_eq_false_iff_ne, bne_iff_ne, bne_eq_false_iff_eq, ne_eq, Bool.not_eq_true', Bool.not_eq_false', Bool.not_eq_eq_eq_not, Bool.not_true, Bool.not_false, sLe_eq, Bool.and_eq_true, Bool.and_eq_false_iff, List.length_map, List.length_set, List.length_append, List.length_take, List.length_drop, List.length_replicate, List.length_cons, List.length_nil, lenMax, capMax, Int.toNat_natCast, gt_iff_lt, ge_iff_le] at *); (try simp (disch := omega) only [wr, wru, shr1, Int.tdiv_eq_ediv_of_nonneg] at *)); omega) | (((try simp only [decide_eq_true_eq, decide_eq_false_iff_not, cond_true, cond_false, beq_iff_eq, beq_eq_false_iff_ne, bne_iff_ne, bne_eq_false_iff_eq, ne_eq, Bool.not_eq_true', Bool.not_eq_false', Bool.not_eq_eq_eq_not, Bool.not_true, Bool.not_false, sLe_eq, Bool.and_eq_true, Bool.and_eq_false_iff, List.length_map, List.length_set, List.length_append, List.length_take, List.length_drop, List.length_replicate, List.length_cons, List.length_nil, lenMax, capMax, Int.toNat_natCast, gt_iff_lt, ge_iff_le] at *); (try simp (disch := omega) only [wr, wru, shr1, Int.tdiv_eq_ediv_of_nonneg] at *)); assumption))) ?_; conv => whnf)
    | (refine rowOld (by assumption) ?_; conv => whnf)
    | (refine rowNew (by (first | decide | exact trivial | omega | exact Nat.le_refl _ | (((try simp only [decide_eq_true_eq, decide_eq_false_iff_not, cond_true, cond_false, beq_iff_eq, beq_eq_false_iff_ne, bne_iff_ne, bne_eq_false_iff_eq, ne_eq, Bool.not_eq_true', Bool.not_eq_false', Bool.not_eq_eq_eq_not, Bool.not_true, Bool.not_false, sLe_eq, Bool.and_eq_true, Bool.and_eq_false_iff, List.length_map, List.length_set, List.length_append, List.length_take, List.length_drop, List.length_replicate, List.length_cons, List.length_nil, lenMax, capMax, Int.toNat_natCast, gt_iff_lt, ge_iff_le] at *); (try simp (disch := omega) only [wr, wru, shr1, Int.tdiv_eq_ediv_of_nonneg] at *)); omega) | (((try simp only [decide_eq_true_eq, decide_eq_false_iff_not, cond_true, cond_false, beq_iff_eq, beq_eq_false_iff_ne, bne_iff_ne, bne_eq_false_iff_eq, ne_eq, Bool.not_eq_true', Bool.not_eq_false', Bool.not_eq_eq_eq_not, Bool.not_true, Bool.not_false, sLe_eq, Bool.and_eq_true, Bool.and_eq_false_iff, List.length_map, List.length_set, List.length_append, List.length_take, List.length_drop, List.length_replicate, List.length_cons, List.length_nil, lenMax, capMax, Int.toNat_natCast, gt_iff_lt, ge_iff_le] at *); (try simp (disch := omega) only [wr, wru, shr1, Int.tdiv_eq_ediv_of_nonneg] at *)); assumption))) (fun _ _ => ?_); conv => whnf)
    | (apply WpD.id; first
      | (refine WpD.loopAt 28 rfl (fun k : Nat => ⟨[(2, .ptr 0 0 0), (3, .ptr 1 0 0), (5, .v (.int .i64 k))], [.arr 3 (vrows [a.row]), .arr 3 (vrows [b.row])], []⟩) (fun k => k ≤ a.l.length ∧ b.l.length = a.l.length ∧ ∀ i : Nat, i < k → (a.l[i]?).map rkE = (b.l[i]?).map rkE) (fun k => a.l.length - k) ?_ (fun k hk => ?_))
      | (refine WpD.walk rfl ?_; conv => whnf))
  all_goals ((try simp only [decide_eq_true_eq, decide_eq_false_iff_not, cond_true, cond_false, beq_iff_eq, beq_eq_false_iff_ne, bne_iff_ne, bne_eq_false_iff_eq, ne_eq, Bool.not_eq_true', Bool.not_eq_false', Bool.not_eq_eq_eq_not, Bool.not_true, Bool.not_false, sLe_eq, Bool.and_eq_true, Bool.and_eq_false_iff, List.length_map, List.length_set, List.length_append, List.length_take, List.length_drop, List.length_replicate, List.length_cons, List.length_nil, lenMax, capMax, Int.toNat_natCast, gt_iff_lt, ge_iff_le] at *); (try simp (disch := omega) only [wr, wru, shr1, Int.tdiv_eq_ediv_of_nonneg] at *))
  all_goals try obtain ⟨hk1, hk2, hk3⟩ := hk
  all_goals try obtain ⟨hj1, hj2, hj3⟩ := hj
  all_goals first
    | (refine ⟨0, [0, 1], ⟨Nat.zero_le _, by omega, fun i h => absurd h (Nat.not_lt_zero i)⟩, ⟨by decide, rfl, ?_, ?_, rfl⟩⟩
       · (repeat' first | exact trivial | rfl | apply And.intro | (refine leInt rfl ?_; first | omega | (dsimp only; omega)) | (refine leArr rfl ?_ rfl; (simp; try omega)) | (refine leBool rfl ?_; assumption))
         done
       · (repeat' first | exact trivial | (refine obLe_v ?_; try dsimp only) | rfl | apply And.intro)
         done)
    | (refine ⟨j + 1, [0, 1], ⟨by omega, hj2, fun i hi => ?_⟩, ⟨⟨by decide, rfl, ?_, ?_, rfl⟩, by omega⟩⟩
       · by_cases hij : i = j
         · subst hij
           rename x.u[i]? = some _ => h1
           rename y.u[i]? = some _ => h2
           rename _ ∧ _ ∧ True => h3
           rw [h1, h2]; congr 1
           exact us_ext h3.1 h3.2.1
         · exact hj3 i (by omega)
       · (repeat' first | exact trivial | rfl | apply And.intro | (refine leInt rfl ?_; first | omega | (dsimp only; omega)) | (refine leArr rfl ?_ rfl; (simp; try omega)) | (refine leBool rfl ?_; assumption))
         done
       · (repeat' first | exact trivial | (refine obLe_v ?_; try dsimp only) | rfl | apply And.intro)
         done)
    | (refine ⟨k + 1, [0, 1], ⟨by omega, hk2, fun i hi => ?_⟩, ⟨⟨by decide, rfl, ?_, ?_, rfl⟩, by omega⟩⟩
       · by_cases hik : i = k
         · subst hik
           have hu : x.u = y.u := by
             apply List.ext_getElem?
             intro q
             by_cases hq : q < j
             · exact hj3 q hq
             · rw [List.getElem?_eq_none (by omega), List.getElem?_eq_none (by omega)]
           rw [hx, hy]
           simp only [Option.map_some, rkE, hu]
           rename x.k = y.k => hkk
           rw [hkk]
         · exact hk3 i (by omega)
       · (repeat' first | exact trivial | rfl | apply And.intro | (refine leInt rfl ?_; first | omega | (dsimp only; omega)) | (refine leArr rfl ?_ rfl; (simp; try omega)) | (refine leBool rfl ?_; assumption))
         done
       · (repeat' first | exact trivial | (refine obLe_v ?_; try dsimp only) | rfl | apply And.intro)
         done)
    | (refine congrArg V.bool (Eq.symm (decide_eq_true ?_))
       unfold rtE
       have hl : a.l.map rkE = b.l.map rkE := by
         apply List.ext_getElem?
         intro q
         by_cases hq : q < k
         · simpa using hk3 q hq
         · rw [List.getElem?_eq_none (by simp; omega), List.getElem?_eq_none (by simp; omega)]
       rename a.w = b.w => h1
       rename a.m = b.m => h2
       rw [h1, h2, hl])
    | (refine congrArg V.bool (Eq.symm (decide_eq_false (fun e => ?_)))
       simp only [rtE, Prod.mk.injEq] at e
       obtain ⟨e1, e2, e3⟩ := e
       have e4 := congrArg List.length e3
       simp only [List.length_map] at e4
       first
       | omega
       | (rename x.u[j]? = some _ => h1
          rename y.u[j]? = some _ => h2
          have e5 := congrArg (·[k]?) e3
          simp [hx, hy, rkE] at e5
          rw [e5.2, h2] at h1
          injection h1 with h1; subst h1
          rename ¬ _ ∨ _ => h3
          rcases h3 with h3 | h3 | h3
          · exact h3 rfl
          · exact h3 rfl
          · cases h3)
       | (rename a.l[k]? = some _ => hx
          rename b.l[k]? = some _ => hy
          have e5 := congrArg (·[k]?) e3
          simp [hx, hy, rkE] at e5
          first | exact absurd e5.1 (by assumption) | (have := congrArg List.length e5.2; omega)))
    | skip
  all_goals trace_state
end Go.DL
