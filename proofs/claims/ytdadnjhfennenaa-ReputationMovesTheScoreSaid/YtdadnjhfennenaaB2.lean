import Derived.Test.YtdadnjhfennenaaB1
set_option linter.unusedVariables false
set_option linter.unusedSimpArgs false
set_option maxHeartbeats 4000000
namespace Go.DL
open Go.Proofs

structure Sd where
  n : ByteArray
  g : Int
  b : Int
  d : Int
deriving DecidableEq
def Sd.row (s : Sd) : List V := [.str s.n, .int .i64 s.g, .int .i64 s.b, .int .i64 s.d]
def sds (z : Bool) (l : List Sd) : V := .sl 4 z (l.map Sd.row)
theorem drop_get {α : Type} {l : List α} {k : Nat} {x : α} (h : l[k]? = some x) : l.drop k = x :: l.drop (k + 1) := by
  have hk : k < l.length := (List.getElem?_eq_some_iff.1 h).1
  rw [List.drop_eq_getElem_cons hk]; congr 1; exact (List.getElem?_eq_some_iff.1 h).2
def atF (s : ByteArray) : Nat → List Sd → Int
  | _, [] => -1
  | i, x :: r => if x.n = s then i else atF s (i + 1) r
theorem c_SenderAt (z : Bool) (l : List Sd) (s : ByteArray) (hl : l.length ≤ 1000000) : CallV tab 17 [sds z l, .str s] (· = .int .i64 (atF s 0 l)) := by
  refine callV_of Try.func17 rfl (Nat.le_of_ble_eq_true rfl) (by kernel_rfl) ?_
  repeat' first
    | (refine WpD.loop (fun k : Nat => ⟨[(0, .v (sds z l)), (1, .v (.str s)), (5, .v (.int .i64 k))], [], []⟩) (fun k => k ≤ l.length ∧ atF s 0 l = atF s k (l.drop k)) (fun k => l.length - k) ?_ (fun k hk => ?_))
    | (refine idxMap (by (first | decide | exact trivial | omega | exact Nat.le_refl _ | (((try simp only [decide_eq_true_eq, decide_eq_false_iff_not, cond_true, cond_false, beq_iff_eq, beq_eq_false_iff_ne, bne_iff_ne, bne_eq_false_iff_eq, ne_eq, Bool.not_eq_true', Bool.not_eq_false', Bool.not_eq_eq_eq_not, Bool.not_true, Bool.not_false, sLe_eq, Bool.and_eq_true, Bool.and_eq_false_iff, List.length_map, List.length_append, List.length_take, List.length_drop, List.length_replicate, List.length_cons, List.length_nil, lenMax, capMax, Int.toNat_natCast, gt_iff_lt, ge_iff_le] at *); (try simp (disch := omega) only [wr, wru, shr1, Int.tdiv_eq_ediv_of_nonneg] at *)); omega) | (((try simp only [decide_eq_true_eq, decide_eq_false_iff_not, cond_true, cond_false, beq_iff_eq, beq_eq_false_iff_ne, bne_iff_ne, bne_eq_false_iff_eq, ne_eq, Bool.not_eq_true', Bool.not_eq_false', Bool.not_eq_eq_eq_not, Bool.not_true, Bool.not_false, sLe_eq, Bool.and_eq_true, Bool.and_eq_false_iff, List.length_map, List.length_append, List.length_take, List.length_drop, List.length_replicate, List.length_cons, List.length_nil, lenMax, capMax, Int.toNat_natCast, gt_iff_lt, ge_iff_le] at *); (try simp (disch := omega) only [wr, wru, shr1, Int.tdiv_eq_ediv_of_nonneg] at *)); assumption))) (fun _ _ => ?_); conv => whnf)
    | refine WpD.seq ?_
    | (refine WpD.region ?_; conv => whnf)
    | (refine WpD.draw ?_; conv => whnf)
    | (refine EndOk.mk (by kernel_rfl) ?_; conv => whnf)
    | refine WpD.block ?_
    | (refine WpD.exit ?_; conv => whnf)
    | (refine WpD.skip ?_; conv => whnf)
    | (refine WpD.ret ?_; conv => whnf)
    | refine WpD.cond rfl ?_
    | (refine Br.tt ?_; try conv => whnf)
    | (refine Br.ff ?_; try conv => whnf)
    | (refine Br.of_t (by assumption) ?_; conv => whnf)
    | (refine Br.of_f (by assumption) ?_; conv => whnf)
    | (refine Br.mk (fun _ => ?_) (fun _ => ?_) <;> try conv => whnf)
    | refine Exists.intro _ (And.intro (DV_toV rfl) ?_)
    | (refine CallOp.std ?_; (conv => whnf); fail_if_success refine (?_ : False))
    | (refine CallDet.std ?_; (conv => whnf); fail_if_success refine (?_ : False))
    | (refine And.intro (by (first | decide | exact trivial | omega | exact Nat.le_refl _ | (((try simp only [decide_eq_true_eq, decide_eq_false_iff_not, cond_true, cond_false, beq_iff_eq, beq_eq_false_iff_ne, bne_iff_ne, bne_eq_false_iff_eq, ne_eq, Bool.not_eq_true', Bool.not_eq_false', Bool.not_eq_eq_eq_not, Bool.not_true, Bool.not_false, sLe_eq, Bool.and_eq_true, Bool.and_eq_false_iff, List.length_map, List.length_append, List.length_take, List.length_drop, List.length_replicate, List.length_cons, List.length_nil, lenMax, capMax, Int.toNat_natCast, gt_iff_lt, ge_iff_le] at *); (try simp (disch := omega) only [wr, wru, shr1, Int.tdiv_eq_ediv_of_nonneg] at *)); omega) | (((try simp only [decide_eq_true_eq, decide_eq_false_iff_not, cond_true, cond_false, beq_iff_eq, beq_eq_false_iff_ne, bne_iff_ne, bne_eq_false_iff_eq, ne_eq, Bool.not_eq_true', Bool.not_eq_false', Bool.not_eq_eq_eq_not, Bool.not_true, Bool.not_false, sLe_eq, Bool.and_eq_true, Bool.and_eq_false_iff, List.length_map, List.length_append, List.length_take, List.length_drop, List.length_replicate, List.length_cons, List.length_nil, lenMax, capMax, Int.toNat_natCast, gt_iff_lt, ge_iff_le] at *); (try simp (disch := omega) only [wr, wru, shr1, Int.tdiv_eq_ediv_of_nonneg] at *)); assumption))) ?_; conv => whnf)
  · refine ⟨0, [], ⟨Nat.zero_le _, rfl⟩, ⟨by decide, rfl, ?_, trivial, rfl⟩⟩
    (repeat' first | exact trivial | rfl | apply And.intro | (refine leInt rfl ?_; first | omega | (dsimp only; omega)) | (refine leArr rfl ?_ rfl; (simp; try omega)) | (refine leBool rfl ?_; assumption))
  all_goals ((try simp only [decide_eq_true_eq, decide_eq_false_iff_not, cond_true, cond_false, beq_iff_eq, beq_eq_false_iff_ne, bne_iff_ne, bne_eq_false_iff_eq, ne_eq, Bool.not_eq_true', Bool.not_eq_false', Bool.not_eq_eq_eq_not, Bool.not_true, Bool.not_false, sLe_eq, Bool.and_eq_true, Bool.and_eq_false_iff, List.length_map, List.length_append, List.length_take, List.length_drop, List.length_replicate, List.length_cons, List.length_nil, lenMax, capMax, Int.toNat_natCast, gt_iff_lt, ge_iff_le] at *); (try simp (disch := omega) only [wr, wru, shr1, Int.tdiv_eq_ediv_of_nonneg] at *))
  all_goals rcases hk with ⟨hk, hi⟩
  · rename_i x hx _ hn
    rw [hi, drop_get hx, atF, if_pos hn]
  · rename_i x hx _ hn
    refine ⟨k + 1, [], ⟨by omega, ?_⟩, ⟨⟨by decide, rfl, ?_, trivial, rfl⟩, by omega⟩⟩
    · rw [hi, drop_get hx, atF, if_neg hn]
    · (repeat' first | exact trivial | rfl | apply And.intro | (refine leInt rfl ?_; first | omega | (dsimp only; omega)) | (refine leArr rfl ?_ rfl; (simp; try omega)) | (refine leBool rfl ?_; assumption))
  · have : k = l.length := by omega
    rw [hi, this, List.drop_length]; rfl
def rOk (x : Sd) : Prop := 0 ≤ x.g ∧ x.g ≤ 1000000 ∧ 0 ≤ x.b ∧ x.b ≤ 1000000 ∧ -795365 ≤ x.d ∧ x.d ≤ 795365
instance (x : Sd) : Decidable (rOk x) := by unfold rOk; infer_instance
def nOk (s : ByteArray) : Prop := 1 ≤ s.size ∧ s.size ≤ 4000
instance (x : ByteArray) : Decidable (nOk x) := by unfold nOk; infer_instance
def oOk : Option Sd → Sd → Bool
  | none, _ => true
  | some p, x => sLt p.n x.n
def flt : Nat → Option Sd → List Sd → Int × Int
  | _, _, [] => (0, 0)
  | i, p, x :: r => if ¬ nOk x.n then (10, i) else if ¬ rOk x then (3, i) else if oOk p x = false then (19, i) else flt (i + 1) (some x) r
def sFault (l : List Sd) : Int × Int := if 300 < l.length then (2, -1) else flt 0 none l
def fv (f : Int × Int) : V := .agg [.int .i64 f.1, .int .i64 f.2]
def prevOf (l : List Sd) (k : Nat) : Option Sd := if k = 0 then none else l[((k : Int) - 1).toNat]?
theorem oOk_t {l : List Sd} {k : Nat} {x y : Sd} {b : Bool} (h : 0 < (k : Int)) (hy : l[((k : Int) - 1).toNat]? = some y) (hs : sLt y.n x.n = b) : oOk (prevOf l k) x = b := by
  unfold prevOf; rw [if_neg (by omega), hy]; exact hs
theorem oOk_0 {l : List Sd} {k : Nat} {x : Sd} (h : ¬ 0 < (k : Int)) : oOk (prevOf l k) x = true := by
  unfold prevOf; rw [if_pos (by omega)]; rfl
theorem prev_succ {l : List Sd} {k : Nat} {x : Sd} (h : l[k]? = some x) : prevOf l (k + 1) = some x := by
  unfold prevOf; rw [if_neg (by omega)]; rw [show ((k + 1 : Nat) : Int) - 1 = k by omega, Int.toNat_natCast, h]
theorem fvEq {f : Int × Int} {a b : Int} (h : f = (a, b)) : V.agg [.int .i64 a, .int .i64 b] = fv f := by rw [h]; rfl
theorem c_Validate (z : Bool) (l : List Sd) : CallV tab 14 [sds z l] (· = fv (sFault l)) := by
  refine callV_of Try.func14 rfl (Nat.le_of_ble_eq_true rfl) (by kernel_rfl) ?_
  repeat' first
    | (refine WpD.loop (fun k : Nat => ⟨[(0, .v (sds z l)), (2, .ptr 0 0 0), (3, .v (.int .i64 795365)), (10, .v (sds z l)), (11, .v (.int .i64 l.length)), (12, .v (.int .i64 k))], [.arr 2 [[.v (.int .i64 0), .v (.int .i64 0)]]], []⟩) (fun k => k ≤ l.length ∧ l.length ≤ 300 ∧ flt 0 none l = flt k (prevOf l k) (l.drop k)) (fun k => l.length - k) ?_ (fun k hk => ?_))
    | (refine call_pure (c_named _) rfl rfl rfl rfl rfl (fun r h => ?_); subst h; conv => whnf)
    | (refine idxMap (by (first | decide | exact trivial | omega | exact Nat.le_refl _ | (((try simp only [decide_eq_true_eq, decide_eq_false_iff_not, cond_true, cond_false, beq_iff_eq, beq_eq_false_iff_ne, bne_iff_ne, bne_eq_false_iff_eq, ne_eq, Bool.not_eq_true', Bool.not_eq_false', Bool.not_eq_eq_eq_not, Bool.not_true, Bool.not_false, sLe_eq, Bool.and_eq_true, Bool.and_eq_false_iff, List.length_map, List.length_append, List.length_take, List.length_drop, List.length_replicate, List.length_cons, List.length_nil, lenMax, capMax, Int.toNat_natCast, gt_iff_lt, ge_iff_le] at *); (try simp (disch := omega) only [wr, wru, shr1, Int.tdiv_eq_ediv_of_nonneg] at *)); omega) | (((try simp only [decide_eq_true_eq, decide_eq_false_iff_not, cond_true, cond_false, beq_iff_eq, beq_eq_false_iff_ne, bne_iff_ne, bne_eq_false_iff_eq, ne_eq, Bool.not_eq_true', Bool.not_eq_false', Bool.not_eq_eq_eq_not, Bool.not_true, Bool.not_false, sLe_eq, Bool.and_eq_true, Bool.and_eq_false_iff, List.length_map, List.length_append, List.length_take, List.length_drop, List.length_replicate, List.length_cons, List.length_nil, lenMax, capMax, Int.toNat_natCast, gt_iff_lt, ge_iff_le] at *); (try simp (disch := omega) only [wr, wru, shr1, Int.tdiv_eq_ediv_of_nonneg] at *)); assumption))) (fun _ _ => ?_); conv => whnf)
    | refine WpD.seq ?_
    | (refine WpD.region ?_; conv => whnf)
    | (refine WpD.draw ?_; conv => whnf)
    | (refine EndOk.mk (by kernel_rfl) ?_; conv => whnf)
    | refine WpD.block ?_
    | (refine WpD.exit ?_; conv => whnf)
    | (refine WpD.skip ?_; conv => whnf)
    | (refine WpD.ret ?_; conv => whnf)
    | refine WpD.cond rfl ?_
    | (refine Br.tt ?_; try conv => whnf)
    | (refine Br.ff ?_; try conv => whnf)
    | (refine Br.of_t (by assumption) ?_; conv => whnf)
    | (refine Br.of_f (by assumption) ?_; conv => whnf)
    | (refine Br.mk (fun _ => ?_) (fun _ => ?_) <;> try conv => whnf)
    | refine Exists.intro _ (And.intro (DV_toV rfl) ?_)
    | (refine CallOp.std ?_; (conv => whnf); fail_if_success refine (?_ : False))
    | (refine CallDet.std ?_; (conv => whnf); fail_if_success refine (?_ : False))
    | (refine And.intro (by (first | decide | exact trivial | omega | exact Nat.le_refl _ | (((try simp only [decide_eq_true_eq, decide_eq_false_iff_not, cond_true, cond_false, beq_iff_eq, beq_eq_false_iff_ne, bne_iff_ne, bne_eq_false_iff_eq, ne_eq, Bool.not_eq_true', Bool.not_eq_false', Bool.not_eq_eq_eq_not, Bool.not_true, Bool.not_false, sLe_eq, Bool.and_eq_true, Bool.and_eq_false_iff, List.length_map, List.length_append, List.length_take, List.length_drop, List.length_replicate, List.length_cons, List.length_nil, lenMax, capMax, Int.toNat_natCast, gt_iff_lt, ge_iff_le] at *); (try simp (disch := omega) only [wr, wru, shr1, Int.tdiv_eq_ediv_of_nonneg] at *)); omega) | (((try simp only [decide_eq_true_eq, decide_eq_false_iff_not, cond_true, cond_false, beq_iff_eq, beq_eq_false_iff_ne, bne_iff_ne, bne_eq_false_iff_eq, ne_eq, Bool.not_eq_true', Bool.not_eq_false', Bool.not_eq_eq_eq_not, Bool.not_true, Bool.not_false, sLe_eq, Bool.and_eq_true, Bool.and_eq_false_iff, List.length_map, List.length_append, List.length_take, List.length_drop, List.length_replicate, List.length_cons, List.length_nil, lenMax, capMax, Int.toNat_natCast, gt_iff_lt, ge_iff_le] at *); (try simp (disch := omega) only [wr, wru, shr1, Int.tdiv_eq_ediv_of_nonneg] at *)); assumption))) ?_; conv => whnf)
  all_goals ((try simp only [decide_eq_true_eq, decide_eq_false_iff_not, cond_true, cond_false, beq_iff_eq, beq_eq_false_iff_ne, bne_iff_ne, bne_eq_false_iff_eq, ne_eq, Bool.not_eq_true', Bool.not_eq_false', Bool.not_eq_eq_eq_not, Bool.not_true, Bool.not_false, sLe_eq, Bool.and_eq_true, Bool.and_eq_false_iff, List.length_map, List.length_append, List.length_take, List.length_drop, List.length_replicate, List.length_cons, List.length_nil, lenMax, capMax, Int.toNat_natCast, gt_iff_lt, ge_iff_le] at *); (try simp (disch := omega) only [wr, wru, shr1, Int.tdiv_eq_ediv_of_nonneg] at *))
  · refine fvEq ?_; rw [sFault, if_pos (by omega)]
  · refine ⟨0, [0], ⟨Nat.zero_le _, by omega, rfl⟩, ⟨by decide, rfl, ?_, ?_, rfl⟩⟩
    (repeat' first | exact trivial | rfl | apply And.intro | (refine leInt rfl ?_; first | omega | (dsimp only; omega)) | (refine leArr rfl ?_ rfl; (simp; try omega)) | (refine leBool rfl ?_; assumption))
    (repeat' first | exact trivial | rfl | apply And.intro | (refine leInt rfl ?_; first | omega | (dsimp only; omega)) | (refine leArr rfl ?_ rfl; (simp; try omega)) | (refine leBool rfl ?_; assumption))
  all_goals try rcases hk with ⟨hk, h300, hi⟩
  all_goals try rename l[k]? = some _ => hx
  all_goals try rw [drop_get hx] at hi
  all_goals first
    | (refine fvEq ?_
       rw [sFault, if_neg (by omega), hi]
       simp only [flt]
       repeat first | rw [if_pos (by simp only [nOk, rOk]; omega)] | rw [if_neg (by simp only [nOk, rOk]; omega)]
       done)
    | (refine fvEq ?_
       rw [sFault, if_neg (by omega), hi]
       simp only [flt]
       repeat first | rw [if_pos (by simp only [nOk, rOk]; omega)] | rw [if_neg (by simp only [nOk, rOk]; omega)]
       rw [if_pos (oOk_t ‹_› ‹_› ‹_›)]
       done)
    | (refine ⟨k + 1, [0], ⟨by omega, by omega, ?_⟩, ⟨⟨by decide, rfl, ?_, ?_, rfl⟩, by omega⟩⟩
       · rw [hi]
         simp only [flt]
         repeat first | rw [if_pos (by simp only [nOk, rOk]; omega)] | rw [if_neg (by simp only [nOk, rOk]; omega)]
         rw [prev_succ hx]
         first | rw [if_neg (by rw [oOk_t ‹_› ‹_› ‹_›]; simp)] | rw [if_neg (by rw [oOk_0 ‹_›]; simp)]
       · (repeat' first | exact trivial | rfl | apply And.intro | (refine leInt rfl ?_; first | omega | (dsimp only; omega)) | (refine leArr rfl ?_ rfl; (simp; try omega)) | (refine leBool rfl ?_; assumption))
       · (repeat' first | exact trivial | rfl | apply And.intro | (refine leInt rfl ?_; first | omega | (dsimp only; omega)) | (refine leArr rfl ?_ rfl; (simp; try omega)) | (refine leBool rfl ?_; assumption)))
    | (refine fvEq ?_
       rw [sFault, if_neg (by omega), hi, show k = l.length by omega, List.drop_length]; rfl)
    | skip
  all_goals trace_state
end Go.DL
