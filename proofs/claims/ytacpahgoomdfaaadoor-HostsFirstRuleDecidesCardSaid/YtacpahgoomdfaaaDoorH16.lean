/- Hosts: Check and its faults. No condition. -/
import Derived.Test.YtacpahgoomdfaaaDoorH15
set_option linter.unusedVariables false
set_option linter.unusedSimpArgs false
set_option maxHeartbeats 4000000
namespace Go.DL
open Go.Proofs

def psG : List Pl → List Pl → Int × Int
  | pre, [] => (0, 0)
  | pre, p :: r => if pF p ≠ (0, 0) then ((pF p).1, (pre.length : Int)) else if pre.any (isD p.d) = true then (7, (pre.length : Int)) else psG (pre ++ [p]) r
def psF (l : List Pl) (dom host : ByteArray) : Int × Int := if 60 < l.length then (2, -1) else if psG [] l ≠ (0, 0) then psG [] l else if nmB dom = false then (10, -2) else if nmB host = false then (10, -3) else (0, 0)
def chkA (l : List Pl) (dom host : ByteArray) : Int × (Int × Int) := if psF l dom host ≠ (0, 0) then (0, psF l dom host) else ((hresF l host 10 dom 0).1, (0, 0))
theorem rF_range (x : Rl) : rF x = 0 ∨ rF x = 3 ∨ rF x = 4 ∨ rF x = 5 ∨ rF x = 10 := by
  unfold rF
  (repeat' split) <;> simp
theorem pF_0 {p : Pl} (h : (pF p).1 = 0) : pF p = (0, 0) := by
  unfold pF at h ⊢
  split
  · rename_i h1; rw [if_pos h1] at h; simp at h
  · rename_i h1
    rw [if_neg h1] at h
    split
    · rename_i h2; rw [if_pos h2] at h; simp at h
    · rename_i h2; rw [if_neg h2] at h; exact vfl_ne _ _ _ h
theorem psG_bad {l : List Pl} {k : Nat} {p : Pl} (hp : l[k]? = some p) (h : pF p ≠ (0, 0)) : psG (l.take k) (l.drop k) = ((pF p).1, (k : Int)) := by
  rw [drop_get' hp]; unfold psG; rw [if_pos h]
  simp; have := lt_get hp; omega
theorem psG_dup {l : List Pl} {k : Nat} {p : Pl} (hp : l[k]? = some p) (h : pF p = (0, 0)) (hd : (l.take k).any (isD p.d) = true) : psG (l.take k) (l.drop k) = (7, (k : Int)) := by
  rw [drop_get' hp]; unfold psG; rw [if_neg (by simp [h]), if_pos hd]
  simp; have := lt_get hp; omega
theorem psG_next {l : List Pl} {k : Nat} {p : Pl} (hp : l[k]? = some p) (h : pF p = (0, 0)) (hd : (l.take k).any (isD p.d) = false) : psG (l.take k) (l.drop k) = psG (l.take (k + 1)) (l.drop (k + 1)) := by
  rw [drop_get' hp]; conv => lhs; unfold psG
  rw [if_neg (by simp [h]), if_neg (by simp [hd]), take_get hp]
theorem psG_end {l : List Pl} {k : Nat} (h : l.length ≤ k) : psG (l.take k) (l.drop k) = (0, 0) := by
  rw [List.drop_eq_nil_of_le h]; rfl
theorem psG_ok : ∀ {r pre : List Pl}, psG pre r = (0, 0) → ∀ p ∈ r, pF p = (0, 0)
  | [], _, _, p, hp => by cases hp
  | q :: r, pre, h, p, hp => by
    unfold psG at h
    split at h
    · rename_i h1
      injection h with h2
      exact absurd (pF_0 h2) h1
    · rename_i h1
      split at h
      · simp at h
      · rcases List.mem_cons.1 hp with rfl | hp
        · simpa using h1
        · exact psG_ok h p hp
theorem psF_many {l : List Pl} {dom host : ByteArray} (h : 60 < l.length) : psF l dom host = (2, -1) := by unfold psF; rw [if_pos h]
theorem psF_bad {l : List Pl} {dom host : ByteArray} (h : ¬ 60 < l.length) (h2 : psG [] l ≠ (0, 0)) : psF l dom host = psG [] l := by unfold psF; rw [if_neg h, if_pos h2]
theorem psF_dom {l : List Pl} {dom host : ByteArray} (h : ¬ 60 < l.length) (h2 : psG [] l = (0, 0)) (h3 : nmB dom = false) : psF l dom host = (10, -2) := by unfold psF; rw [if_neg h, if_neg (by simp [h2]), if_pos h3]
theorem psF_host {l : List Pl} {dom host : ByteArray} (h : ¬ 60 < l.length) (h2 : psG [] l = (0, 0)) (h3 : nmB dom = true) (h4 : nmB host = false) : psF l dom host = (10, -3) := by unfold psF; rw [if_neg h, if_neg (by simp [h2]), if_neg (by simp [h3]), if_pos h4]
theorem psF_ok {l : List Pl} {dom host : ByteArray} (h : ¬ 60 < l.length) (h2 : psG [] l = (0, 0)) (h3 : nmB dom = true) (h4 : nmB host = true) : psF l dom host = (0, 0) := by unfold psF; rw [if_neg h, if_neg (by simp [h2]), if_neg (by simp [h3]), if_neg (by simp [h4])]
def chV (a : Int × (Int × Int)) : V := .tup [.int .i64 a.1, fv a.2]
theorem pF_ne {p : Pl} (h : ¬ pF p = (0, 0)) : (!((pF p).1 == 0 && ((pF p).2 == 0 && true))) = true := by
  cases e : (!((pF p).1 == 0 && ((pF p).2 == 0 && true))) with
  | true => rfl
  | false => exact absurd (by simp at e; exact Prod.ext e.1 e.2) h
theorem c_ContR (z : Bool) (l : List Pl) (p : Pl) (k : Nat) (hk : k ≤ 1000000) : CallV tab 30 [.sl 2 z (List.drop 0 (List.take k (l.map Pl.row))), .fn 31 [.iptr p.row]] (· = .bool ((l.take k).any (isD p.d))) := by
  have := c_Cont z (l.take k) p (by rw [List.length_take]; omega)
  rw [List.drop_zero, ← List.map_take]; exact this
theorem c_Check (z : Bool) (l : List Pl) (dom host : ByteArray) : CallV tab 13 [pls z l, .str dom, .str host] (· = chV (chkA l dom host)) := by
  have h1 := c_named dom
  have h2 := c_named host
  by_cases hl : 60 < l.length
  · have dl : decide ((((l.map Pl.row).length : Nat) : Int) > 60) = true := by simp; omega
    have e : chkA l dom host = (0, (2, -1)) := by unfold chkA; rw [psF_many hl]; rfl
    rw [e]
    refine callV_of Tryd.func13 rfl (Nat.le_of_ble_eq_true rfl) (by kernel_rfl) ?_
    repeat' first
      | (apply Br.id; first
      | (apply Br.tt; try conv => whnf)
      | (apply Br.ff; try conv => whnf)
      | (refine Br.of_t (by assumption) ?_; conv => whnf)
      | (refine Br.of_f (by assumption) ?_; conv => whnf)
      | (refine Br.mk (fun _ => ?_) (fun _ => ?_) <;> try conv => whnf))
      | (apply CallOp.id; first
      | (refine call_at rfl rfl rfl rfl rfl ?_)
      | (refine call_rd rfl rfl rfl rfl rfl ?_)
      | (refine CallOp.std ?_; (conv => whnf); fail_if_success refine (?_ : False)))
      | (apply CallDet.id; first
      | (refine call_atD rfl rfl rfl rfl rfl ?_)
      | (refine call_rdD rfl rfl rfl rfl rfl ?_)
      | (refine CallDet.std ?_; (conv => whnf); fail_if_success refine (?_ : False)))
      | (refine EndOk.mk (by kernel_rfl) ?_; conv => whnf)
      | (refine And.intro (by (first | decide | exact trivial | omega | exact Nat.le_refl _ | (((try simp only [decide_eq_true_eq, decide_eq_false_iff_not, cond_true, cond_false, beq_iff_eq, beq_eq_false_iff_ne, bne_iff_ne, bne_eq_false_iff_eq, ne_eq, Bool.not_eq_true', Bool.not_eq_false', Bool.not_eq_eq_eq_not, Bool.not_true, Bool.not_false, sLe_eq, Bool.and_eq_true, Bool.and_eq_false_iff, List.length_map, List.length_set, List.length_append, List.length_take, List.length_drop, List.length_replicate, List.length_cons, List.length_nil, lenMax, capMax, Int.toNat_natCast, gt_iff_lt, ge_iff_le] at *); (try simp (disch := omega) only [wr, wru, shr1, Int.tdiv_eq_ediv_of_nonneg] at *)); omega) | (((try simp only [decide_eq_true_eq, decide_eq_false_iff_not, cond_true, cond_false, beq_iff_eq, beq_eq_false_iff_ne, bne_iff_ne, bne_eq_false_iff_eq, ne_eq, Bool.not_eq_true', Bool.not_eq_false', Bool.not_eq_eq_eq_not, Bool.not_true, Bool.not_false, sLe_eq, Bool.and_eq_true, Bool.and_eq_false_iff, List.length_map, List.length_set, List.length_append, List.length_take, List.length_drop, List.length_replicate, List.length_cons, List.length_nil, lenMax, capMax, Int.toNat_natCast, gt_iff_lt, ge_iff_le] at *); (try simp (disch := omega) only [wr, wru, shr1, Int.tdiv_eq_ediv_of_nonneg] at *)); assumption))) ?_; conv => whnf)
      | (refine idxOld (by assumption) ?_; conv => whnf)
      | (refine idxMap (by (first | decide | exact trivial | omega | exact Nat.le_refl _ | (((try simp only [decide_eq_true_eq, decide_eq_false_iff_not, cond_true, cond_false, beq_iff_eq, beq_eq_false_iff_ne, bne_iff_ne, bne_eq_false_iff_eq, ne_eq, Bool.not_eq_true', Bool.not_eq_false', Bool.not_eq_eq_eq_not, Bool.not_true, Bool.not_false, sLe_eq, Bool.and_eq_true, Bool.and_eq_false_iff, List.length_map, List.length_set, List.length_append, List.length_take, List.length_drop, List.length_replicate, List.length_cons, List.length_nil, lenMax, capMax, Int.toNat_natCast, gt_iff_lt, ge_iff_le] at *); (try simp (disch := omega) only [wr, wru, shr1, Int.tdiv_eq_ediv_of_nonneg] at *)); omega) | (((try simp only [decide_eq_true_eq, decide_eq_false_iff_not, cond_true, cond_false, beq_iff_eq, beq_eq_false_iff_ne, bne_iff_ne, bne_eq_false_iff_eq, ne_eq, Bool.not_eq_true', Bool.not_eq_false', Bool.not_eq_eq_eq_not, Bool.not_true, Bool.not_false, sLe_eq, Bool.and_eq_true, Bool.and_eq_false_iff, List.length_map, List.length_set, List.length_append, List.length_take, List.length_drop, List.length_replicate, List.length_cons, List.length_nil, lenMax, capMax, Int.toNat_natCast, gt_iff_lt, ge_iff_le] at *); (try simp (disch := omega) only [wr, wru, shr1, Int.tdiv_eq_ediv_of_nonneg] at *)); assumption))) (fun _ _ => ?_); conv => whnf)
      | refine Exists.intro _ (And.intro (DV_toV rfl) ?_)
      | (refine rowSet (by (first | decide | exact trivial | omega | exact Nat.le_refl _ | (((try simp only [decide_eq_true_eq, decide_eq_false_iff_not, cond_true, cond_false, beq_iff_eq, beq_eq_false_iff_ne, bne_iff_ne, bne_eq_false_iff_eq, ne_eq, Bool.not_eq_true', Bool.not_eq_false', Bool.not_eq_eq_eq_not, Bool.not_true, Bool.not_false, sLe_eq, Bool.and_eq_true, Bool.and_eq_false_iff, List.length_map, List.length_set, List.length_append, List.length_take, List.length_drop, List.length_replicate, List.length_cons, List.length_nil, lenMax, capMax, Int.toNat_natCast, gt_iff_lt, ge_iff_le] at *); (try simp (disch := omega) only [wr, wru, shr1, Int.tdiv_eq_ediv_of_nonneg] at *)); omega) | (((try simp only [decide_eq_true_eq, decide_eq_false_iff_not, cond_true, cond_false, beq_iff_eq, beq_eq_false_iff_ne, bne_iff_ne, bne_eq_false_iff_eq, ne_eq, Bool.not_eq_true', Bool.not_eq_false', Bool.not_eq_eq_eq_not, Bool.not_true, Bool.not_false, sLe_eq, Bool.and_eq_true, Bool.and_eq_false_iff, List.length_map, List.length_set, List.length_append, List.length_take, List.length_drop, List.length_replicate, List.length_cons, List.length_nil, lenMax, capMax, Int.toNat_natCast, gt_iff_lt, ge_iff_le] at *); (try simp (disch := omega) only [wr, wru, shr1, Int.tdiv_eq_ediv_of_nonneg] at *)); assumption))) ?_; conv => whnf)
      | (refine rowOld (by assumption) ?_; conv => whnf)
      | (refine rowNew (by (first | decide | exact trivial | omega | exact Nat.le_refl _ | (((try simp only [decide_eq_true_eq, decide_eq_false_iff_not, cond_true, cond_false, beq_iff_eq, beq_eq_false_iff_ne, bne_iff_ne, bne_eq_false_iff_eq, ne_eq, Bool.not_eq_true', Bool.not_eq_false', Bool.not_eq_eq_eq_not, Bool.not_true, Bool.not_false, sLe_eq, Bool.and_eq_true, Bool.and_eq_false_iff, List.length_map, List.length_set, List.length_append, List.length_take, List.length_drop, List.length_replicate, List.length_cons, List.length_nil, lenMax, capMax, Int.toNat_natCast, gt_iff_lt, ge_iff_le] at *); (try simp (disch := omega) only [wr, wru, shr1, Int.tdiv_eq_ediv_of_nonneg] at *)); omega) | (((try simp only [decide_eq_true_eq, decide_eq_false_iff_not, cond_true, cond_false, beq_iff_eq, beq_eq_false_iff_ne, bne_iff_ne, bne_eq_false_iff_eq, ne_eq, Bool.not_eq_true', Bool.not_eq_false', Bool.not_eq_eq_eq_not, Bool.not_true, Bool.not_false, sLe_eq, Bool.and_eq_true, Bool.and_eq_false_iff, List.length_map, List.length_set, List.length_append, List.length_take, List.length_drop, List.length_replicate, List.length_cons, List.length_nil, lenMax, capMax, Int.toNat_natCast, gt_iff_lt, ge_iff_le] at *); (try simp (disch := omega) only [wr, wru, shr1, Int.tdiv_eq_ediv_of_nonneg] at *)); assumption))) (fun _ _ => ?_); conv => whnf)
      | (apply WpD.id; first
      | (refine WpD.walk rfl ?_; conv => whnf))
    all_goals rfl
  · have dl : decide ((((l.map Pl.row).length : Nat) : Int) > 60) = false := by simp; omega
    refine callV_of Tryd.func13 rfl (Nat.le_of_ble_eq_true rfl) (by kernel_rfl) ?_
    repeat' first
      | (apply Br.id; first
      | (apply Br.tt; try conv => whnf)
      | (apply Br.ff; try conv => whnf)
      | (refine Br.of_t (by assumption) ?_; conv => whnf)
      | (refine Br.of_f (by assumption) ?_; conv => whnf)
      | (refine Br.mk (fun _ => ?_) (fun _ => ?_) <;> try conv => whnf))
      | (apply CallOp.id; first
      | (refine call_inw 1 hres rfl rfl rfl rfl rfl rfl (obLe_v rfl) (fun r0 y0 hq0 => ?_); obtain ⟨rfl, rfl⟩ := hq0; conv => whnf)
      | (refine call_inwD 1 hres rfl rfl rfl rfl rfl rfl (obLe_v rfl) ?_; conv => whnf)
      | (refine call_at rfl rfl rfl rfl rfl ?_)
      | (refine call_rd rfl rfl rfl rfl rfl ?_)
      | (refine CallOp.std ?_; (conv => whnf); fail_if_success refine (?_ : False)))
      | (apply CallDet.id; first
      | (refine call_inw 1 hres rfl rfl rfl rfl rfl rfl (obLe_v rfl) (fun r0 y0 hq0 => ?_); obtain ⟨rfl, rfl⟩ := hq0; conv => whnf)
      | (refine call_inwD 1 hres rfl rfl rfl rfl rfl rfl (obLe_v rfl) ?_; conv => whnf)
      | (refine call_atD rfl rfl rfl rfl rfl ?_)
      | (refine call_rdD rfl rfl rfl rfl rfl ?_)
      | (refine CallDet.std ?_; (conv => whnf); fail_if_success refine (?_ : False)))
      | (apply CallAt.id; first
      | (apply CallAt.mk1 (h1); conv => whnf)
      | (apply CallAt.mk1 (h2); conv => whnf)
      | (apply CallAt.mk1 (hv); conv => whnf))
      | (apply CallRd.id; first
      | (apply CallRd.mk1 (h1); (· rfl); conv => whnf)
      | (apply CallRd.mk1 (h2); (· rfl); conv => whnf)
      | (apply CallRd.mk1 (hv); (· rfl); conv => whnf)
      | (apply CallRd.mk1 hC; (· rfl); conv => whnf))
      | (refine EndOk.mk (by kernel_rfl) ?_; conv => whnf)
      | (refine And.intro (by (first | decide | exact trivial | omega | exact Nat.le_refl _ | (((try simp only [decide_eq_true_eq, decide_eq_false_iff_not, cond_true, cond_false, beq_iff_eq, beq_eq_false_iff_ne, bne_iff_ne, bne_eq_false_iff_eq, ne_eq, Bool.not_eq_true', Bool.not_eq_false', Bool.not_eq_eq_eq_not, Bool.not_true, Bool.not_false, sLe_eq, Bool.and_eq_true, Bool.and_eq_false_iff, List.length_map, List.length_set, List.length_append, List.length_take, List.length_drop, List.length_replicate, List.length_cons, List.length_nil, lenMax, capMax, Int.toNat_natCast, gt_iff_lt, ge_iff_le] at *); (try simp (disch := omega) only [wr, wru, shr1, Int.tdiv_eq_ediv_of_nonneg] at *)); omega) | (((try simp only [decide_eq_true_eq, decide_eq_false_iff_not, cond_true, cond_false, beq_iff_eq, beq_eq_false_iff_ne, bne_iff_ne, bne_eq_false_iff_eq, ne_eq, Bool.not_eq_true', Bool.not_eq_false', Bool.not_eq_eq_eq_not, Bool.not_true, Bool.not_false, sLe_eq, Bool.and_eq_true, Bool.and_eq_false_iff, List.length_map, List.length_set, List.length_append, List.length_take, List.length_drop, List.length_replicate, List.length_cons, List.length_nil, lenMax, capMax, Int.toNat_natCast, gt_iff_lt, ge_iff_le] at *); (try simp (disch := omega) only [wr, wru, shr1, Int.tdiv_eq_ediv_of_nonneg] at *)); assumption))) ?_; conv => whnf)
      | (refine idxOld (by assumption) ?_; conv => whnf)
      | (refine idxMap (by (first | decide | exact trivial | omega | exact Nat.le_refl _ | (((try simp only [decide_eq_true_eq, decide_eq_false_iff_not, cond_true, cond_false, beq_iff_eq, beq_eq_false_iff_ne, bne_iff_ne, bne_eq_false_iff_eq, ne_eq, Bool.not_eq_true', Bool.not_eq_false', Bool.not_eq_eq_eq_not, Bool.not_true, Bool.not_false, sLe_eq, Bool.and_eq_true, Bool.and_eq_false_iff, List.length_map, List.length_set, List.length_append, List.length_take, List.length_drop, List.length_replicate, List.length_cons, List.length_nil, lenMax, capMax, Int.toNat_natCast, gt_iff_lt, ge_iff_le] at *); (try simp (disch := omega) only [wr, wru, shr1, Int.tdiv_eq_ediv_of_nonneg] at *)); omega) | (((try simp only [decide_eq_true_eq, decide_eq_false_iff_not, cond_true, cond_false, beq_iff_eq, beq_eq_false_iff_ne, bne_iff_ne, bne_eq_false_iff_eq, ne_eq, Bool.not_eq_true', Bool.not_eq_false', Bool.not_eq_eq_eq_not, Bool.not_true, Bool.not_false, sLe_eq, Bool.and_eq_true, Bool.and_eq_false_iff, List.length_map, List.length_set, List.length_append, List.length_take, List.length_drop, List.length_replicate, List.length_cons, List.length_nil, lenMax, capMax, Int.toNat_natCast, gt_iff_lt, ge_iff_le] at *); (try simp (disch := omega) only [wr, wru, shr1, Int.tdiv_eq_ediv_of_nonneg] at *)); assumption))) (fun _ _ => ?_); conv => whnf)
      | refine Exists.intro _ (And.intro (DV_toV rfl) ?_)
      | (refine rowSet (by (first | decide | exact trivial | omega | exact Nat.le_refl _ | (((try simp only [decide_eq_true_eq, decide_eq_false_iff_not, cond_true, cond_false, beq_iff_eq, beq_eq_false_iff_ne, bne_iff_ne, bne_eq_false_iff_eq, ne_eq, Bool.not_eq_true', Bool.not_eq_false', Bool.not_eq_eq_eq_not, Bool.not_true, Bool.not_false, sLe_eq, Bool.and_eq_true, Bool.and_eq_false_iff, List.length_map, List.length_set, List.length_append, List.length_take, List.length_drop, List.length_replicate, List.length_cons, List.length_nil, lenMax, capMax, Int.toNat_natCast, gt_iff_lt, ge_iff_le] at *); (try simp (disch := omega) only [wr, wru, shr1, Int.tdiv_eq_ediv_of_nonneg] at *)); omega) | (((try simp only [decide_eq_true_eq, decide_eq_false_iff_not, cond_true, cond_false, beq_iff_eq, beq_eq_false_iff_ne, bne_iff_ne, bne_eq_false_iff_eq, ne_eq, Bool.not_eq_true', Bool.not_eq_false', Bool.not_eq_eq_eq_not, Bool.not_true, Bool.not_false, sLe_eq, Bool.and_eq_true, Bool.and_eq_false_iff, List.length_map, List.length_set, List.length_append, List.length_take, List.length_drop, List.length_replicate, List.length_cons, List.length_nil, lenMax, capMax, Int.toNat_natCast, gt_iff_lt, ge_iff_le] at *); (try simp (disch := omega) only [wr, wru, shr1, Int.tdiv_eq_ediv_of_nonneg] at *)); assumption))) ?_; conv => whnf)
      | (refine rowOld (by assumption) ?_; conv => whnf)
      | (refine rowNew (by (first | decide | exact trivial | omega | exact Nat.le_refl _ | (((try simp only [decide_eq_true_eq, decide_eq_false_iff_not, cond_true, cond_false, beq_iff_eq, beq_eq_false_iff_ne, bne_iff_ne, bne_eq_false_iff_eq, ne_eq, Bool.not_eq_true', Bool.not_eq_false', Bool.not_eq_eq_eq_not, Bool.not_true, Bool.not_false, sLe_eq, Bool.and_eq_true, Bool.and_eq_false_iff, List.length_map, List.length_set, List.length_append, List.length_take, List.length_drop, List.length_replicate, List.length_cons, List.length_nil, lenMax, capMax, Int.toNat_natCast, gt_iff_lt, ge_iff_le] at *); (try simp (disch := omega) only [wr, wru, shr1, Int.tdiv_eq_ediv_of_nonneg] at *)); omega) | (((try simp only [decide_eq_true_eq, decide_eq_false_iff_not, cond_true, cond_false, beq_iff_eq, beq_eq_false_iff_ne, bne_iff_ne, bne_eq_false_iff_eq, ne_eq, Bool.not_eq_true', Bool.not_eq_false', Bool.not_eq_eq_eq_not, Bool.not_true, Bool.not_false, sLe_eq, Bool.and_eq_true, Bool.and_eq_false_iff, List.length_map, List.length_set, List.length_append, List.length_take, List.length_drop, List.length_replicate, List.length_cons, List.length_nil, lenMax, capMax, Int.toNat_natCast, gt_iff_lt, ge_iff_le] at *); (try simp (disch := omega) only [wr, wru, shr1, Int.tdiv_eq_ediv_of_nonneg] at *)); assumption))) (fun _ _ => ?_); conv => whnf)
      | (apply WpD.id; first
      | (refine WpD.loopAt 18 rfl (fun k : Nat => ⟨[(0, .v (pls z l)), (1, .v (.str dom)), (2, .v (.str host)), (7, .ptr 0 0 0), (15, .v (pls z l)), (16, .v (.int .i64 l.length)), (17, .v (.int .i64 k))], [.arr 2 (vrows [[.int .i64 0, .int .i64 0]])], []⟩) (fun k => k ≤ l.length ∧ psG [] l = psG (l.take k) (l.drop k)) (fun k => l.length - k) ?_ (fun k hk => ?_); rotate_left; obtain ⟨hk1, hk2⟩ := hk; rcases Nat.lt_or_ge k l.length with hlt | hge; (obtain ⟨p, hp⟩ : ∃ p, l[k]? = some p := ⟨_, List.getElem?_eq_getElem hlt⟩); (have hp0 : l[((k : Nat) : Int).toNat]? = some p := hp); (have dk : decide ((k : Int) < (l.length : Int)) = true := by { simp; omega }); (have hv := c_Validate p); (by_cases hv0 : pF p = (0, 0)); (rw [hv0] at hv; have hC := c_ContR z l p k (by omega); cases hca : (l.take k).any (isD p.d) <;> rw [hca] at hC); rotate_left 2; (have dne := pF_ne hv0); rotate_left; (have dk : decide ((k : Int) < (l.length : Int)) = false := by { simp; omega }); (have hps : psG [] l = (0, 0) := hk2.trans (psG_end hge)); (have hok : ∀ p ∈ l, p.l.length ≤ 60 ∧ ∀ x ∈ p.l, okR1 x := fun p hp => (pF_ok (psG_ok hps p hp)).2); (cases hnd : nmB dom <;> rw [hnd] at h1); rotate_left; (cases hnh : nmB host <;> rw [hnh] at h2); rotate_left; (have hres := c_result z l host (by omega) hok (nmB_sz hnh) 10 dom 0 (by omega) (by omega) (by omega)); rotate_left)
      | (refine WpD.walk rfl ?_; conv => whnf))
    all_goals clear h1 h2
    all_goals try clear hv
    all_goals try clear hC
    all_goals try clear hres
    all_goals try simp only [Int.toNat_natCast]
    all_goals first
      | (refine ⟨0, [0], ⟨Nat.zero_le _, rfl⟩, ⟨by decide, rfl, ?_, ?_, rfl⟩⟩
         · (repeat' first | exact trivial | rfl | apply And.intro | (refine leInt rfl ?_; simp; done))
           done
         · exact ⟨obLe_v rfl, trivial⟩)
      | (refine ⟨k + 1, [0], ⟨by omega, by rw [hk2, psG_next hp hv0 hca]⟩, ⟨⟨by decide, rfl, ?_, ?_, rfl⟩, by omega⟩⟩
         · exact ⟨rfl, rfl, rfl, rfl, rfl, rfl, rfl, rfl, rfl, rfl, rfl, rfl, leInt rfl (wr (by omega) (by omega)), rfl, trivial⟩
         · exact ⟨obLe_v rfl, trivial⟩)
      | (have hq : psG [] l = (7, (k : Int)) := by rw [hk2, psG_dup hp hv0 hca]
         have e : chkA l dom host = (0, (7, (k : Int))) := by
           unfold chkA; rw [psF_bad hl (by rw [hq]; simp), hq]; rfl
         rw [e]; rfl)
      | (have hne : (pF p).1 ≠ 0 := fun e => hv0 (pF_0 e)
         have hq : psG [] l = ((pF p).1, (k : Int)) := by rw [hk2, psG_bad hp hv0]
         have e : chkA l dom host = (0, ((pF p).1, (k : Int))) := by
           unfold chkA; rw [psF_bad hl (by rw [hq]; simp [hne]), hq, if_pos (by simp [hne])]
         rw [e]; rfl)
      | (have e : chkA l dom host = (0, (10, -2)) := by unfold chkA; rw [psF_dom hl hps hnd]; rfl
         rw [e]; rfl)
      | (have e : chkA l dom host = (0, (10, -3)) := by unfold chkA; rw [psF_host hl hps hnd hnh]; rfl
         rw [e]; rfl)
      | (have e : chkA l dom host = ((hresF l host 10 dom 0).1, (0, 0)) := by unfold chkA; rw [psF_ok hl hps hnd hnh]; rfl
         rw [e]; rfl)
end Go.DL
