import Derived.Test.YtdadnjhfennenaaB9
set_option linter.unusedVariables false
set_option linter.unusedSimpArgs false
set_option maxHeartbeats 4000000
namespace Go.DL
open Go.Proofs

section
variable {P : Program} {T : Tab P} {o : Oper} {E : Nat → Option D} {H : Nat → Ob} {nx : Nat} {K : KT} {c : Call} {f : FuncId}
theorem call_read1 {x : Operand} {ds caps : List D} {vargs : List V} {r0 : V} (hC : CallV T f vargs (· = r0)) (ho : o.op = .call c) (hc : c.callee = .value x) (hx : callee (ev T E 0 x) = some (f, caps)) (hargs : evL T E c.args.toList c.argTypes.toList = some ds) (hv : DVs H (ds ++ caps) vargs)
    (hflat : r0.flat = true) (hK : K (.v r0) [] []) : CallOp T o E H nx K := call_read hC ho hc hx hargs hv (fun r h => by rw [h]; exact hflat) fun r h => by rw [h]; exact hK
theorem call_readD {x : Operand} {ds caps : List D} {vargs : List V} {r0 : V} (hC : CallV T f vargs (· = r0)) (ho : o.op = .call c) (hc : c.callee = .value x) (hx : callee (ev T E 0 x) = some (f, caps)) (hargs : evL T E c.args.toList c.argTypes.toList = some ds) (hv : DVs H (ds ++ caps) vargs)
    (hflat : r0.flat = true) (hK : K (.v r0) [] []) : CallDet T o E H nx K := by
  refine CallDet.mk (nw := []) (d := .v r0) (ups := []) (by simp) ?_ hK
  have h := call_read_does (H := H) hC ho hc hx hargs hv (fun r h => by rw [h]; exact hflat)
  intro X ρ w a Q K r hn hK
  refine h X ρ w a Q K r hn ?_
  rintro d ups v w' X' ρ' ⟨e1, r', e2, e3⟩ st hcell hob
  exact hK d ups v w' X' ρ' ⟨by rw [e2, e3], e1⟩ st hcell hob
end
def sa : ByteArray := ⟨#[97]⟩
theorem nf_nil : nFault [] sa 0 = (0, 0) := by decide +kernel
theorem noted_nil : noted [] sa false 0 = [⟨sa, 1000, 0, 0⟩] := by decide +kernel
theorem af_one : aFault [⟨sa, 1000, 0, 0⟩] sa 0 = (0, 0) := by decide +kernel
theorem score_one : scoreF [⟨sa, 1000, 0, 0⟩] sa 0 = 500 := by decide +kernel
theorem c_reputed : CallV tab 19 [] (· = .bool true) := by
  have h1 := c_Note true [] sa false 0
  rw [noteR, nf_nil, if_pos rfl, noted_nil] at h1
  have h2 := c_Score false [⟨sa, 1000, 0, 0⟩] sa 0
  rw [af_one, if_pos rfl, score_one] at h2
  have h3 := c_SameSenders false false [⟨sa, 1000, 0, 0⟩] [⟨sa, 1000, 0, 0⟩] (by decide)
  refine callV_of Try.func19 rfl (Nat.le_of_ble_eq_true rfl) (by kernel_rfl) ?_
  repeat' first
    | (refine call_pure1 (h1) rfl rfl rfl rfl rfl ?_; conv => whnf)
    | (refine call_pureD (h1) rfl rfl rfl rfl rfl ?_; conv => whnf)
    | (refine call_pure1 (h2) rfl rfl rfl rfl rfl ?_; conv => whnf)
    | (refine call_pureD (h2) rfl rfl rfl rfl rfl ?_; conv => whnf)
    | (refine call_read1 h3 rfl rfl rfl rfl ⟨rfl, ⟨rfl, _, rfl, rfl, rfl⟩, trivial⟩ rfl ?_; conv => whnf)
    | (refine idxMap (by (first | decide | exact trivial | omega | exact Nat.le_refl _ | (((try simp only [decide_eq_true_eq, decide_eq_false_iff_not, cond_true, cond_false, beq_iff_eq, beq_eq_false_iff_ne, bne_iff_ne, bne_eq_false_iff_eq, ne_eq, Bool.not_eq_true', Bool.not_eq_false', Bool.not_eq_eq_eq_not, Bool.not_true, Bool.not_false, sLe_eq, Bool.and_eq_true, Bool.and_eq_false_iff, List.length_map, List.length_append, List.length_take, List.length_drop, List.length_replicate, List.length_cons, List.length_nil, lenMax, capMax, Int.toNat_natCast, gt_iff_lt, ge_iff_le] at *); (try simp (disch := omega) only [wr, wru, shr1, Int.tdiv_eq_ediv_of_nonneg] at *)); omega) | (((try simp only [decide_eq_true_eq, decide_eq_false_iff_not, cond_true, cond_false, beq_iff_eq, beq_eq_false_iff_ne, bne_iff_ne, bne_eq_false_iff_eq, ne_eq, Bool.not_eq_true', Bool.not_eq_false', Bool.not_eq_eq_eq_not, Bool.not_true, Bool.not_false, sLe_eq, Bool.and_eq_true, Bool.and_eq_false_iff, List.length_map, List.length_append, List.length_take, List.length_drop, List.length_replicate, List.length_cons, List.length_nil, lenMax, capMax, Int.toNat_natCast, gt_iff_lt, ge_iff_le] at *); (try simp (disch := omega) only [wr, wru, shr1, Int.tdiv_eq_ediv_of_nonneg] at *)); assumption))) (fun _ _ => ?_); conv => whnf)
    | refine WpD.seq ?_
    | (refine WpD.region ?_; conv => whnf)
    | (refine WpD.draw ?_; conv => whnf)
    | (refine EndOk.mk (by kernel_rfl) ?_; conv => whnf)
    | refine WpD.block ?_
    | (refine WpD.exit ?_; conv => whnf)
    | (refine WpD.skip ?_; conv => whnf)
    | (refine WpD.ret ?_; conv => whnf)
    | refine WpD.cond rfl ?_
    | (refine Br.tt ?_; try conv => whnf)
    | (refine Br.ff ?_; try conv => whnf)
    | (refine Br.of_t (by assumption) ?_; conv => whnf)
    | (refine Br.of_f (by assumption) ?_; conv => whnf)
    | (refine Br.mk (fun _ => ?_) (fun _ => ?_) <;> try conv => whnf)
    | refine Exists.intro _ (And.intro (DV_toV rfl) ?_)
    | (refine CallOp.std ?_; (conv => whnf); fail_if_success refine (?_ : False))
    | (refine CallDet.std ?_; (conv => whnf); fail_if_success refine (?_ : False))
    | (refine And.intro (by (first | decide | exact trivial | omega | exact Nat.le_refl _ | (((try simp only [decide_eq_true_eq, decide_eq_false_iff_not, cond_true, cond_false, beq_iff_eq, beq_eq_false_iff_ne, bne_iff_ne, bne_eq_false_iff_eq, ne_eq, Bool.not_eq_true', Bool.not_eq_false', Bool.not_eq_eq_eq_not, Bool.not_true, Bool.not_false, sLe_eq, Bool.and_eq_true, Bool.and_eq_false_iff, List.length_map, List.length_append, List.length_take, List.length_drop, List.length_replicate, List.length_cons, List.length_nil, lenMax, capMax, Int.toNat_natCast, gt_iff_lt, ge_iff_le] at *); (try simp (disch := omega) only [wr, wru, shr1, Int.tdiv_eq_ediv_of_nonneg] at *)); omega) | (((try simp only [decide_eq_true_eq, decide_eq_false_iff_not, cond_true, cond_false, beq_iff_eq, beq_eq_false_iff_ne, bne_iff_ne, bne_eq_false_iff_eq, ne_eq, Bool.not_eq_true', Bool.not_eq_false', Bool.not_eq_eq_eq_not, Bool.not_true, Bool.not_false, sLe_eq, Bool.and_eq_true, Bool.and_eq_false_iff, List.length_map, List.length_append, List.length_take, List.length_drop, List.length_replicate, List.length_cons, List.length_nil, lenMax, capMax, Int.toNat_natCast, gt_iff_lt, ge_iff_le] at *); (try simp (disch := omega) only [wr, wru, shr1, Int.tdiv_eq_ediv_of_nonneg] at *)); assumption))) ?_; conv => whnf)
  all_goals (simp; done)
def okV : V := .bool true
theorem c_law4 (z : Bool) (l : List Sd) (s : ByteArray) (now : Int) : CallV tab 4 [sds z l, .str s, .int .i64 now] (· = .bool true) := by
  have h1 := c_Score z l s now
  have h2 := c_SenderFault z l s now
  by_cases ha : aFault l s now = (0, 0)
  · rw [ha, if_pos rfl] at h1
    rw [ha] at h2
    have h3 := c_SenderScore z l s now ha
    refine callV_of Try.func4 rfl (Nat.le_of_ble_eq_true rfl) (by kernel_rfl) ?_
    repeat' first
      | (refine call_pure1 (h1) rfl rfl rfl rfl rfl ?_; conv => whnf)
      | (refine call_pureD (h1) rfl rfl rfl rfl rfl ?_; conv => whnf)
      | (refine call_pure1 (h2) rfl rfl rfl rfl rfl ?_; conv => whnf)
      | (refine call_pureD (h2) rfl rfl rfl rfl rfl ?_; conv => whnf)
      | (refine call_pure1 (h3) rfl rfl rfl rfl rfl ?_; conv => whnf)
      | (refine call_pureD (h3) rfl rfl rfl rfl rfl ?_; conv => whnf)
      | (refine call_pure1 (c_reputed) rfl rfl rfl rfl rfl ?_; conv => whnf)
      | (refine call_pureD (c_reputed) rfl rfl rfl rfl rfl ?_; conv => whnf)
      | (refine idxMap (by (first | decide | exact trivial | omega | exact Nat.le_refl _ | (((try simp only [decide_eq_true_eq, decide_eq_false_iff_not, cond_true, cond_false, beq_iff_eq, beq_eq_false_iff_ne, bne_iff_ne, bne_eq_false_iff_eq, ne_eq, Bool.not_eq_true', Bool.not_eq_false', Bool.not_eq_eq_eq_not, Bool.not_true, Bool.not_false, sLe_eq, Bool.and_eq_true, Bool.and_eq_false_iff, List.length_map, List.length_append, List.length_take, List.length_drop, List.length_replicate, List.length_cons, List.length_nil, lenMax, capMax, Int.toNat_natCast, gt_iff_lt, ge_iff_le] at *); (try simp (disch := omega) only [wr, wru, shr1, Int.tdiv_eq_ediv_of_nonneg] at *)); omega) | (((try simp only [decide_eq_true_eq, decide_eq_false_iff_not, cond_true, cond_false, beq_iff_eq, beq_eq_false_iff_ne, bne_iff_ne, bne_eq_false_iff_eq, ne_eq, Bool.not_eq_true', Bool.not_eq_false', Bool.not_eq_eq_eq_not, Bool.not_true, Bool.not_false, sLe_eq, Bool.and_eq_true, Bool.and_eq_false_iff, List.length_map, List.length_append, List.length_take, List.length_drop, List.length_replicate, List.length_cons, List.length_nil, lenMax, capMax, Int.toNat_natCast, gt_iff_lt, ge_iff_le] at *); (try simp (disch := omega) only [wr, wru, shr1, Int.tdiv_eq_ediv_of_nonneg] at *)); assumption))) (fun _ _ => ?_); conv => whnf)
      | refine WpD.seq ?_
      | (refine WpD.region ?_; conv => whnf)
      | (refine WpD.draw ?_; conv => whnf)
      | (refine EndOk.mk (by kernel_rfl) ?_; conv => whnf)
      | refine WpD.block ?_
      | (refine WpD.exit ?_; conv => whnf)
      | (refine WpD.skip ?_; conv => whnf)
      | (refine WpD.ret ?_; conv => whnf)
      | refine WpD.cond rfl ?_
      | (refine Br.tt ?_; try conv => whnf)
      | (refine Br.ff ?_; try conv => whnf)
      | (refine Br.of_t (by assumption) ?_; conv => whnf)
      | (refine Br.of_f (by assumption) ?_; conv => whnf)
      | (refine Br.mk (fun _ => ?_) (fun _ => ?_) <;> try conv => whnf)
      | refine Exists.intro _ (And.intro (DV_toV rfl) ?_)
      | (refine CallOp.std ?_; (conv => whnf); fail_if_success refine (?_ : False))
      | (refine CallDet.std ?_; (conv => whnf); fail_if_success refine (?_ : False))
      | (refine And.intro (by (first | decide | exact trivial | omega | exact Nat.le_refl _ | (((try simp only [decide_eq_true_eq, decide_eq_false_iff_not, cond_true, cond_false, beq_iff_eq, beq_eq_false_iff_ne, bne_iff_ne, bne_eq_false_iff_eq, ne_eq, Bool.not_eq_true', Bool.not_eq_false', Bool.not_eq_eq_eq_not, Bool.not_true, Bool.not_false, sLe_eq, Bool.and_eq_true, Bool.and_eq_false_iff, List.length_map, List.length_append, List.length_take, List.length_drop, List.length_replicate, List.length_cons, List.length_nil, lenMax, capMax, Int.toNat_natCast, gt_iff_lt, ge_iff_le] at *); (try simp (disch := omega) only [wr, wru, shr1, Int.tdiv_eq_ediv_of_nonneg] at *)); omega) | (((try simp only [decide_eq_true_eq, decide_eq_false_iff_not, cond_true, cond_false, beq_iff_eq, beq_eq_false_iff_ne, bne_iff_ne, bne_eq_false_iff_eq, ne_eq, Bool.not_eq_true', Bool.not_eq_false', Bool.not_eq_eq_eq_not, Bool.not_true, Bool.not_false, sLe_eq, Bool.and_eq_true, Bool.and_eq_false_iff, List.length_map, List.length_append, List.length_take, List.length_drop, List.length_replicate, List.length_cons, List.length_nil, lenMax, capMax, Int.toNat_natCast, gt_iff_lt, ge_iff_le] at *); (try simp (disch := omega) only [wr, wru, shr1, Int.tdiv_eq_ediv_of_nonneg] at *)); assumption))) ?_; conv => whnf)
    all_goals first | rfl | (rename_i h; simp at h)
  · rw [if_neg ha] at h1
    have hn : ¬ (aFault l s now).1 = 0 := fun h => ha (aF_z h)
    have hn' : ((aFault l s now).1 != 0) = true := by simpa using hn
    refine callV_of Try.func4 rfl (Nat.le_of_ble_eq_true rfl) (by kernel_rfl) ?_
    repeat' first
      | (refine call_pure1 (h1) rfl rfl rfl rfl rfl ?_; conv => whnf)
      | (refine call_pureD (h1) rfl rfl rfl rfl rfl ?_; conv => whnf)
      | (refine call_pure1 (h2) rfl rfl rfl rfl rfl ?_; conv => whnf)
      | (refine call_pureD (h2) rfl rfl rfl rfl rfl ?_; conv => whnf)
      | (refine call_pure1 (c_reputed) rfl rfl rfl rfl rfl ?_; conv => whnf)
      | (refine call_pureD (c_reputed) rfl rfl rfl rfl rfl ?_; conv => whnf)
      | (refine idxMap (by (first | decide | exact trivial | omega | exact Nat.le_refl _ | (((try simp only [decide_eq_true_eq, decide_eq_false_iff_not, cond_true, cond_false, beq_iff_eq, beq_eq_false_iff_ne, bne_iff_ne, bne_eq_false_iff_eq, ne_eq, Bool.not_eq_true', Bool.not_eq_false', Bool.not_eq_eq_eq_not, Bool.not_true, Bool.not_false, sLe_eq, Bool.and_eq_true, Bool.and_eq_false_iff, List.length_map, List.length_append, List.length_take, List.length_drop, List.length_replicate, List.length_cons, List.length_nil, lenMax, capMax, Int.toNat_natCast, gt_iff_lt, ge_iff_le] at *); (try simp (disch := omega) only [wr, wru, shr1, Int.tdiv_eq_ediv_of_nonneg] at *)); omega) | (((try simp only [decide_eq_true_eq, decide_eq_false_iff_not, cond_true, cond_false, beq_iff_eq, beq_eq_false_iff_ne, bne_iff_ne, bne_eq_false_iff_eq, ne_eq, Bool.not_eq_true', Bool.not_eq_false', Bool.not_eq_eq_eq_not, Bool.not_true, Bool.not_false, sLe_eq, Bool.and_eq_true, Bool.and_eq_false_iff, List.length_map, List.length_append, List.length_take, List.length_drop, List.length_replicate, List.length_cons, List.length_nil, lenMax, capMax, Int.toNat_natCast, gt_iff_lt, ge_iff_le] at *); (try simp (disch := omega) only [wr, wru, shr1, Int.tdiv_eq_ediv_of_nonneg] at *)); assumption))) (fun _ _ => ?_); conv => whnf)
      | refine WpD.seq ?_
      | (refine WpD.region ?_; conv => whnf)
      | (refine WpD.draw ?_; conv => whnf)
      | (refine EndOk.mk (by kernel_rfl) ?_; conv => whnf)
      | refine WpD.block ?_
      | (refine WpD.exit ?_; conv => whnf)
      | (refine WpD.skip ?_; conv => whnf)
      | (refine WpD.ret ?_; conv => whnf)
      | refine WpD.cond rfl ?_
      | (refine Br.tt ?_; try conv => whnf)
      | (refine Br.ff ?_; try conv => whnf)
      | (refine Br.of_t (by assumption) ?_; conv => whnf)
      | (refine Br.of_f (by assumption) ?_; conv => whnf)
      | (refine Br.mk (fun _ => ?_) (fun _ => ?_) <;> try conv => whnf)
      | refine Exists.intro _ (And.intro (DV_toV rfl) ?_)
      | (refine CallOp.std ?_; (conv => whnf); fail_if_success refine (?_ : False))
      | (refine CallDet.std ?_; (conv => whnf); fail_if_success refine (?_ : False))
      | (refine And.intro (by (first | decide | exact trivial | omega | exact Nat.le_refl _ | (((try simp only [decide_eq_true_eq, decide_eq_false_iff_not, cond_true, cond_false, beq_iff_eq, beq_eq_false_iff_ne, bne_iff_ne, bne_eq_false_iff_eq, ne_eq, Bool.not_eq_true', Bool.not_eq_false', Bool.not_eq_eq_eq_not, Bool.not_true, Bool.not_false, sLe_eq, Bool.and_eq_true, Bool.and_eq_false_iff, List.length_map, List.length_append, List.length_take, List.length_drop, List.length_replicate, List.length_cons, List.length_nil, lenMax, capMax, Int.toNat_natCast, gt_iff_lt, ge_iff_le] at *); (try simp (disch := omega) only [wr, wru, shr1, Int.tdiv_eq_ediv_of_nonneg] at *)); omega) | (((try simp only [decide_eq_true_eq, decide_eq_false_iff_not, cond_true, cond_false, beq_iff_eq, beq_eq_false_iff_ne, bne_iff_ne, bne_eq_false_iff_eq, ne_eq, Bool.not_eq_true', Bool.not_eq_false', Bool.not_eq_eq_eq_not, Bool.not_true, Bool.not_false, sLe_eq, Bool.and_eq_true, Bool.and_eq_false_iff, List.length_map, List.length_append, List.length_take, List.length_drop, List.length_replicate, List.length_cons, List.length_nil, lenMax, capMax, Int.toNat_natCast, gt_iff_lt, ge_iff_le] at *); (try simp (disch := omega) only [wr, wru, shr1, Int.tdiv_eq_ediv_of_nonneg] at *)); assumption))) ?_; conv => whnf)
    all_goals first | rfl | (rename_i h; simp at h)
end Go.DL
