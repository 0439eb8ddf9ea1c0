/- Hosts: IndexRune in "-_.". No condition. -/
import Derived.Test.YtacpahgoomdfaaaDoorH1
import Derived.Test.YtacpahgoomdfaaaDoorDC
set_option linter.unusedVariables false
set_option linter.unusedSimpArgs false
set_option maxHeartbeats 4000000
namespace Go.DL
open Go.Proofs

theorem wr8 {x : Int} (h1 : 0 ≤ x) (h2 : x ≤ 255) : IntKind.wrap .u8 x = x := by
  simp [IntKind.wrap, IntKind.bits, IntKind.signed]
  omega
theorem c_IR_lo (s : ByteArray) (r : Int) (h : 0 ≤ r ∧ r < 128) : CallV tab 48 [.str s, .int .i32 r] (· = .int .i64 (idxB (tl s) r)) := by
  have h1 := c_IB s (IntKind.wrap .u8 r) (by rw [wr8 h.1 (by omega)]; omega)
  rw [wr8 h.1 (by omega)] at h1
  have hw := wr8 h.1 (show r ≤ 255 by omega)
  have d1 : decide (0 ≤ r) = true := by simp; omega
  have d2 : decide (r < 128) = true := by simp; omega
  refine callV_of Tryd.func48 rfl (Nat.le_of_ble_eq_true rfl) (by kernel_rfl) ?_
  repeat' first
    | (apply Br.id; first
      | (apply Br.tt; try conv => whnf)
      | (apply Br.ff; try conv => whnf)
      | (refine Br.of_t (by assumption) ?_; conv => whnf)
      | (refine Br.of_f (by assumption) ?_; conv => whnf)
      | (refine Br.mk (fun _ => ?_) (fun _ => ?_) <;> try conv => whnf))
    | (apply CallOp.id; first
      | (refine call_at rfl rfl rfl rfl rfl ?_)
      | (refine call_rd rfl rfl rfl rfl rfl ?_)
      | (refine CallOp.std ?_; (conv => whnf); fail_if_success refine (?_ : False)))
    | (apply CallDet.id; first
      | (refine call_atD rfl rfl rfl rfl rfl ?_)
      | (refine call_rdD rfl rfl rfl rfl rfl ?_)
      | (refine CallDet.std ?_; (conv => whnf); fail_if_success refine (?_ : False)))
    | (apply CallAt.id; first
      | (rw [hw]; apply CallAt.mk1 h1; conv => whnf))
    | (refine EndOk.mk (by kernel_rfl) ?_; conv => whnf)
    | (refine And.intro (by (first | decide | exact trivial | omega | exact Nat.le_refl _ | (((try simp only [decide_eq_true_eq, decide_eq_false_iff_not, cond_true, cond_false, beq_iff_eq, beq_eq_false_iff_ne, bne_iff_ne, bne_eq_false_iff_eq, ne_eq, Bool.not_eq_true', Bool.not_eq_false', Bool.not_eq_eq_eq_not, Bool.not_true, Bool.not_false, sLe_eq, Bool.and_eq_true, Bool.and_eq_false_iff, List.length_map, List.length_set, List.length_append, List.length_take, List.length_drop, List.length_replicate, List.length_cons, List.length_nil, lenMax, capMax, Int.toNat_natCast, gt_iff_lt, ge_iff_le] at *); (try simp (disch := omega) only [wr, wru, shr1, Int.tdiv_eq_ediv_of_nonneg] at *)); omega) | (((try simp only [decide_eq_true_eq, decide_eq_false_iff_not, cond_true, cond_false, beq_iff_eq, beq_eq_false_iff_ne, bne_iff_ne, bne_eq_false_iff_eq, ne_eq, Bool.not_eq_true', Bool.not_eq_false', Bool.not_eq_eq_eq_not, Bool.not_true, Bool.not_false, sLe_eq, Bool.and_eq_true, Bool.and_eq_false_iff, List.length_map, List.length_set, List.length_append, List.length_take, List.length_drop, List.length_replicate, List.length_cons, List.length_nil, lenMax, capMax, Int.toNat_natCast, gt_iff_lt, ge_iff_le] at *); (try simp (disch := omega) only [wr, wru, shr1, Int.tdiv_eq_ediv_of_nonneg] at *)); assumption))) ?_; conv => whnf)
    | (refine idxOld (by assumption) ?_; conv => whnf)
    | (refine idxMap (by (first | decide | exact trivial | omega | exact Nat.le_refl _ | (((try simp only [decide_eq_true_eq, decide_eq_false_iff_not, cond_true, cond_false, beq_iff_eq, beq_eq_false_iff_ne, bne_iff_ne, bne_eq_false_iff_eq, ne_eq, Bool.not_eq_true', Bool.not_eq_false', Bool.not_eq_eq_eq_not, Bool.not_true, Bool.not_false, sLe_eq, Bool.and_eq_true, Bool.and_eq_false_iff, List.length_map, List.length_set, List.length_append, List.length_take, List.length_drop, List.length_replicate, List.length_cons, List.length_nil, lenMax, capMax, Int.toNat_natCast, gt_iff_lt, ge_iff_le] at *); (try simp (disch := omega) only [wr, wru, shr1, Int.tdiv_eq_ediv_of_nonneg] at *)); omega) | (((try simp only [decide_eq_true_eq, decide_eq_false_iff_not, cond_true, cond_false, beq_iff_eq, beq_eq_false_iff_ne, bne_iff_ne, bne_eq_false_iff_eq, ne_eq, Bool.not_eq_true', Bool.not_eq_false', Bool.not_eq_eq_eq_not, Bool.not_true, Bool.not_false, sLe_eq, Bool.and_eq_true, Bool.and_eq_false_iff, List.length_map, List.length_set, List.length_append, List.length_take, List.length_drop, List.length_replicate, List.length_cons, List.length_nil, lenMax, capMax, Int.toNat_natCast, gt_iff_lt, ge_iff_le] at *); (try simp (disch := omega) only [wr, wru, shr1, Int.tdiv_eq_ediv_of_nonneg] at *)); assumption))) (fun _ _ => ?_); conv => whnf)
    | refine Exists.intro _ (And.intro (DV_toV rfl) ?_)
    | (refine rowSet (by (first | decide | exact trivial | omega | exact Nat.le_refl _ | (((try simp only [decide_eq_true_eq, decide_eq_false_iff_not, cond_true, cond_false, beq_iff_eq, beq_eq_false_iff_ne, bne_iff_ne, bne_eq_false_iff_eq, ne_eq, Bool.not_eq_true', Bool.not_eq_false', Bool.not_eq_eq_eq_not, Bool.not_true, Bool.not_false, sLe_eq, Bool.and_eq_true, Bool.and_eq_false_iff, List.length_map, List.length_set, List.length_append, List.length_take, List.length_drop, List.length_replicate, List.length_cons, List.length_nil, lenMax, capMax, Int.toNat_natCast, gt_iff_lt, ge_iff_le] at *); (try simp (disch := omega) only [wr, wru, shr1, Int.tdiv_eq_ediv_of_nonneg] at *)); omega) | (((try simp only [decide_eq_true_eq, decide_eq_false_iff_not, cond_true, cond_false, beq_iff_eq, beq_eq_false_iff_ne, bne_iff_ne, bne_eq_false_iff_eq, ne_eq, Bool.not_eq_true', Bool.not_eq_false', Bool.not_eq_eq_eq_not, Bool.not_true, Bool.not_false, sLe_eq, Bool.and_eq_true, Bool.and_eq_false_iff, List.length_map, List.length_set, List.length_append, List.length_take, List.length_drop, List.length_replicate, List.length_cons, List.length_nil, lenMax, capMax, Int.toNat_natCast, gt_iff_lt, ge_iff_le] at *); (try simp (disch := omega) only [wr, wru, shr1, Int.tdiv_eq_ediv_of_nonneg] at *)); assumption))) ?_; conv => whnf)
    | (refine rowOld (by assumption) ?_; conv => whnf)
    | (refine rowNew (by (first | decide | exact trivial | omega | exact Nat.le_refl _ | (((try simp only [decide_eq_true_eq, decide_eq_false_iff_not, cond_true, cond_false, beq_iff_eq, beq_eq_false_iff_ne, bne_iff_ne, bne_eq_false_iff_eq, ne_eq, Bool.not_eq_true', Bool.not_eq_false', Bool.not_eq_eq_eq_not, Bool.not_true, Bool.not_false, sLe_eq, Bool.and_eq_true, Bool.and_eq_false_iff, List.length_map, List.length_set, List.length_append, List.length_take, List.length_drop, List.length_replicate, List.length_cons, List.length_nil, lenMax, capMax, Int.toNat_natCast, gt_iff_lt, ge_iff_le] at *); (try simp (disch := omega) only [wr, wru, shr1, Int.tdiv_eq_ediv_of_nonneg] at *)); omega) | (((try simp only [decide_eq_true_eq, decide_eq_false_iff_not, cond_true, cond_false, beq_iff_eq, beq_eq_false_iff_ne, bne_iff_ne, bne_eq_false_iff_eq, ne_eq, Bool.not_eq_true', Bool.not_eq_false', Bool.not_eq_eq_eq_not, Bool.not_true, Bool.not_false, sLe_eq, Bool.and_eq_true, Bool.and_eq_false_iff, List.length_map, List.length_set, List.length_append, List.length_take, List.length_drop, List.length_replicate, List.length_cons, List.length_nil, lenMax, capMax, Int.toNat_natCast, gt_iff_lt, ge_iff_le] at *); (try simp (disch := omega) only [wr, wru, shr1, Int.tdiv_eq_ediv_of_nonneg] at *)); assumption))) (fun _ _ => ?_); conv => whnf)
    | (apply WpD.id; first
      | (refine WpD.walk rfl ?_; conv => whnf))
  all_goals rfl
theorem c_IR_hi (r : Int) (h : 128 ≤ r) (hv : Utf8.valid r = true) : CallV tab 48 [.str ds, .int .i32 r] (· = .int .i64 (-1)) := by
  have h1 := c_ValidRune r
  rw [hv] at h1
  have d1 : decide (0 ≤ r) = true := by simp; omega
  have d2 : decide (r < 128) = false := by simp; omega
  by_cases he : r = 65533
  · have d3 : (r == 65533) = true := by simpa using he
    refine callV_of Tryd.func48 rfl (Nat.le_of_ble_eq_true rfl) (by kernel_rfl) ?_
    have e0 : ((Utf8.decode ds 0).1 : Int) = 45 ∧ (Utf8.decode ds 0).2 = 1 := by decide
    have e1 : ((Utf8.decode ds 1).1 : Int) = 95 ∧ (Utf8.decode ds 1).2 = 1 := by decide
    have e2 : ((Utf8.decode ds 2).1 : Int) = 46 ∧ (Utf8.decode ds 2).2 = 1 := by decide
    repeat' first
      | (apply Br.id; first
      | (apply Br.tt; try conv => whnf)
      | (apply Br.ff; try conv => whnf)
      | (refine Br.of_t (by assumption) ?_; conv => whnf)
      | (refine Br.of_f (by assumption) ?_; conv => whnf)
      | (refine Br.mk (fun _ => ?_) (fun _ => ?_) <;> try conv => whnf))
      | (apply CallOp.id; first
      | (refine op_range rfl rfl rfl ?_; conv => whnf)
      | (refine op_nextT rfl rfl rfl (by decide) e0.1 e0.2 ?_; conv => whnf)
      | (refine op_nextT rfl rfl rfl (by decide) e1.1 e1.2 ?_; conv => whnf)
      | (refine op_nextT rfl rfl rfl (by decide) e2.1 e2.2 ?_; conv => whnf)
      | (refine op_nextF rfl rfl rfl (by decide) ?_; conv => whnf)
      | (refine call_at rfl rfl rfl rfl rfl ?_)
      | (refine call_rd rfl rfl rfl rfl rfl ?_)
      | (refine CallOp.std ?_; (conv => whnf); fail_if_success refine (?_ : False)))
      | (apply CallDet.id; first
      | (refine op_range rfl rfl rfl ?_; conv => whnf)
      | (refine op_nextT rfl rfl rfl (by decide) e0.1 e0.2 ?_; conv => whnf)
      | (refine op_nextT rfl rfl rfl (by decide) e1.1 e1.2 ?_; conv => whnf)
      | (refine op_nextT rfl rfl rfl (by decide) e2.1 e2.2 ?_; conv => whnf)
      | (refine op_nextF rfl rfl rfl (by decide) ?_; conv => whnf)
      | (refine call_atD rfl rfl rfl rfl rfl ?_)
      | (refine call_rdD rfl rfl rfl rfl rfl ?_)
      | (refine CallDet.std ?_; (conv => whnf); fail_if_success refine (?_ : False)))
      | (apply CallAt.id; first
      | (apply CallAt.mk1 (h1); conv => whnf))
      | (apply CallRd.id; first
      | (apply CallRd.mk1 (h1); (· rfl); conv => whnf))
      | (refine EndOk.mk (by kernel_rfl) ?_; conv => whnf)
      | (refine And.intro (by (first | decide | exact trivial | omega | exact Nat.le_refl _ | (((try simp only [decide_eq_true_eq, decide_eq_false_iff_not, cond_true, cond_false, beq_iff_eq, beq_eq_false_iff_ne, bne_iff_ne, bne_eq_false_iff_eq, ne_eq, Bool.not_eq_true', Bool.not_eq_false', Bool.not_eq_eq_eq_not, Bool.not_true, Bool.not_false, sLe_eq, Bool.and_eq_true, Bool.and_eq_false_iff, List.length_map, List.length_set, List.length_append, List.length_take, List.length_drop, List.length_replicate, List.length_cons, List.length_nil, lenMax, capMax, Int.toNat_natCast, gt_iff_lt, ge_iff_le] at *); (try simp (disch := omega) only [wr, wru, shr1, Int.tdiv_eq_ediv_of_nonneg] at *)); omega) | (((try simp only [decide_eq_true_eq, decide_eq_false_iff_not, cond_true, cond_false, beq_iff_eq, beq_eq_false_iff_ne, bne_iff_ne, bne_eq_false_iff_eq, ne_eq, Bool.not_eq_true', Bool.not_eq_false', Bool.not_eq_eq_eq_not, Bool.not_true, Bool.not_false, sLe_eq, Bool.and_eq_true, Bool.and_eq_false_iff, List.length_map, List.length_set, List.length_append, List.length_take, List.length_drop, List.length_replicate, List.length_cons, List.length_nil, lenMax, capMax, Int.toNat_natCast, gt_iff_lt, ge_iff_le] at *); (try simp (disch := omega) only [wr, wru, shr1, Int.tdiv_eq_ediv_of_nonneg] at *)); assumption))) ?_; conv => whnf)
      | (refine idxOld (by assumption) ?_; conv => whnf)
      | (refine idxMap (by (first | decide | exact trivial | omega | exact Nat.le_refl _ | (((try simp only [decide_eq_true_eq, decide_eq_false_iff_not, cond_true, cond_false, beq_iff_eq, beq_eq_false_iff_ne, bne_iff_ne, bne_eq_false_iff_eq, ne_eq, Bool.not_eq_true', Bool.not_eq_false', Bool.not_eq_eq_eq_not, Bool.not_true, Bool.not_false, sLe_eq, Bool.and_eq_true, Bool.and_eq_false_iff, List.length_map, List.length_set, List.length_append, List.length_take, List.length_drop, List.length_replicate, List.length_cons, List.length_nil, lenMax, capMax, Int.toNat_natCast, gt_iff_lt, ge_iff_le] at *); (try simp (disch := omega) only [wr, wru, shr1, Int.tdiv_eq_ediv_of_nonneg] at *)); omega) | (((try simp only [decide_eq_true_eq, decide_eq_false_iff_not, cond_true, cond_false, beq_iff_eq, beq_eq_false_iff_ne, bne_iff_ne, bne_eq_false_iff_eq, ne_eq, Bool.not_eq_true', Bool.not_eq_false', Bool.not_eq_eq_eq_not, Bool.not_true, Bool.not_false, sLe_eq, Bool.and_eq_true, Bool.and_eq_false_iff, List.length_map, List.length_set, List.length_append, List.length_take, List.length_drop, List.length_replicate, List.length_cons, List.length_nil, lenMax, capMax, Int.toNat_natCast, gt_iff_lt, ge_iff_le] at *); (try simp (disch := omega) only [wr, wru, shr1, Int.tdiv_eq_ediv_of_nonneg] at *)); assumption))) (fun _ _ => ?_); conv => whnf)
      | refine Exists.intro _ (And.intro (DV_toV rfl) ?_)
      | (refine rowSet (by (first | decide | exact trivial | omega | exact Nat.le_refl _ | (((try simp only [decide_eq_true_eq, decide_eq_false_iff_not, cond_true, cond_false, beq_iff_eq, beq_eq_false_iff_ne, bne_iff_ne, bne_eq_false_iff_eq, ne_eq, Bool.not_eq_true', Bool.not_eq_false', Bool.not_eq_eq_eq_not, Bool.not_true, Bool.not_false, sLe_eq, Bool.and_eq_true, Bool.and_eq_false_iff, List.length_map, List.length_set, List.length_append, List.length_take, List.length_drop, List.length_replicate, List.length_cons, List.length_nil, lenMax, capMax, Int.toNat_natCast, gt_iff_lt, ge_iff_le] at *); (try simp (disch := omega) only [wr, wru, shr1, Int.tdiv_eq_ediv_of_nonneg] at *)); omega) | (((try simp only [decide_eq_true_eq, decide_eq_false_iff_not, cond_true, cond_false, beq_iff_eq, beq_eq_false_iff_ne, bne_iff_ne, bne_eq_false_iff_eq, ne_eq, Bool.not_eq_true', Bool.not_eq_false', Bool.not_eq_eq_eq_not, Bool.not_true, Bool.not_false, sLe_eq, Bool.and_eq_true, Bool.and_eq_false_iff, List.length_map, List.length_set, List.length_append, List.length_take, List.length_drop, List.length_replicate, List.length_cons, List.length_nil, lenMax, capMax, Int.toNat_natCast, gt_iff_lt, ge_iff_le] at *); (try simp (disch := omega) only [wr, wru, shr1, Int.tdiv_eq_ediv_of_nonneg] at *)); assumption))) ?_; conv => whnf)
      | (refine rowOld (by assumption) ?_; conv => whnf)
      | (refine rowNew (by (first | decide | exact trivial | omega | exact Nat.le_refl _ | (((try simp only [decide_eq_true_eq, decide_eq_false_iff_not, cond_true, cond_false, beq_iff_eq, beq_eq_false_iff_ne, bne_iff_ne, bne_eq_false_iff_eq, ne_eq, Bool.not_eq_true', Bool.not_eq_false', Bool.not_eq_eq_eq_not, Bool.not_true, Bool.not_false, sLe_eq, Bool.and_eq_true, Bool.and_eq_false_iff, List.length_map, List.length_set, List.length_append, List.length_take, List.length_drop, List.length_replicate, List.length_cons, List.length_nil, lenMax, capMax, Int.toNat_natCast, gt_iff_lt, ge_iff_le] at *); (try simp (disch := omega) only [wr, wru, shr1, Int.tdiv_eq_ediv_of_nonneg] at *)); omega) | (((try simp only [decide_eq_true_eq, decide_eq_false_iff_not, cond_true, cond_false, beq_iff_eq, beq_eq_false_iff_ne, bne_iff_ne, bne_eq_false_iff_eq, ne_eq, Bool.not_eq_true', Bool.not_eq_false', Bool.not_eq_eq_eq_not, Bool.not_true, Bool.not_false, sLe_eq, Bool.and_eq_true, Bool.and_eq_false_iff, List.length_map, List.length_set, List.length_append, List.length_take, List.length_drop, List.length_replicate, List.length_cons, List.length_nil, lenMax, capMax, Int.toNat_natCast, gt_iff_lt, ge_iff_le] at *); (try simp (disch := omega) only [wr, wru, shr1, Int.tdiv_eq_ediv_of_nonneg] at *)); assumption))) (fun _ _ => ?_); conv => whnf)
      | (apply WpD.id; first
      | (refine WpD.loopAt 176 rfl (fun k : Nat => ⟨[(175, .ptr 0 0 0)], [.iter ds k], []⟩) (fun k => k ≤ 3) (fun k => 3 - k) ?_ (fun k hk => ?_); rotate_left; rcases (show k = 0 ∨ k = 1 ∨ k = 2 ∨ k = 3 by omega) with rfl | rfl | rfl | rfl)
      | (refine WpD.walk rfl ?_; conv => whnf))
    all_goals first
      | rfl
      | exact ⟨0, [0], by decide, ⟨by decide, rfl, ⟨rfl, rfl, trivial⟩, ⟨⟨rfl, rfl⟩, trivial⟩, rfl⟩⟩
      | exact ⟨1, [0], by decide, ⟨⟨by decide, rfl, ⟨rfl, rfl, trivial⟩, ⟨⟨rfl, rfl⟩, trivial⟩, rfl⟩, by decide⟩⟩
      | exact ⟨2, [0], by decide, ⟨⟨by decide, rfl, ⟨rfl, rfl, trivial⟩, ⟨⟨rfl, rfl⟩, trivial⟩, rfl⟩, by decide⟩⟩
      | exact ⟨3, [0], by decide, ⟨⟨by decide, rfl, ⟨rfl, rfl, trivial⟩, ⟨⟨rfl, rfl⟩, trivial⟩, rfl⟩, by decide⟩⟩
  · have d3 : (r == 65533) = false := by simpa using he
    obtain ⟨c, rfl⟩ : ∃ c : Nat, r = c := ⟨r.toNat, by omega⟩
    obtain ⟨sz, hs2, hs4, hsz, hl⟩ := enc_hi (c := c) (by omega) hv
    have hb : ∀ k, k < (Utf8.encode (c : Int)).size → sAt (Utf8.encode (c : Int)) k = ((Utf8.encode (c : Int)).get! k).toNat := fun k hk => sAt_tl (get_tl hk)
    have hb1 := hb (sz - 1) (by omega)
    have hb2 : ((Utf8.encode (c : Int)).get! (sz - 1)).toNat < 256 := UInt8.toNat_lt _
    generalize hE : Utf8.encode (c : Int) = e at *
    generalize (c : Int) = r at *
    have hq : ∀ k, idxB (tl (ds.extract k 3)) (sAt e (sz - 1)) = -1 := fun k => by
      unfold idxB
      have : (tl (ds.extract k 3)).findIdx? (fun c => (c.toNat : Int) == sAt e (sz - 1)) = none := by
        rw [List.findIdx?_eq_none_iff]
        intro x hx
        have hx3 : x ∈ tl ds := by
          rw [tl_ext] at hx
          exact List.mem_of_mem_take (List.mem_of_mem_drop hx)
        have : x.toNat < 128 := by
          have h3 : ∀ y ∈ tl ds, y.toNat < 128 := by decide
          exact h3 x hx3
        simp
        omega
      rw [this]
    have h2 : ∀ t, CallV tab 40 [.str t, .int .u8 (sAt e (sz - 1))] (· = .int .i64 (idxB (tl t) (sAt e (sz - 1)))) := fun t => c_IB t _ (by omega)
    have hne : ∀ k, k < 3 → (sAt ds k == sAt e (sz - 1)) = false := fun k hk => by
      have h3 : ∀ j, j < 3 → sAt ds j < 128 := by decide
      have := h3 k hk
      simp
      omega
    have hs : sz = 2 ∨ sz = 3 ∨ sz = 4 := by omega
    have h3 : ∀ k, CallV tab 40 [.str (ds.extract k 3), .int .u8 (sAt e (sz - 1))] (· = .int .i64 (-1)) := fun k => by rw [← hq k]; exact h2 _
    rcases hs with rfl | rfl | rfl
    · have n1 : (sAt ds (Int.toNat 1) != sAt e (Int.toNat 1)) = true := by
        show (!(sAt ds 1 == sAt e 1)) = true
        rw [show sAt e 1 = sAt e (2 - 1) from rfl, hne 1 (by decide)]; rfl
      have h4 := h3 2
      clear h2 h3 hq hne hb
      refine callV_of Tryd.func48 rfl (Nat.le_of_ble_eq_true rfl) (by kernel_rfl) ?_
      repeat' first
        | (apply Br.id; first
      | (apply Br.tt; try conv => whnf)
      | (apply Br.ff; try conv => whnf)
      | (refine Br.of_t (by assumption) ?_; conv => whnf)
      | (refine Br.of_f (by assumption) ?_; conv => whnf)
      | (refine Br.mk (fun _ => ?_) (fun _ => ?_) <;> try conv => whnf))
        | (apply CallOp.id; first
      | (refine call_at rfl rfl rfl rfl rfl ?_)
      | (refine call_rd rfl rfl rfl rfl rfl ?_)
      | (refine CallOp.std ?_; (conv => whnf); fail_if_success refine (?_ : False)))
        | (apply CallDet.id; first
      | (refine call_atD rfl rfl rfl rfl rfl ?_)
      | (refine call_rdD rfl rfl rfl rfl rfl ?_)
      | (refine CallDet.std ?_; (conv => whnf); fail_if_success refine (?_ : False)))
        | (apply CallAt.id; first
      | (apply CallAt.mk1 (h1); conv => whnf)
      | (apply CallAt.mk1 (h4); conv => whnf))
        | (apply CallRd.id; first
      | (apply CallRd.mk1 (h1); (· rfl); conv => whnf)
      | (apply CallRd.mk1 (h4); (· rfl); conv => whnf))
        | (refine EndOk.mk (by kernel_rfl) ?_; conv => whnf)
        | (refine And.intro (by (first | decide | exact trivial | omega | exact Nat.le_refl _ | (((try simp only [decide_eq_true_eq, decide_eq_false_iff_not, cond_true, cond_false, beq_iff_eq, beq_eq_false_iff_ne, bne_iff_ne, bne_eq_false_iff_eq, ne_eq, Bool.not_eq_true', Bool.not_eq_false', Bool.not_eq_eq_eq_not, Bool.not_true, Bool.not_false, sLe_eq, Bool.and_eq_true, Bool.and_eq_false_iff, List.length_map, List.length_set, List.length_append, List.length_take, List.length_drop, List.length_replicate, List.length_cons, List.length_nil, lenMax, capMax, Int.toNat_natCast, gt_iff_lt, ge_iff_le] at *); (try simp (disch := omega) only [wr, wru, shr1, Int.tdiv_eq_ediv_of_nonneg] at *)); omega) | (((try simp only [decide_eq_true_eq, decide_eq_false_iff_not, cond_true, cond_false, beq_iff_eq, beq_eq_false_iff_ne, bne_iff_ne, bne_eq_false_iff_eq, ne_eq, Bool.not_eq_true', Bool.not_eq_false', Bool.not_eq_eq_eq_not, Bool.not_true, Bool.not_false, sLe_eq, Bool.and_eq_true, Bool.and_eq_false_iff, List.length_map, List.length_set, List.length_append, List.length_take, List.length_drop, List.length_replicate, List.length_cons, List.length_nil, lenMax, capMax, Int.toNat_natCast, gt_iff_lt, ge_iff_le] at *); (try simp (disch := omega) only [wr, wru, shr1, Int.tdiv_eq_ediv_of_nonneg] at *)); assumption))) ?_; conv => whnf)
        | (refine idxOld (by assumption) ?_; conv => whnf)
        | (refine idxMap (by (first | decide | exact trivial | omega | exact Nat.le_refl _ | (((try simp only [decide_eq_true_eq, decide_eq_false_iff_not, cond_true, cond_false, beq_iff_eq, beq_eq_false_iff_ne, bne_iff_ne, bne_eq_false_iff_eq, ne_eq, Bool.not_eq_true', Bool.not_eq_false', Bool.not_eq_eq_eq_not, Bool.not_true, Bool.not_false, sLe_eq, Bool.and_eq_true, Bool.and_eq_false_iff, List.length_map, List.length_set, List.length_append, List.length_take, List.length_drop, List.length_replicate, List.length_cons, List.length_nil, lenMax, capMax, Int.toNat_natCast, gt_iff_lt, ge_iff_le] at *); (try simp (disch := omega) only [wr, wru, shr1, Int.tdiv_eq_ediv_of_nonneg] at *)); omega) | (((try simp only [decide_eq_true_eq, decide_eq_false_iff_not, cond_true, cond_false, beq_iff_eq, beq_eq_false_iff_ne, bne_iff_ne, bne_eq_false_iff_eq, ne_eq, Bool.not_eq_true', Bool.not_eq_false', Bool.not_eq_eq_eq_not, Bool.not_true, Bool.not_false, sLe_eq, Bool.and_eq_true, Bool.and_eq_false_iff, List.length_map, List.length_set, List.length_append, List.length_take, List.length_drop, List.length_replicate, List.length_cons, List.length_nil, lenMax, capMax, Int.toNat_natCast, gt_iff_lt, ge_iff_le] at *); (try simp (disch := omega) only [wr, wru, shr1, Int.tdiv_eq_ediv_of_nonneg] at *)); assumption))) (fun _ _ => ?_); conv => whnf)
        | refine Exists.intro _ (And.intro (DV_toV rfl) ?_)
        | (refine rowSet (by (first | decide | exact trivial | omega | exact Nat.le_refl _ | (((try simp only [decide_eq_true_eq, decide_eq_false_iff_not, cond_true, cond_false, beq_iff_eq, beq_eq_false_iff_ne, bne_iff_ne, bne_eq_false_iff_eq, ne_eq, Bool.not_eq_true', Bool.not_eq_false', Bool.not_eq_eq_eq_not, Bool.not_true, Bool.not_false, sLe_eq, Bool.and_eq_true, Bool.and_eq_false_iff, List.length_map, List.length_set, List.length_append, List.length_take, List.length_drop, List.length_replicate, List.length_cons, List.length_nil, lenMax, capMax, Int.toNat_natCast, gt_iff_lt, ge_iff_le] at *); (try simp (disch := omega) only [wr, wru, shr1, Int.tdiv_eq_ediv_of_nonneg] at *)); omega) | (((try simp only [decide_eq_true_eq, decide_eq_false_iff_not, cond_true, cond_false, beq_iff_eq, beq_eq_false_iff_ne, bne_iff_ne, bne_eq_false_iff_eq, ne_eq, Bool.not_eq_true', Bool.not_eq_false', Bool.not_eq_eq_eq_not, Bool.not_true, Bool.not_false, sLe_eq, Bool.and_eq_true, Bool.and_eq_false_iff, List.length_map, List.length_set, List.length_append, List.length_take, List.length_drop, List.length_replicate, List.length_cons, List.length_nil, lenMax, capMax, Int.toNat_natCast, gt_iff_lt, ge_iff_le] at *); (try simp (disch := omega) only [wr, wru, shr1, Int.tdiv_eq_ediv_of_nonneg] at *)); assumption))) ?_; conv => whnf)
        | (refine rowOld (by assumption) ?_; conv => whnf)
        | (refine rowNew (by (first | decide | exact trivial | omega | exact Nat.le_refl _ | (((try simp only [decide_eq_true_eq, decide_eq_false_iff_not, cond_true, cond_false, beq_iff_eq, beq_eq_false_iff_ne, bne_iff_ne, bne_eq_false_iff_eq, ne_eq, Bool.not_eq_true', Bool.not_eq_false', Bool.not_eq_eq_eq_not, Bool.not_true, Bool.not_false, sLe_eq, Bool.and_eq_true, Bool.and_eq_false_iff, List.length_map, List.length_set, List.length_append, List.length_take, List.length_drop, List.length_replicate, List.length_cons, List.length_nil, lenMax, capMax, Int.toNat_natCast, gt_iff_lt, ge_iff_le] at *); (try simp (disch := omega) only [wr, wru, shr1, Int.tdiv_eq_ediv_of_nonneg] at *)); omega) | (((try simp only [decide_eq_true_eq, decide_eq_false_iff_not, cond_true, cond_false, beq_iff_eq, beq_eq_false_iff_ne, bne_iff_ne, bne_eq_false_iff_eq, ne_eq, Bool.not_eq_true', Bool.not_eq_false', Bool.not_eq_eq_eq_not, Bool.not_true, Bool.not_false, sLe_eq, Bool.and_eq_true, Bool.and_eq_false_iff, List.length_map, List.length_set, List.length_append, List.length_take, List.length_drop, List.length_replicate, List.length_cons, List.length_nil, lenMax, capMax, Int.toNat_natCast, gt_iff_lt, ge_iff_le] at *); (try simp (disch := omega) only [wr, wru, shr1, Int.tdiv_eq_ediv_of_nonneg] at *)); assumption))) (fun _ _ => ?_); conv => whnf)
        | (apply WpD.id; first
      | (refine WpD.scope ?_)
      | (refine WpD.loopAt 23 rfl (fun k : Nat => ⟨[(0, .v (.str ds)), (1, .v (.int .i32 r)), (7, .v (.str e)), (8, .v (.int .i64 1)), (9, .v (.int .i64 1)), (10, .v (.int .i64 0))], [], []⟩) (fun k => k = 0) (fun k => 0) ?_ (fun k hk => ?_); rotate_left)
      | (refine WpD.walk rfl ?_; conv => whnf))
      all_goals first
        | rfl
        | (refine ⟨0, [], rfl, ⟨by decide, rfl, ?_, trivial, rfl⟩⟩
           rw [hE, hsz]
           (repeat' first | exact trivial | rfl | apply And.intro | (refine leInt rfl ?_; first | omega | (dsimp only; omega)) | (refine leArr rfl ?_ rfl; (simp; try omega)) | (refine leBool rfl ?_; assumption))
           done)
    · have n1 : (sAt ds (Int.toNat 2) != sAt e (Int.toNat 2)) = true := by
        show (!(sAt ds 2 == sAt e 2)) = true
        rw [show sAt e 2 = sAt e (3 - 1) from rfl, hne 2 (by decide)]; rfl
      have h4 := h3 3
      clear h2 h3 hq hne hb
      refine callV_of Tryd.func48 rfl (Nat.le_of_ble_eq_true rfl) (by kernel_rfl) ?_
      repeat' first
        | (apply Br.id; first
      | (apply Br.tt; try conv => whnf)
      | (apply Br.ff; try conv => whnf)
      | (refine Br.of_t (by assumption) ?_; conv => whnf)
      | (refine Br.of_f (by assumption) ?_; conv => whnf)
      | (refine Br.mk (fun _ => ?_) (fun _ => ?_) <;> try conv => whnf))
        | (apply CallOp.id; first
      | (refine call_at rfl rfl rfl rfl rfl ?_)
      | (refine call_rd rfl rfl rfl rfl rfl ?_)
      | (refine CallOp.std ?_; (conv => whnf); fail_if_success refine (?_ : False)))
        | (apply CallDet.id; first
      | (refine call_atD rfl rfl rfl rfl rfl ?_)
      | (refine call_rdD rfl rfl rfl rfl rfl ?_)
      | (refine CallDet.std ?_; (conv => whnf); fail_if_success refine (?_ : False)))
        | (apply CallAt.id; first
      | (apply CallAt.mk1 (h1); conv => whnf)
      | (apply CallAt.mk1 (h4); conv => whnf))
        | (apply CallRd.id; first
      | (apply CallRd.mk1 (h1); (· rfl); conv => whnf)
      | (apply CallRd.mk1 (h4); (· rfl); conv => whnf))
        | (refine EndOk.mk (by kernel_rfl) ?_; conv => whnf)
        | (refine And.intro (by (first | decide | exact trivial | omega | exact Nat.le_refl _ | (((try simp only [decide_eq_true_eq, decide_eq_false_iff_not, cond_true, cond_false, beq_iff_eq, beq_eq_false_iff_ne, bne_iff_ne, bne_eq_false_iff_eq, ne_eq, Bool.not_eq_true', Bool.not_eq_false', Bool.not_eq_eq_eq_not, Bool.not_true, Bool.not_false, sLe_eq, Bool.and_eq_true, Bool.and_eq_false_iff, List.length_map, List.length_set, List.length_append, List.length_take, List.length_drop, List.length_replicate, List.length_cons, List.length_nil, lenMax, capMax, Int.toNat_natCast, gt_iff_lt, ge_iff_le] at *); (try simp (disch := omega) only [wr, wru, shr1, Int.tdiv_eq_ediv_of_nonneg] at *)); omega) | (((try simp only [decide_eq_true_eq, decide_eq_false_iff_not, cond_true, cond_false, beq_iff_eq, beq_eq_false_iff_ne, bne_iff_ne, bne_eq_false_iff_eq, ne_eq, Bool.not_eq_true', Bool.not_eq_false', Bool.not_eq_eq_eq_not, Bool.not_true, Bool.not_false, sLe_eq, Bool.and_eq_true, Bool.and_eq_false_iff, List.length_map, List.length_set, List.length_append, List.length_take, List.length_drop, List.length_replicate, List.length_cons, List.length_nil, lenMax, capMax, Int.toNat_natCast, gt_iff_lt, ge_iff_le] at *); (try simp (disch := omega) only [wr, wru, shr1, Int.tdiv_eq_ediv_of_nonneg] at *)); assumption))) ?_; conv => whnf)
        | (refine idxOld (by assumption) ?_; conv => whnf)
        | (refine idxMap (by (first | decide | exact trivial | omega | exact Nat.le_refl _ | (((try simp only [decide_eq_true_eq, decide_eq_false_iff_not, cond_true, cond_false, beq_iff_eq, beq_eq_false_iff_ne, bne_iff_ne, bne_eq_false_iff_eq, ne_eq, Bool.not_eq_true', Bool.not_eq_false', Bool.not_eq_eq_eq_not, Bool.not_true, Bool.not_false, sLe_eq, Bool.and_eq_true, Bool.and_eq_false_iff, List.length_map, List.length_set, List.length_append, List.length_take, List.length_drop, List.length_replicate, List.length_cons, List.length_nil, lenMax, capMax, Int.toNat_natCast, gt_iff_lt, ge_iff_le] at *); (try simp (disch := omega) only [wr, wru, shr1, Int.tdiv_eq_ediv_of_nonneg] at *)); omega) | (((try simp only [decide_eq_true_eq, decide_eq_false_iff_not, cond_true, cond_false, beq_iff_eq, beq_eq_false_iff_ne, bne_iff_ne, bne_eq_false_iff_eq, ne_eq, Bool.not_eq_true', Bool.not_eq_false', Bool.not_eq_eq_eq_not, Bool.not_true, Bool.not_false, sLe_eq, Bool.and_eq_true, Bool.and_eq_false_iff, List.length_map, List.length_set, List.length_append, List.length_take, List.length_drop, List.length_replicate, List.length_cons, List.length_nil, lenMax, capMax, Int.toNat_natCast, gt_iff_lt, ge_iff_le] at *); (try simp (disch := omega) only [wr, wru, shr1, Int.tdiv_eq_ediv_of_nonneg] at *)); assumption))) (fun _ _ => ?_); conv => whnf)
        | refine Exists.intro _ (And.intro (DV_toV rfl) ?_)
        | (refine rowSet (by (first | decide | exact trivial | omega | exact Nat.le_refl _ | (((try simp only [decide_eq_true_eq, decide_eq_false_iff_not, cond_true, cond_false, beq_iff_eq, beq_eq_false_iff_ne, bne_iff_ne, bne_eq_false_iff_eq, ne_eq, Bool.not_eq_true', Bool.not_eq_false', Bool.not_eq_eq_eq_not, Bool.not_true, Bool.not_false, sLe_eq, Bool.and_eq_true, Bool.and_eq_false_iff, List.length_map, List.length_set, List.length_append, List.length_take, List.length_drop, List.length_replicate, List.length_cons, List.length_nil, lenMax, capMax, Int.toNat_natCast, gt_iff_lt, ge_iff_le] at *); (try simp (disch := omega) only [wr, wru, shr1, Int.tdiv_eq_ediv_of_nonneg] at *)); omega) | (((try simp only [decide_eq_true_eq, decide_eq_false_iff_not, cond_true, cond_false, beq_iff_eq, beq_eq_false_iff_ne, bne_iff_ne, bne_eq_false_iff_eq, ne_eq, Bool.not_eq_true', Bool.not_eq_false', Bool.not_eq_eq_eq_not, Bool.not_true, Bool.not_false, sLe_eq, Bool.and_eq_true, Bool.and_eq_false_iff, List.length_map, List.length_set, List.length_append, List.length_take, List.length_drop, List.length_replicate, List.length_cons, List.length_nil, lenMax, capMax, Int.toNat_natCast, gt_iff_lt, ge_iff_le] at *); (try simp (disch := omega) only [wr, wru, shr1, Int.tdiv_eq_ediv_of_nonneg] at *)); assumption))) ?_; conv => whnf)
        | (refine rowOld (by assumption) ?_; conv => whnf)
        | (refine rowNew (by (first | decide | exact trivial | omega | exact Nat.le_refl _ | (((try simp only [decide_eq_true_eq, decide_eq_false_iff_not, cond_true, cond_false, beq_iff_eq, beq_eq_false_iff_ne, bne_iff_ne, bne_eq_false_iff_eq, ne_eq, Bool.not_eq_true', Bool.not_eq_false', Bool.not_eq_eq_eq_not, Bool.not_true, Bool.not_false, sLe_eq, Bool.and_eq_true, Bool.and_eq_false_iff, List.length_map, List.length_set, List.length_append, List.length_take, List.length_drop, List.length_replicate, List.length_cons, List.length_nil, lenMax, capMax, Int.toNat_natCast, gt_iff_lt, ge_iff_le] at *); (try simp (disch := omega) only [wr, wru, shr1, Int.tdiv_eq_ediv_of_nonneg] at *)); omega) | (((try simp only [decide_eq_true_eq, decide_eq_false_iff_not, cond_true, cond_false, beq_iff_eq, beq_eq_false_iff_ne, bne_iff_ne, bne_eq_false_iff_eq, ne_eq, Bool.not_eq_true', Bool.not_eq_false', Bool.not_eq_eq_eq_not, Bool.not_true, Bool.not_false, sLe_eq, Bool.and_eq_true, Bool.and_eq_false_iff, List.length_map, List.length_set, List.length_append, List.length_take, List.length_drop, List.length_replicate, List.length_cons, List.length_nil, lenMax, capMax, Int.toNat_natCast, gt_iff_lt, ge_iff_le] at *); (try simp (disch := omega) only [wr, wru, shr1, Int.tdiv_eq_ediv_of_nonneg] at *)); assumption))) (fun _ _ => ?_); conv => whnf)
        | (apply WpD.id; first
      | (refine WpD.scope ?_)
      | (refine WpD.loopAt 23 rfl (fun k : Nat => ⟨[(0, .v (.str ds)), (1, .v (.int .i32 r)), (7, .v (.str e)), (8, .v (.int .i64 2)), (9, .v (.int .i64 2)), (10, .v (.int .i64 0))], [], []⟩) (fun k => k = 0) (fun k => 0) ?_ (fun k hk => ?_); rotate_left)
      | (refine WpD.walk rfl ?_; conv => whnf))
      all_goals first
        | rfl
        | (refine ⟨0, [], rfl, ⟨by decide, rfl, ?_, trivial, rfl⟩⟩
           rw [hE, hsz]
           (repeat' first | exact trivial | rfl | apply And.intro | (refine leInt rfl ?_; first | omega | (dsimp only; omega)) | (refine leArr rfl ?_ rfl; (simp; try omega)) | (refine leBool rfl ?_; assumption))
           done)
    · have h4 := h3 3
      clear h2 h3 hq hne hb
      refine callV_of Tryd.func48 rfl (Nat.le_of_ble_eq_true rfl) (by kernel_rfl) ?_
      repeat' first
        | (apply Br.id; first
      | (apply Br.tt; try conv => whnf)
      | (apply Br.ff; try conv => whnf)
      | (refine Br.of_t (by assumption) ?_; conv => whnf)
      | (refine Br.of_f (by assumption) ?_; conv => whnf)
      | (refine Br.mk (fun _ => ?_) (fun _ => ?_) <;> try conv => whnf))
        | (apply CallOp.id; first
      | (refine call_at rfl rfl rfl rfl rfl ?_)
      | (refine call_rd rfl rfl rfl rfl rfl ?_)
      | (refine CallOp.std ?_; (conv => whnf); fail_if_success refine (?_ : False)))
        | (apply CallDet.id; first
      | (refine call_atD rfl rfl rfl rfl rfl ?_)
      | (refine call_rdD rfl rfl rfl rfl rfl ?_)
      | (refine CallDet.std ?_; (conv => whnf); fail_if_success refine (?_ : False)))
        | (apply CallAt.id; first
      | (apply CallAt.mk1 (h1); conv => whnf)
      | (apply CallAt.mk1 (h4); conv => whnf))
        | (apply CallRd.id; first
      | (apply CallRd.mk1 (h1); (· rfl); conv => whnf)
      | (apply CallRd.mk1 (h4); (· rfl); conv => whnf))
        | (refine EndOk.mk (by kernel_rfl) ?_; conv => whnf)
        | (refine And.intro (by (first | decide | exact trivial | omega | exact Nat.le_refl _ | (((try simp only [decide_eq_true_eq, decide_eq_false_iff_not, cond_true, cond_false, beq_iff_eq, beq_eq_false_iff_ne, bne_iff_ne, bne_eq_false_iff_eq, ne_eq, Bool.not_eq_true', Bool.not_eq_false', Bool.not_eq_eq_eq_not, Bool.not_true, Bool.not_false, sLe_eq, Bool.and_eq_true, Bool.and_eq_false_iff, List.length_map, List.length_set, List.length_append, List.length_take, List.length_drop, List.length_replicate, List.length_cons, List.length_nil, lenMax, capMax, Int.toNat_natCast, gt_iff_lt, ge_iff_le] at *); (try simp (disch := omega) only [wr, wru, shr1, Int.tdiv_eq_ediv_of_nonneg] at *)); omega) | (((try simp only [decide_eq_true_eq, decide_eq_false_iff_not, cond_true, cond_false, beq_iff_eq, beq_eq_false_iff_ne, bne_iff_ne, bne_eq_false_iff_eq, ne_eq, Bool.not_eq_true', Bool.not_eq_false', Bool.not_eq_eq_eq_not, Bool.not_true, Bool.not_false, sLe_eq, Bool.and_eq_true, Bool.and_eq_false_iff, List.length_map, List.length_set, List.length_append, List.length_take, List.length_drop, List.length_replicate, List.length_cons, List.length_nil, lenMax, capMax, Int.toNat_natCast, gt_iff_lt, ge_iff_le] at *); (try simp (disch := omega) only [wr, wru, shr1, Int.tdiv_eq_ediv_of_nonneg] at *)); assumption))) ?_; conv => whnf)
        | (refine idxOld (by assumption) ?_; conv => whnf)
        | (refine idxMap (by (first | decide | exact trivial | omega | exact Nat.le_refl _ | (((try simp only [decide_eq_true_eq, decide_eq_false_iff_not, cond_true, cond_false, beq_iff_eq, beq_eq_false_iff_ne, bne_iff_ne, bne_eq_false_iff_eq, ne_eq, Bool.not_eq_true', Bool.not_eq_false', Bool.not_eq_eq_eq_not, Bool.not_true, Bool.not_false, sLe_eq, Bool.and_eq_true, Bool.and_eq_false_iff, List.length_map, List.length_set, List.length_append, List.length_take, List.length_drop, List.length_replicate, List.length_cons, List.length_nil, lenMax, capMax, Int.toNat_natCast, gt_iff_lt, ge_iff_le] at *); (try simp (disch := omega) only [wr, wru, shr1, Int.tdiv_eq_ediv_of_nonneg] at *)); omega) | (((try simp only [decide_eq_true_eq, decide_eq_false_iff_not, cond_true, cond_false, beq_iff_eq, beq_eq_false_iff_ne, bne_iff_ne, bne_eq_false_iff_eq, ne_eq, Bool.not_eq_true', Bool.not_eq_false', Bool.not_eq_eq_eq_not, Bool.not_true, Bool.not_false, sLe_eq, Bool.and_eq_true, Bool.and_eq_false_iff, List.length_map, List.length_set, List.length_append, List.length_take, List.length_drop, List.length_replicate, List.length_cons, List.length_nil, lenMax, capMax, Int.toNat_natCast, gt_iff_lt, ge_iff_le] at *); (try simp (disch := omega) only [wr, wru, shr1, Int.tdiv_eq_ediv_of_nonneg] at *)); assumption))) (fun _ _ => ?_); conv => whnf)
        | refine Exists.intro _ (And.intro (DV_toV rfl) ?_)
        | (refine rowSet (by (first | decide | exact trivial | omega | exact Nat.le_refl _ | (((try simp only [decide_eq_true_eq, decide_eq_false_iff_not, cond_true, cond_false, beq_iff_eq, beq_eq_false_iff_ne, bne_iff_ne, bne_eq_false_iff_eq, ne_eq, Bool.not_eq_true', Bool.not_eq_false', Bool.not_eq_eq_eq_not, Bool.not_true, Bool.not_false, sLe_eq, Bool.and_eq_true, Bool.and_eq_false_iff, List.length_map, List.length_set, List.length_append, List.length_take, List.length_drop, List.length_replicate, List.length_cons, List.length_nil, lenMax, capMax, Int.toNat_natCast, gt_iff_lt, ge_iff_le] at *); (try simp (disch := omega) only [wr, wru, shr1, Int.tdiv_eq_ediv_of_nonneg] at *)); omega) | (((try simp only [decide_eq_true_eq, decide_eq_false_iff_not, cond_true, cond_false, beq_iff_eq, beq_eq_false_iff_ne, bne_iff_ne, bne_eq_false_iff_eq, ne_eq, Bool.not_eq_true', Bool.not_eq_false', Bool.not_eq_eq_eq_not, Bool.not_true, Bool.not_false, sLe_eq, Bool.and_eq_true, Bool.and_eq_false_iff, List.length_map, List.length_set, List.length_append, List.length_take, List.length_drop, List.length_replicate, List.length_cons, List.length_nil, lenMax, capMax, Int.toNat_natCast, gt_iff_lt, ge_iff_le] at *); (try simp (disch := omega) only [wr, wru, shr1, Int.tdiv_eq_ediv_of_nonneg] at *)); assumption))) ?_; conv => whnf)
        | (refine rowOld (by assumption) ?_; conv => whnf)
        | (refine rowNew (by (first | decide | exact trivial | omega | exact Nat.le_refl _ | (((try simp only [decide_eq_true_eq, decide_eq_false_iff_not, cond_true, cond_false, beq_iff_eq, beq_eq_false_iff_ne, bne_iff_ne, bne_eq_false_iff_eq, ne_eq, Bool.not_eq_true', Bool.not_eq_false', Bool.not_eq_eq_eq_not, Bool.not_true, Bool.not_false, sLe_eq, Bool.and_eq_true, Bool.and_eq_false_iff, List.length_map, List.length_set, List.length_append, List.length_take, List.length_drop, List.length_replicate, List.length_cons, List.length_nil, lenMax, capMax, Int.toNat_natCast, gt_iff_lt, ge_iff_le] at *); (try simp (disch := omega) only [wr, wru, shr1, Int.tdiv_eq_ediv_of_nonneg] at *)); omega) | (((try simp only [decide_eq_true_eq, decide_eq_false_iff_not, cond_true, cond_false, beq_iff_eq, beq_eq_false_iff_ne, bne_iff_ne, bne_eq_false_iff_eq, ne_eq, Bool.not_eq_true', Bool.not_eq_false', Bool.not_eq_eq_eq_not, Bool.not_true, Bool.not_false, sLe_eq, Bool.and_eq_true, Bool.and_eq_false_iff, List.length_map, List.length_set, List.length_append, List.length_take, List.length_drop, List.length_replicate, List.length_cons, List.length_nil, lenMax, capMax, Int.toNat_natCast, gt_iff_lt, ge_iff_le] at *); (try simp (disch := omega) only [wr, wru, shr1, Int.tdiv_eq_ediv_of_nonneg] at *)); assumption))) (fun _ _ => ?_); conv => whnf)
        | (apply WpD.id; first
      | (refine WpD.scope ?_)
      | (refine WpD.loopAt 23 rfl (fun k : Nat => ⟨[(0, .v (.str ds)), (1, .v (.int .i32 r)), (7, .v (.str e)), (8, .v (.int .i64 3)), (9, .v (.int .i64 3)), (10, .v (.int .i64 0))], [], []⟩) (fun k => k = 0) (fun k => 0) ?_ (fun k hk => ?_); rotate_left)
      | (refine WpD.walk rfl ?_; conv => whnf))
      all_goals first
        | rfl
        | (refine ⟨0, [], rfl, ⟨by decide, rfl, ?_, trivial, rfl⟩⟩
           rw [hE, hsz]
           (repeat' first | exact trivial | rfl | apply And.intro | (refine leInt rfl ?_; first | omega | (dsimp only; omega)) | (refine leArr rfl ?_ rfl; (simp; try omega)) | (refine leBool rfl ?_; assumption))
           done)
end Go.DL
