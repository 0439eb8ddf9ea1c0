/- Hosts: Print. No condition. -/
import Derived.Test.YtacpahgoomdfaaaDoorH8
set_option linter.unusedVariables false
set_option linter.unusedSimpArgs false
set_option maxHeartbeats 4000000
namespace Go.DL
open Go.Proofs

theorem sg_ext {r : Int} (h : 1 ≤ r ∧ r ≤ 4) : (ByteArray.extract ⟨#[43, 45, 126, 63]⟩ (r - 1).toNat 4).extract 0 1 = sgn r := by
  have : r = 1 ∨ r = 2 ∨ r = 3 ∨ r = 4 := by omega
  rcases this with rfl | rfl | rfl | rfl <;> rfl
theorem sg_sz {r : Int} (h : 1 ≤ r ∧ r ≤ 4) : (1 : Int) ≤ (((ByteArray.extract ⟨#[43, 45, 126, 63]⟩ (r - 1).toNat 4).size : Nat) : Int) := by
  have : r = 1 ∨ r = 2 ∨ r = 3 ∨ r = 4 := by omega
  rcases this with rfl | rfl | rfl | rfl <;> decide
abbrev ext0 (r : Int) : ByteArray := ByteArray.extract ⟨#[43, 45, 126, 63]⟩ (IntKind.wrap .i64 (r - 1)).toNat (((⟨#[43, 45, 126, 63]⟩ : ByteArray).size : Nat) : Int).toNat
abbrev extE (r : Int) : ByteArray := (ext0 r).extract (((0 : Nat) : Int)).toNat (Int.toNat 1)
structure Fx (r : Int) : Prop where
  g00 : 0 ≤ IntKind.wrap .i64 (r - 1)
  g0 : IntKind.wrap .i64 (r - 1) ≤ (((⟨#[43, 45, 126, 63]⟩ : ByteArray).size : Nat) : Int)
  h0 : (1 : Int) ≤ (((ext0 r).size : Nat) : Int)
  e : extE r = sgn r
  m1 : (⟨#[32]⟩ : ByteArray).size + (extE r).size ≤ 9223372036854775807
  m2 : ∀ w : ByteArray, w.size ≤ 10 → ((⟨#[32]⟩ : ByteArray) ++ extE r).size + w.size ≤ 9223372036854775807
  m3 : ∀ w n : ByteArray, w.size ≤ 10 → n.size ≤ 60 → ((⟨#[32]⟩ : ByteArray) ++ extE r ++ w).size + n.size ≤ 9223372036854775807
  m4 : ∀ o w n : ByteArray, o.size ≤ 6000 → w.size ≤ 10 → n.size ≤ 60 → o.size + ((⟨#[32]⟩ : ByteArray) ++ extE r ++ w ++ n).size ≤ 9223372036854775807
theorem fx_of {r : Int} (h : 1 ≤ r ∧ r ≤ 4) : Fx r := by
  have gw : IntKind.wrap .i64 (r - 1) = r - 1 := wr (by omega) (by omega)
  have he : extE r = sgn r := by
    unfold extE ext0
    rw [gw, show (((⟨#[43, 45, 126, 63]⟩ : ByteArray).size : Nat) : Int).toNat = 4 from rfl, show (((0 : Nat) : Int)).toNat = 0 from rfl, show Int.toNat 1 = 1 from rfl]
    exact sg_ext h
  have hs : (extE r).size = 1 := by rw [he]; exact sgn_size r
  have h1 : (⟨#[32]⟩ : ByteArray).size = 1 := rfl
  refine ⟨by rw [gw]; omega, ?_, ?_, he, by rw [h1, hs]; omega, fun w hw => ?_, fun w n hw hn => ?_, fun o w n ho hw hn => ?_⟩
  · rw [gw]; show r - 1 ≤ 4; omega
  · unfold ext0; rw [gw, show (((⟨#[43, 45, 126, 63]⟩ : ByteArray).size : Nat) : Int).toNat = 4 from rfl]; exact sg_sz h
  · simp only [app_size, hs, h1]; omega
  · simp only [app_size, hs, h1]; omega
  · simp only [app_size, hs, h1]; omega
theorem leStr {o : Option D} {x y : ByteArray} (h : o = some (.v (.str x))) (e : x = y) : o = some (.v (.str y)) := by rw [h, e]
theorem c_Print (p : Pl) : CallV tab 19 [.agg p.row] (· = .tup [.str (prA p).1, fv (prA p).2]) := by
  have h1 := c_Validate p
  by_cases hp : pF p = (0, 0)
  · obtain ⟨hd, hl, hr⟩ := pF_ok hp
    rw [hp] at h1
    refine callV_of Tryd.func19 rfl (Nat.le_of_ble_eq_true rfl) (by kernel_rfl) ?_
    repeat' first
      | (apply Br.id; first
      | (apply Br.tt; try conv => whnf)
      | (apply Br.ff; try conv => whnf)
      | (refine Br.of_t (by assumption) ?_; conv => whnf)
      | (refine Br.of_f (by assumption) ?_; conv => whnf)
      | (refine Br.mk (fun _ => ?_) (fun _ => ?_) <;> try conv => whnf))
      | (apply CallOp.id; first
      | (refine call_at rfl rfl rfl rfl rfl ?_)
      | (refine call_rd rfl rfl rfl rfl rfl ?_)
      | (refine CallOp.std ?_; (conv => whnf); fail_if_success refine (?_ : False)))
      | (apply CallDet.id; first
      | (refine call_atD rfl rfl rfl rfl rfl ?_)
      | (refine call_rdD rfl rfl rfl rfl rfl ?_)
      | (refine CallDet.std ?_; (conv => whnf); fail_if_success refine (?_ : False)))
      | (apply CallAt.id; first
      | (apply CallAt.mk1 (h1); conv => whnf))
      | (apply CallRd.id; first
      | (apply CallRd.mk1 (h1); (· rfl); conv => whnf))
      | (refine EndOk.mk (by kernel_rfl) ?_; conv => whnf)
      | (refine And.intro (by with_reducible exact hF.g00) ?_; conv => whnf)
      | (refine And.intro (by with_reducible exact hF.g0) ?_; conv => whnf)
      | (refine And.intro (by with_reducible exact hF.h0) ?_; conv => whnf)
      | (refine And.intro (by with_reducible exact hF.m1) ?_; conv => whnf)
      | (refine And.intro (by with_reducible exact hF.m2 _ (by decide)) ?_; conv => whnf)
      | (refine And.intro (by with_reducible exact hF.m3 _ _ (by decide) hn) ?_; conv => whnf)
      | (refine And.intro (by with_reducible exact hF.m4 _ _ _ (by omega) (by decide) hn) ?_; conv => whnf)
      | (refine And.intro (by (first | decide | exact trivial | omega | with_reducible exact Nat.le_refl _ | (((try simp only [decide_eq_true_eq, decide_eq_false_iff_not, cond_true, cond_false, beq_iff_eq, beq_eq_false_iff_ne, bne_iff_ne, bne_eq_false_iff_eq, ne_eq, Bool.not_eq_true', Bool.not_eq_false', Bool.not_eq_eq_eq_not, Bool.not_true, Bool.not_false, sLe_eq, Bool.and_eq_true, Bool.and_eq_false_iff, List.length_map, List.length_set, List.length_append, List.length_take, List.length_drop, List.length_replicate, List.length_cons, List.length_nil, lenMax, capMax, Int.toNat_natCast, gt_iff_lt, ge_iff_le] at *); (try simp (disch := omega) only [wr, wru, shr1, Int.tdiv_eq_ediv_of_nonneg] at *)); omega) | (((try simp only [decide_eq_true_eq, decide_eq_false_iff_not, cond_true, cond_false, beq_iff_eq, beq_eq_false_iff_ne, bne_iff_ne, bne_eq_false_iff_eq, ne_eq, Bool.not_eq_true', Bool.not_eq_false', Bool.not_eq_eq_eq_not, Bool.not_true, Bool.not_false, sLe_eq, Bool.and_eq_true, Bool.and_eq_false_iff, List.length_map, List.length_set, List.length_append, List.length_take, List.length_drop, List.length_replicate, List.length_cons, List.length_nil, lenMax, capMax, Int.toNat_natCast, gt_iff_lt, ge_iff_le] at *); (try simp (disch := omega) only [wr, wru, shr1, Int.tdiv_eq_ediv_of_nonneg] at *)); with_reducible assumption))) ?_; conv => whnf)
      | (refine idxOld (by assumption) ?_; conv => whnf)
      | (refine idxMap (by (first | decide | exact trivial | omega | with_reducible exact Nat.le_refl _ | (((try simp only [decide_eq_true_eq, decide_eq_false_iff_not, cond_true, cond_false, beq_iff_eq, beq_eq_false_iff_ne, bne_iff_ne, bne_eq_false_iff_eq, ne_eq, Bool.not_eq_true', Bool.not_eq_false', Bool.not_eq_eq_eq_not, Bool.not_true, Bool.not_false, sLe_eq, Bool.and_eq_true, Bool.and_eq_false_iff, List.length_map, List.length_set, List.length_append, List.length_take, List.length_drop, List.length_replicate, List.length_cons, List.length_nil, lenMax, capMax, Int.toNat_natCast, gt_iff_lt, ge_iff_le] at *); (try simp (disch := omega) only [wr, wru, shr1, Int.tdiv_eq_ediv_of_nonneg] at *)); omega) | (((try simp only [decide_eq_true_eq, decide_eq_false_iff_not, cond_true, cond_false, beq_iff_eq, beq_eq_false_iff_ne, bne_iff_ne, bne_eq_false_iff_eq, ne_eq, Bool.not_eq_true', Bool.not_eq_false', Bool.not_eq_eq_eq_not, Bool.not_true, Bool.not_false, sLe_eq, Bool.and_eq_true, Bool.and_eq_false_iff, List.length_map, List.length_set, List.length_append, List.length_take, List.length_drop, List.length_replicate, List.length_cons, List.length_nil, lenMax, capMax, Int.toNat_natCast, gt_iff_lt, ge_iff_le] at *); (try simp (disch := omega) only [wr, wru, shr1, Int.tdiv_eq_ediv_of_nonneg] at *)); with_reducible assumption))) (fun _ _ => ?_); conv => whnf)
      | refine Exists.intro _ (And.intro (DV_toV rfl) ?_)
      | (refine rowSet (by (first | decide | exact trivial | omega | with_reducible exact Nat.le_refl _ | (((try simp only [decide_eq_true_eq, decide_eq_false_iff_not, cond_true, cond_false, beq_iff_eq, beq_eq_false_iff_ne, bne_iff_ne, bne_eq_false_iff_eq, ne_eq, Bool.not_eq_true', Bool.not_eq_false', Bool.not_eq_eq_eq_not, Bool.not_true, Bool.not_false, sLe_eq, Bool.and_eq_true, Bool.and_eq_false_iff, List.length_map, List.length_set, List.length_append, List.length_take, List.length_drop, List.length_replicate, List.length_cons, List.length_nil, lenMax, capMax, Int.toNat_natCast, gt_iff_lt, ge_iff_le] at *); (try simp (disch := omega) only [wr, wru, shr1, Int.tdiv_eq_ediv_of_nonneg] at *)); omega) | (((try simp only [decide_eq_true_eq, decide_eq_false_iff_not, cond_true, cond_false, beq_iff_eq, beq_eq_false_iff_ne, bne_iff_ne, bne_eq_false_iff_eq, ne_eq, Bool.not_eq_true', Bool.not_eq_false', Bool.not_eq_eq_eq_not, Bool.not_true, Bool.not_false, sLe_eq, Bool.and_eq_true, Bool.and_eq_false_iff, List.length_map, List.length_set, List.length_append, List.length_take, List.length_drop, List.length_replicate, List.length_cons, List.length_nil, lenMax, capMax, Int.toNat_natCast, gt_iff_lt, ge_iff_le] at *); (try simp (disch := omega) only [wr, wru, shr1, Int.tdiv_eq_ediv_of_nonneg] at *)); with_reducible assumption))) ?_; conv => whnf)
      | (refine rowOld (by assumption) ?_; conv => whnf)
      | (refine rowNew (by (first | decide | exact trivial | omega | with_reducible exact Nat.le_refl _ | (((try simp only [decide_eq_true_eq, decide_eq_false_iff_not, cond_true, cond_false, beq_iff_eq, beq_eq_false_iff_ne, bne_iff_ne, bne_eq_false_iff_eq, ne_eq, Bool.not_eq_true', Bool.not_eq_false', Bool.not_eq_eq_eq_not, Bool.not_true, Bool.not_false, sLe_eq, Bool.and_eq_true, Bool.and_eq_false_iff, List.length_map, List.length_set, List.length_append, List.length_take, List.length_drop, List.length_replicate, List.length_cons, List.length_nil, lenMax, capMax, Int.toNat_natCast, gt_iff_lt, ge_iff_le] at *); (try simp (disch := omega) only [wr, wru, shr1, Int.tdiv_eq_ediv_of_nonneg] at *)); omega) | (((try simp only [decide_eq_true_eq, decide_eq_false_iff_not, cond_true, cond_false, beq_iff_eq, beq_eq_false_iff_ne, bne_iff_ne, bne_eq_false_iff_eq, ne_eq, Bool.not_eq_true', Bool.not_eq_false', Bool.not_eq_eq_eq_not, Bool.not_true, Bool.not_false, sLe_eq, Bool.and_eq_true, Bool.and_eq_false_iff, List.length_map, List.length_set, List.length_append, List.length_take, List.length_drop, List.length_replicate, List.length_cons, List.length_nil, lenMax, capMax, Int.toNat_natCast, gt_iff_lt, ge_iff_le] at *); (try simp (disch := omega) only [wr, wru, shr1, Int.tdiv_eq_ediv_of_nonneg] at *)); with_reducible assumption))) (fun _ _ => ?_); conv => whnf)
      | (apply WpD.id; first
      | (refine WpD.loopAt 20 rfl (fun k : Nat => ⟨[(3, .ptr 0 0 0), (5, .v (.str ((p.l.take k).foldl addR p.d))), (17, .v (.sl 3 p.z (p.l.map Rl.row))), (18, .v (.int .i64 p.l.length)), (19, .v (.int .i64 k))], [.arr 2 (vrows [[.int .i64 0, .int .i64 0]])], []⟩) (fun k => k ≤ p.l.length) (fun k => p.l.length - k) ?_ (fun k hk => ?_); rotate_left; rcases Nat.lt_or_ge k p.l.length with hlt | hge; (obtain ⟨x, hx⟩ : ∃ x, p.l[k]? = some x := ⟨_, List.getElem?_eq_getElem hlt⟩); (have hrx := hr x (List.mem_of_getElem? hx)); (have hn := hrx.n); (have hr4 := hrx.r); (have hk4 := hrx.k); (have hsz := txt_size (fun x hx => (hr x hx).n) p.d k); (have hnx : (p.l.take (k + 1)).foldl addR p.d = addR ((p.l.take k).foldl addR p.d) x := by { rw [take_get hx, List.foldl_append]; rfl }); (have dk : decide ((k : Int) < (p.l.length : Int)) = true := by { simp; omega }); (have dk2 : decide ((k : Int) < ((p.l.map Rl.row).length : Int)) = true := by { simp; omega }); (generalize (p.l.take k).foldl addR p.d = out at *); (obtain ⟨xr, xk, xn⟩ := x); dsimp only at hn hr4 hk4; (have hx0 : p.l[((k : Nat) : Int).toNat]? = some ⟨xr, xk, xn⟩ := hx); (have t1 := sgn_size xr); (have t2 := wrd_size xk); (have hF := fx_of hr4); (have hk4' : xk = 1 ∨ xk = 2 ∨ xk = 3 ∨ xk = 4 := by omega); rcases hk4' with rfl | rfl | rfl | rfl; rotate_left 4; (have dk : decide ((k : Int) < (p.l.length : Int)) = false := by { simp; omega }); (have dk2 : decide ((k : Int) < ((p.l.map Rl.row).length : Int)) = false := by { simp; omega }); rotate_left)
      | (refine WpD.walk rfl ?_; conv => whnf))
    all_goals clear h1
    all_goals first
      | (refine ⟨0, [1], Nat.zero_le _, ⟨by decide, rfl, ?_, ?_, rfl⟩⟩
         · (repeat' first | exact trivial | rfl | apply And.intro | (refine leInt rfl ?_; simp; done))
           done
         · exact ⟨obLe_v rfl, trivial⟩)
      | (refine ⟨k + 1, [0], by omega, ⟨⟨by decide, rfl, ?_, ?_, rfl⟩, by omega⟩⟩
         · refine ⟨rfl, rfl, leStr rfl ?_, rfl, rfl, rfl, rfl, rfl, leInt rfl (wr (by omega) (by omega)), rfl, trivial⟩
           rw [hnx]
           show out ++ (((⟨#[32]⟩ ++ extE xr) ++ _) ++ xn) = _
           rw [hF.e]
           rfl
         · exact ⟨obLe_v rfl, trivial⟩)
      | (have ht : pText p = (p.l.take k).foldl addR p.d := by rw [pText, show p.l.take k = p.l by rw [List.take_of_length_le (by omega)]]
         unfold prA
         simp only [decide_eq_true_eq, decide_eq_false_iff_not] at *
         first
         | (rw [if_neg (by simp [hp]), if_pos (by rw [ht]; omega)]; rfl)
         | (rw [if_neg (by simp [hp]), if_neg (by rw [ht]; omega), ht]; rfl))
      | skip
    all_goals trace_state
  · have dne : (!((pF p).1 == 0 && ((pF p).2 == 0 && true))) = true := by
      cases h : (!((pF p).1 == 0 && ((pF p).2 == 0 && true))) with
      | true => rfl
      | false => exact absurd (by simp at h; exact Prod.ext h.1 h.2) hp
    refine callV_of Tryd.func19 rfl (Nat.le_of_ble_eq_true rfl) (by kernel_rfl) ?_
    repeat' first
      | (apply Br.id; first
      | (apply Br.tt; try conv => whnf)
      | (apply Br.ff; try conv => whnf)
      | (refine Br.of_t (by assumption) ?_; conv => whnf)
      | (refine Br.of_f (by assumption) ?_; conv => whnf)
      | (refine Br.mk (fun _ => ?_) (fun _ => ?_) <;> try conv => whnf))
      | (apply CallOp.id; first
      | (refine call_at rfl rfl rfl rfl rfl ?_)
      | (refine call_rd rfl rfl rfl rfl rfl ?_)
      | (refine CallOp.std ?_; (conv => whnf); fail_if_success refine (?_ : False)))
      | (apply CallDet.id; first
      | (refine call_atD rfl rfl rfl rfl rfl ?_)
      | (refine call_rdD rfl rfl rfl rfl rfl ?_)
      | (refine CallDet.std ?_; (conv => whnf); fail_if_success refine (?_ : False)))
      | (apply CallAt.id; first
      | (apply CallAt.mk1 (h1); conv => whnf))
      | (apply CallRd.id; first
      | (apply CallRd.mk1 (h1); (· rfl); conv => whnf))
      | (refine EndOk.mk (by kernel_rfl) ?_; conv => whnf)
      | (refine And.intro (by (first | decide | exact trivial | omega | with_reducible exact Nat.le_refl _ | (((try simp only [decide_eq_true_eq, decide_eq_false_iff_not, cond_true, cond_false, beq_iff_eq, beq_eq_false_iff_ne, bne_iff_ne, bne_eq_false_iff_eq, ne_eq, Bool.not_eq_true', Bool.not_eq_false', Bool.not_eq_eq_eq_not, Bool.not_true, Bool.not_false, sLe_eq, Bool.and_eq_true, Bool.and_eq_false_iff, List.length_map, List.length_set, List.length_append, List.length_take, List.length_drop, List.length_replicate, List.length_cons, List.length_nil, lenMax, capMax, Int.toNat_natCast, gt_iff_lt, ge_iff_le] at *); (try simp (disch := omega) only [wr, wru, shr1, Int.tdiv_eq_ediv_of_nonneg] at *)); omega) | (((try simp only [decide_eq_true_eq, decide_eq_false_iff_not, cond_true, cond_false, beq_iff_eq, beq_eq_false_iff_ne, bne_iff_ne, bne_eq_false_iff_eq, ne_eq, Bool.not_eq_true', Bool.not_eq_false', Bool.not_eq_eq_eq_not, Bool.not_true, Bool.not_false, sLe_eq, Bool.and_eq_true, Bool.and_eq_false_iff, List.length_map, List.length_set, List.length_append, List.length_take, List.length_drop, List.length_replicate, List.length_cons, List.length_nil, lenMax, capMax, Int.toNat_natCast, gt_iff_lt, ge_iff_le] at *); (try simp (disch := omega) only [wr, wru, shr1, Int.tdiv_eq_ediv_of_nonneg] at *)); with_reducible assumption))) ?_; conv => whnf)
      | (refine idxOld (by assumption) ?_; conv => whnf)
      | (refine idxMap (by (first | decide | exact trivial | omega | with_reducible exact Nat.le_refl _ | (((try simp only [decide_eq_true_eq, decide_eq_false_iff_not, cond_true, cond_false, beq_iff_eq, beq_eq_false_iff_ne, bne_iff_ne, bne_eq_false_iff_eq, ne_eq, Bool.not_eq_true', Bool.not_eq_false', Bool.not_eq_eq_eq_not, Bool.not_true, Bool.not_false, sLe_eq, Bool.and_eq_true, Bool.and_eq_false_iff, List.length_map, List.length_set, List.length_append, List.length_take, List.length_drop, List.length_replicate, List.length_cons, List.length_nil, lenMax, capMax, Int.toNat_natCast, gt_iff_lt, ge_iff_le] at *); (try simp (disch := omega) only [wr, wru, shr1, Int.tdiv_eq_ediv_of_nonneg] at *)); omega) | (((try simp only [decide_eq_true_eq, decide_eq_false_iff_not, cond_true, cond_false, beq_iff_eq, beq_eq_false_iff_ne, bne_iff_ne, bne_eq_false_iff_eq, ne_eq, Bool.not_eq_true', Bool.not_eq_false', Bool.not_eq_eq_eq_not, Bool.not_true, Bool.not_false, sLe_eq, Bool.and_eq_true, Bool.and_eq_false_iff, List.length_map, List.length_set, List.length_append, List.length_take, List.length_drop, List.length_replicate, List.length_cons, List.length_nil, lenMax, capMax, Int.toNat_natCast, gt_iff_lt, ge_iff_le] at *); (try simp (disch := omega) only [wr, wru, shr1, Int.tdiv_eq_ediv_of_nonneg] at *)); with_reducible assumption))) (fun _ _ => ?_); conv => whnf)
      | refine Exists.intro _ (And.intro (DV_toV rfl) ?_)
      | (refine rowSet (by (first | decide | exact trivial | omega | with_reducible exact Nat.le_refl _ | (((try simp only [decide_eq_true_eq, decide_eq_false_iff_not, cond_true, cond_false, beq_iff_eq, beq_eq_false_iff_ne, bne_iff_ne, bne_eq_false_iff_eq, ne_eq, Bool.not_eq_true', Bool.not_eq_false', Bool.not_eq_eq_eq_not, Bool.not_true, Bool.not_false, sLe_eq, Bool.and_eq_true, Bool.and_eq_false_iff, List.length_map, List.length_set, List.length_append, List.length_take, List.length_drop, List.length_replicate, List.length_cons, List.length_nil, lenMax, capMax, Int.toNat_natCast, gt_iff_lt, ge_iff_le] at *); (try simp (disch := omega) only [wr, wru, shr1, Int.tdiv_eq_ediv_of_nonneg] at *)); omega) | (((try simp only [decide_eq_true_eq, decide_eq_false_iff_not, cond_true, cond_false, beq_iff_eq, beq_eq_false_iff_ne, bne_iff_ne, bne_eq_false_iff_eq, ne_eq, Bool.not_eq_true', Bool.not_eq_false', Bool.not_eq_eq_eq_not, Bool.not_true, Bool.not_false, sLe_eq, Bool.and_eq_true, Bool.and_eq_false_iff, List.length_map, List.length_set, List.length_append, List.length_take, List.length_drop, List.length_replicate, List.length_cons, List.length_nil, lenMax, capMax, Int.toNat_natCast, gt_iff_lt, ge_iff_le] at *); (try simp (disch := omega) only [wr, wru, shr1, Int.tdiv_eq_ediv_of_nonneg] at *)); with_reducible assumption))) ?_; conv => whnf)
      | (refine rowOld (by assumption) ?_; conv => whnf)
      | (refine rowNew (by (first | decide | exact trivial | omega | with_reducible exact Nat.le_refl _ | (((try simp only [decide_eq_true_eq, decide_eq_false_iff_not, cond_true, cond_false, beq_iff_eq, beq_eq_false_iff_ne, bne_iff_ne, bne_eq_false_iff_eq, ne_eq, Bool.not_eq_true', Bool.not_eq_false', Bool.not_eq_eq_eq_not, Bool.not_true, Bool.not_false, sLe_eq, Bool.and_eq_true, Bool.and_eq_false_iff, List.length_map, List.length_set, List.length_append, List.length_take, List.length_drop, List.length_replicate, List.length_cons, List.length_nil, lenMax, capMax, Int.toNat_natCast, gt_iff_lt, ge_iff_le] at *); (try simp (disch := omega) only [wr, wru, shr1, Int.tdiv_eq_ediv_of_nonneg] at *)); omega) | (((try simp only [decide_eq_true_eq, decide_eq_false_iff_not, cond_true, cond_false, beq_iff_eq, beq_eq_false_iff_ne, bne_iff_ne, bne_eq_false_iff_eq, ne_eq, Bool.not_eq_true', Bool.not_eq_false', Bool.not_eq_eq_eq_not, Bool.not_true, Bool.not_false, sLe_eq, Bool.and_eq_true, Bool.and_eq_false_iff, List.length_map, List.length_set, List.length_append, List.length_take, List.length_drop, List.length_replicate, List.length_cons, List.length_nil, lenMax, capMax, Int.toNat_natCast, gt_iff_lt, ge_iff_le] at *); (try simp (disch := omega) only [wr, wru, shr1, Int.tdiv_eq_ediv_of_nonneg] at *)); with_reducible assumption))) (fun _ _ => ?_); conv => whnf)
      | (apply WpD.id; first
      | (refine WpD.walk rfl ?_; conv => whnf))
    all_goals (unfold prA; rw [if_pos hp]; rfl)
end Go.DL
