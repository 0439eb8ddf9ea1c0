/- Rates: the law RatesPermitWhatFits walked. No condition. -/
import Derived.Test.YtmeaagnamlilgaaQ10
set_option linter.unusedVariables false
set_option linter.unusedSimpArgs false
set_option maxHeartbeats 4000000
namespace Go.DL
open Go.Proofs

def nearB (w a : Int) (x : Us) : Bool := decide (0 ≤ a - x.a) && decide (a - x.a ≤ w - 1)
def nearU (w a : Int) (T : List Us) : List Us := T.filter (nearB w a)
theorem near_next {w a : Int} {x : Us} {T : List Us} {k : Nat} (hx : T[k]? = some x) : sumU (nearU w a (T.take (k + 1))) = sumU (nearU w a (T.take k)) + if nearB w a x = true then x.n else 0 := by
  unfold nearU
  rw [take_get hx, List.filter_append, sumU_app]
  by_cases h : nearB w a x = true
  · rw [if_pos h, List.filter_cons_of_pos h]; simp [sumU]
  · rw [if_neg h, List.filter_cons_of_neg h]; simp [sumU]
theorem near_keep {w a : Int} {T : List Us} (h : ∀ x ∈ T, x.a ≤ a) : nearU w a T = keepU w a T := by
  unfold nearU keepU
  apply List.filter_congr
  intro x hx
  have := h x hx
  unfold nearB
  rw [Bool.eq_iff_iff]; simp; omega
theorem use_b {R : Rt} {v : Us} (hf : (alR R kK v.n v.a).2.2.1 = 0) : (1 ≤ v.n ∧ v.n ≤ 1000000) ∧ -68719476736 ≤ v.a ∧ v.a ≤ 68719476736 := by
  obtain ⟨_, _, h1, h2⟩ := alF_ok (al_ok (al_0 hf)).2
  exact ⟨h1, h2⟩
def rS5 (w m : Int) (z : Bool) (l : List Us) (k : Nat) (v : Us) (A : Rt × Bool × (Int × Int)) (T : List Us) (q : Nat × Int) : St := ⟨[(0, .v (.int .i64 w)), (1, .v (.int .i64 m)), (2, .v (uss z l)), (7, .ptr 0 0 0), (8, .arr 1 0 T.length), (10, .v (.int .i64 k)), (12, .v (.bool A.2.1)), (14, .v (.int .i64 q.2)), (15, .v (.int .i64 q.1))], [.arr 3 (vrows [A.1.row]), .arr 2 (vrows (T.map Us.row))], []⟩
theorem c_law9 (w m : Int) (z : Bool) (l : List Us) : CallV tab 9 [.int .i64 w, .int .i64 m, uss z l] (· = .bool true) := by
  have h4 := c_rated
  refine callV_of Try.func9 rfl (Nat.le_of_ble_eq_true rfl) (by kernel_rfl) ?_
  repeat' first
    | (rename l[_]? = some _ => hv0; obtain ⟨v, hv⟩ : ∃ v, l[k]? = some v := ⟨_, hv0⟩; have ev := hv.symm.trans hv0; injection ev with ev; subst ev; have hf : (alR R kK v.n v.a).2.2.1 = 0 := (by simp at *; assumption); obtain ⟨t, hrun, hrt⟩ := id q4; have hTb := run_b hrun (by simp at *; omega); have hT6 : T.length ≤ 60 := (by simp at *; omega); have hst := rP2_step hq (by simp at *; omega) hv hf; have hvb := use_b hf; have hTv : ∀ x ∈ T, x.a ≤ v.a := (fun x hx => Int.le_trans (hrun.le x hx) (hrt k v (Nat.le_refl _) hv)); refine WpD.loopAt 83 rfl (rS5 w m z l k v (alR R kK v.n v.a) T) (fun q => q.1 ≤ T.length ∧ q.2 = v.n + sumU (nearU w v.a (T.take q.1)) ∧ v.n ≤ q.2 ∧ q.2 ≤ v.n + 1000000 * (q.1 : Int)) (fun q => T.length - q.1) ?_ (fun ⟨j, s⟩ hj => ?_); rotate_left; dsimp only at hj; obtain ⟨hj1, hj2, hj3, hj4⟩ := hj; dsimp only [rS5])
    | (apply Br.id; first
      | (apply Br.tt; try conv => whnf)
      | (apply Br.ff; try conv => whnf)
      | (refine Br.of_t (by assumption) ?_; conv => whnf)
      | (refine Br.of_f (by assumption) ?_; conv => whnf)
      | (refine Br.mk (fun _ => ?_) (fun _ => ?_) <;> try conv => whnf))
    | (apply CallOp.id; first
      | (refine call_at rfl rfl rfl rfl rfl ?_)
      | (refine call_rd rfl rfl rfl rfl rfl ?_)
      | (refine CallOp.std ?_; (conv => whnf); fail_if_success refine (?_ : False)))
    | (apply CallDet.id; first
      | (refine call_atD rfl rfl rfl rfl rfl ?_)
      | (refine call_rdD rfl rfl rfl rfl rfl ?_)
      | (refine CallDet.std ?_; (conv => whnf); fail_if_success refine (?_ : False)))
    | (apply CallAt.id; first
      | (apply CallAt.mk1 (c_Allow R kK _ _); conv => whnf)
      | (apply CallAt.mk1 (h4); conv => whnf)
      | (apply CallAt.mk1 (c_In _ _ _); conv => whnf))
    | (apply CallRd.id; first
      | (apply CallRd.mk1 (h4); (· rfl); conv => whnf)
      | (apply CallRd.mk1 (c_In _ _ _); (· rfl); conv => whnf))
    | (refine EndOk.mk (by kernel_rfl) ?_; conv => whnf)
    | (refine And.intro (by (first | decide | exact trivial | omega | exact Nat.le_refl _ | (((try simp only [decide_eq_true_eq, decide_eq_false_iff_not, cond_true, cond_false, beq_iff_eq, beq_eq_false_iff_ne, bne_iff_ne, bne_eq_false_iff_eq, ne_eq, Bool.not_eq_true', Bool.not_eq_false', Bool.not_eq_eq_eq_not, Bool.not_true, Bool.not_false, sLe_eq, Bool.and_eq_true, Bool.and_eq_false_iff, List.length_map, List.length_set, List.length_append, List.length_take, List.length_drop, List.length_replicate, List.length_cons, List.length_nil, lenMax, capMax, Int.toNat_natCast, gt_iff_lt, ge_iff_le] at *); (try simp (disch := omega) only [wr, wru, shr1, Int.tdiv_eq_ediv_of_nonneg] at *)); omega) | (((try simp only [decide_eq_true_eq, decide_eq_false_iff_not, cond_true, cond_false, beq_iff_eq, beq_eq_false_iff_ne, bne_iff_ne, bne_eq_false_iff_eq, ne_eq, Bool.not_eq_true', Bool.not_eq_false', Bool.not_eq_eq_eq_not, Bool.not_true, Bool.not_false, sLe_eq, Bool.and_eq_true, Bool.and_eq_false_iff, List.length_map, List.length_set, List.length_append, List.length_take, List.length_drop, List.length_replicate, List.length_cons, List.length_nil, lenMax, capMax, Int.toNat_natCast, gt_iff_lt, ge_iff_le] at *); (try simp (disch := omega) only [wr, wru, shr1, Int.tdiv_eq_ediv_of_nonneg] at *)); assumption))) ?_; conv => whnf)
    | (refine idxOld (by assumption) ?_; conv => whnf)
    | (refine idxMap (by (first | decide | exact trivial | omega | exact Nat.le_refl _ | (((try simp only [decide_eq_true_eq, decide_eq_false_iff_not, cond_true, cond_false, beq_iff_eq, beq_eq_false_iff_ne, bne_iff_ne, bne_eq_false_iff_eq, ne_eq, Bool.not_eq_true', Bool.not_eq_false', Bool.not_eq_eq_eq_not, Bool.not_true, Bool.not_false, sLe_eq, Bool.and_eq_true, Bool.and_eq_false_iff, List.length_map, List.length_set, List.length_append, List.length_take, List.length_drop, List.length_replicate, List.length_cons, List.length_nil, lenMax, capMax, Int.toNat_natCast, gt_iff_lt, ge_iff_le] at *); (try simp (disch := omega) only [wr, wru, shr1, Int.tdiv_eq_ediv_of_nonneg] at *)); omega) | (((try simp only [decide_eq_true_eq, decide_eq_false_iff_not, cond_true, cond_false, beq_iff_eq, beq_eq_false_iff_ne, bne_iff_ne, bne_eq_false_iff_eq, ne_eq, Bool.not_eq_true', Bool.not_eq_false', Bool.not_eq_eq_eq_not, Bool.not_true, Bool.not_false, sLe_eq, Bool.and_eq_true, Bool.and_eq_false_iff, List.length_map, List.length_set, List.length_append, List.length_take, List.length_drop, List.length_replicate, List.length_cons, List.length_nil, lenMax, capMax, Int.toNat_natCast, gt_iff_lt, ge_iff_le] at *); (try simp (disch := omega) only [wr, wru, shr1, Int.tdiv_eq_ediv_of_nonneg] at *)); assumption))) (fun _ _ => ?_); conv => whnf)
    | refine Exists.intro _ (And.intro (DV_toV rfl) ?_)
    | (refine rowSet (by (first | decide | exact trivial | omega | exact Nat.le_refl _ | (((try simp only [decide_eq_true_eq, decide_eq_false_iff_not, cond_true, cond_false, beq_iff_eq, beq_eq_false_iff_ne, bne_iff_ne, bne_eq_false_iff_eq, ne_eq, Bool.not_eq_true', Bool.not_eq_false', Bool.not_eq_eq_eq_not, Bool.not_true, Bool.not_false, sLe_eq, Bool.and_eq_true, Bool.and_eq_false_iff, List.length_map, List.length_set, List.length_append, List.length_take, List.length_drop, List.length_replicate, List.length_cons, List.length_nil, lenMax, capMax, Int.toNat_natCast, gt_iff_lt, ge_iff_le] at *); (try simp (disch := omega) only [wr, wru, shr1, Int.tdiv_eq_ediv_of_nonneg] at *)); omega) | (((try simp only [decide_eq_true_eq, decide_eq_false_iff_not, cond_true, cond_false, beq_iff_eq, beq_eq_false_iff_ne, bne_iff_ne, bne_eq_false_iff_eq, ne_eq, Bool.not_eq_true', Bool.not_eq_false', Bool.not_eq_eq_eq_not, Bool.not_true, Bool.not_false, sLe_eq, Bool.and_eq_true, Bool.and_eq_false_iff, List.length_map, List.length_set, List.length_append, List.length_take, List.length_drop, List.length_replicate, List.length_cons, List.length_nil, lenMax, capMax, Int.toNat_natCast, gt_iff_lt, ge_iff_le] at *); (try simp (disch := omega) only [wr, wru, shr1, Int.tdiv_eq_ediv_of_nonneg] at *)); assumption))) ?_; conv => whnf)
    | (refine rowOld (by assumption) ?_; conv => whnf)
    | (refine rowNew (by (first | decide | exact trivial | omega | exact Nat.le_refl _ | (((try simp only [decide_eq_true_eq, decide_eq_false_iff_not, cond_true, cond_false, beq_iff_eq, beq_eq_false_iff_ne, bne_iff_ne, bne_eq_false_iff_eq, ne_eq, Bool.not_eq_true', Bool.not_eq_false', Bool.not_eq_eq_eq_not, Bool.not_true, Bool.not_false, sLe_eq, Bool.and_eq_true, Bool.and_eq_false_iff, List.length_map, List.length_set, List.length_append, List.length_take, List.length_drop, List.length_replicate, List.length_cons, List.length_nil, lenMax, capMax, Int.toNat_natCast, gt_iff_lt, ge_iff_le] at *); (try simp (disch := omega) only [wr, wru, shr1, Int.tdiv_eq_ediv_of_nonneg] at *)); omega) | (((try simp only [decide_eq_true_eq, decide_eq_false_iff_not, cond_true, cond_false, beq_iff_eq, beq_eq_false_iff_ne, bne_iff_ne, bne_eq_false_iff_eq, ne_eq, Bool.not_eq_true', Bool.not_eq_false', Bool.not_eq_eq_eq_not, Bool.not_true, Bool.not_false, sLe_eq, Bool.and_eq_true, Bool.and_eq_false_iff, List.length_map, List.length_set, List.length_append, List.length_take, List.length_drop, List.length_replicate, List.length_cons, List.length_nil, lenMax, capMax, Int.toNat_natCast, gt_iff_lt, ge_iff_le] at *); (try simp (disch := omega) only [wr, wru, shr1, Int.tdiv_eq_ediv_of_nonneg] at *)); assumption))) (fun _ _ => ?_); conv => whnf)
    | (apply WpD.id; first
      | (refine WpD.loopAt 33 rfl (rS1 w m z l) (fun k => 1 ≤ k ∧ k ≤ l.length + 1 ∧ sortU l k) (fun k => l.length + 1 - k) ?_ (fun k hk => ?_); rotate_left; obtain ⟨hk0, hk1, hk2⟩ := hk; dsimp only [rS1])
      | (refine WpD.nil 8 2 1 rfl rfl rfl rfl ?_; have hs := sortU_all hk2 (by simp at *; omega); refine WpD.loopAt 52 rfl (rS2 w m z l) (rP2 w m l) (fun q => l.length - q.1) ?_ (fun ⟨k, R, T⟩ hq => ?_); rotate_left; obtain ⟨q1, q2, q3, q4⟩ := id hq; dsimp only [rS2] at *)
      | (refine WpD.walk rfl ?_; conv => whnf))
  all_goals clear h4
  all_goals try (rename T[_]? = some _ => hx; have hxb := hTb _ (List.mem_of_getElem? hx))
  all_goals ((try simp only [decide_eq_true_eq, decide_eq_false_iff_not, cond_true, cond_false, beq_iff_eq, beq_eq_false_iff_ne, bne_iff_ne, bne_eq_false_iff_eq, ne_eq, Bool.not_eq_true', Bool.not_eq_false', Bool.not_eq_eq_eq_not, Bool.not_true, Bool.not_false, sLe_eq, Bool.and_eq_true, Bool.and_eq_false_iff, List.length_map, List.length_set, List.length_append, List.length_take, List.length_drop, List.length_replicate, List.length_cons, List.length_nil, lenMax, capMax, Int.toNat_natCast, gt_iff_lt, ge_iff_le] at *); (try simp (disch := omega) only [wr, wru, shr1, Int.tdiv_eq_ediv_of_nonneg] at *))
  all_goals first
    | rfl
    | (exfalso; omega)
    | (refine ⟨1, [0], ⟨by omega, by omega, fun j x y hj => absurd hj (by omega)⟩, ⟨by decide, rfl, ?_, ?_, rfl⟩⟩
       · (repeat' first | exact trivial | rfl | apply And.intro | (refine leInt rfl ?_; first | omega | (dsimp only; omega)) | (refine leArr rfl ?_ rfl; (simp; try omega)) | (refine leBool rfl ?_; assumption))
         done
       · (repeat' first | exact trivial | (refine obLe_v ?_; try dsimp only) | rfl | apply And.intro)
         done)
    | (rename l[k]? = some _ => h1
       rename l[_]? = some _ => h2
       refine ⟨k + 1, [0], ⟨by omega, by omega, fun j x y hj hx hy => ?_⟩, ⟨⟨by decide, rfl, ?_, ?_, rfl⟩, by omega⟩⟩
       · by_cases hjk : j + 1 = k
         · subst hjk
           rw [hy] at h1; injection h1 with h1; subst h1
           have e : (((j + 1 : Nat) : Int) - 1).toNat = j := by omega
           rw [e, hx] at h2; injection h2 with h2; subst h2
           omega
         · exact hk2 j x y (by omega) hx hy
       · (repeat' first | exact trivial | apply And.intro | (refine leInt rfl ?_; first | omega | (dsimp only; omega)) | rfl | (refine leArr rfl ?_ rfl; (simp; try omega)) | (refine leBool rfl ?_; assumption))
         done
       · (repeat' first | exact trivial | (refine obLe_v ?_; try dsimp only) | rfl | apply And.intro)
         done)
    | (refine ⟨(0, ⟨w, m, true, []⟩, []), [0, 1], rP2_0 ‹_› ‹_› hs, ⟨by decide, rfl, ?_, ?_, rfl⟩⟩
       · (repeat' first | exact trivial | rfl | apply And.intro | (refine leInt rfl ?_; first | omega | (dsimp only; omega)) | (refine leArr rfl ?_ rfl; (simp; try omega)) | (refine leBool rfl ?_; assumption))
         done
       · (repeat' first | exact trivial | (refine obLe_v ?_; try dsimp only) | rfl | apply And.intro)
         done)
    | (rename ¬ (alR R kK _ _).2.2.1 = 0 => hf
       refine ⟨(k + 1, R, T), [0, 1], rP2_skip hq (by omega), ⟨⟨by decide, rfl, ?_, ?_, rfl⟩, by dsimp only; omega⟩⟩
       · (repeat' first | exact trivial | apply And.intro | (refine leInt rfl ?_; first | omega | (dsimp only; omega)) | rfl | (refine leArr rfl ?_ rfl; (simp; try omega)) | (refine leBool rfl ?_; assumption))
         done
       · (repeat' first | exact trivial | (refine obLe_v ?_; try dsimp only) | rfl | apply And.intro)
         done)
    | (refine ⟨(0, v.n), [0, 1], ⟨Nat.zero_le _, by simp [nearU, sumU], Int.le_refl _, by dsimp only; omega⟩, ⟨by decide, rfl, ?_, ?_, rfl⟩⟩
       · (repeat' first | exact trivial | rfl | apply And.intro | (refine leInt rfl ?_; first | omega | (dsimp only; omega)) | (refine leArr rfl ?_ rfl; (simp; try omega)) | (refine leBool rfl ?_; assumption))
         done
       · (repeat' first | exact trivial | (refine obLe_v ?_; try dsimp only) | rfl | apply And.intro)
         all_goals first | rfl | (simp; done)
         done)
    | (rename Us => x
       have hx' : T[j]? = some x := by simpa using hx
       have hwn := near_next (w := w) (a := v.a) hx'
       have hwr : IntKind.i64.wrap (s + x.n) = s + x.n := wr (by omega) (by omega)
       try rw [hwr]
       first
       | (rw [if_pos (by unfold nearB; simp; omega)] at hwn
          refine ⟨(j + 1, s + x.n), [0, 1], ⟨by dsimp only; omega, by dsimp only; omega, by dsimp only; omega, by dsimp only; omega⟩, ⟨⟨by decide, rfl, ?_, ?_, rfl⟩, by dsimp only; omega⟩⟩
          · (repeat' first | exact trivial | apply And.intro | (refine leInt rfl ?_; first | omega | (dsimp only; omega)) | rfl | (refine leArr rfl ?_ rfl; (simp; try omega)) | (refine leBool rfl ?_; assumption))
            done
          · (repeat' first | exact trivial | (refine obLe_v ?_; try dsimp only) | rfl | apply And.intro)
            done)
       | (rw [if_neg (by unfold nearB; simp; omega)] at hwn
          refine ⟨(j + 1, s), [0, 1], ⟨by dsimp only; omega, by dsimp only; omega, by dsimp only; omega, by dsimp only; omega⟩, ⟨⟨by decide, rfl, ?_, ?_, rfl⟩, by dsimp only; omega⟩⟩
          · (repeat' first | exact trivial | apply And.intro | (refine leInt rfl ?_; first | omega | (dsimp only; omega)) | rfl | (refine leArr rfl ?_ rfl; (simp; try omega)) | (refine leBool rfl ?_; assumption))
            done
          · (repeat' first | exact trivial | (refine obLe_v ?_; try dsimp only) | rfl | apply And.intro)
            done))
    | (have hsj : s = v.n + sumU (keepU w v.a T) := by rw [hj2, List.take_of_length_le (by omega), near_keep hTv]
       exfalso
       rename ¬ (alR R kK v.n v.a).2.1 = _ => hne
       exact hne (by rw [hst.1, hsj]))
    | (rename (alR R kK v.n v.a).2.1 = true => his
       have h := hst.2
       rw [if_pos his] at h
       refine ⟨_, [0, 3], h, ⟨⟨by decide, rfl, ?_, ?_, rfl⟩, by dsimp only; omega⟩⟩
       · (repeat' first | exact trivial | apply And.intro | (refine leInt rfl ?_; first | omega | (dsimp only; omega)) | rfl | (refine leArr rfl ?_ rfl; (simp; try omega)) | (refine leBool rfl ?_; assumption))
         all_goals (simp; done)
         done
       · (repeat' first | exact trivial | (refine obLe_v ?_; try dsimp only) | rfl | apply And.intro)
         all_goals first | (simp [Us.row, List.take_of_length_le]; done) | rfl
         done)
    | (rename (alR R kK v.n v.a).2.1 = false => his
       have h := hst.2
       rw [if_neg (by simp [his])] at h
       refine ⟨_, [0, 1], h, ⟨⟨by decide, rfl, ?_, ?_, rfl⟩, by dsimp only; omega⟩⟩
       · (repeat' first | exact trivial | apply And.intro | (refine leInt rfl ?_; first | omega | (dsimp only; omega)) | rfl | (refine leArr rfl ?_ rfl; (simp; try omega)) | (refine leBool rfl ?_; assumption))
         done
       · (repeat' first | exact trivial | (refine obLe_v ?_; try dsimp only) | rfl | apply And.intro)
         done)
    | skip
  all_goals trace_state
end Go.DL
