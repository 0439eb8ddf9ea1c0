/- The sort of package slices: rotate, at Score's closure. No condition. -/
import Derived.Test.YtdadnjhfennenaaC18
set_option linter.unusedVariables false
set_option linter.unusedSimpArgs false
set_option maxHeartbeats 4000000
namespace Go.DL
open Go.Proofs

theorem c_rot {L P U V S : List Int} {a m b : Nat} {a' m' b' : Int} (ea : a' = a) (em : m' = m) (eb : b' = b) (hL : L = P ++ U ++ V ++ S) (ha : a = P.length) (hm : m = a + U.length) (hb : b = m + V.length) (hU : 0 < U.length) (hV : 0 < V.length) (hl : L.length ≤ 1000000) :
    CallI tab 84 [.arr 0 0 L.length, .v (zV a'), .v (zV m'), .v (zV b'), .v scF] 1 (L.map iV) (· = (P ++ V ++ U ++ S).map iV) := by
  subst ea em eb
  have hlen : L.length = P.length + U.length + V.length + S.length := by rw [hL]; simp; omega
  generalize hN : L.length = N at hl hlen ⊢
  refine callI_of Try.func84 rfl (Nat.le_of_ble_eq_true rfl) (by kernel_rfl) ?_
  repeat' first
    | (apply Br.id; first
      | (apply Br.tt; try conv => whnf)
      | (apply Br.ff; try conv => whnf)
      | (refine Br.of_t (by assumption) ?_; conv => whnf)
      | (refine Br.of_f (by assumption) ?_; conv => whnf)
      | (refine Br.mk (fun _ => ?_) (fun _ => ?_) <;> try conv => whnf))
    | (apply CallOp.id; first
      | (refine call_inp 0 hsw rfl rfl rfl rfl rfl rfl (obLe_v rfl) (fun ys hys => ?_); subst hys; conv => whnf)
      | (refine call_inpD 0 hsw rfl rfl rfl rfl rfl rfl (obLe_v rfl) ?_; conv => whnf)
      | (refine call_at rfl rfl rfl rfl rfl ?_)
      | (refine call_rd rfl rfl rfl rfl rfl ?_)
      | (refine CallOp.std ?_; (conv => whnf); fail_if_success refine (?_ : False)))
    | (apply CallDet.id; first
      | (refine call_inp 0 hsw rfl rfl rfl rfl rfl rfl (obLe_v rfl) (fun ys hys => ?_); subst hys; conv => whnf)
      | (refine call_inpD 0 hsw rfl rfl rfl rfl rfl rfl (obLe_v rfl) ?_; conv => whnf)
      | (refine call_atD rfl rfl rfl rfl rfl ?_)
      | (refine call_rdD rfl rfl rfl rfl rfl ?_)
      | (refine CallDet.std ?_; (conv => whnf); fail_if_success refine (?_ : False)))
    | (refine EndOk.mk (by kernel_rfl) ?_; conv => whnf)
    | (refine And.intro (by (first | decide | exact trivial | omega | exact Nat.le_refl _ | (((try simp only [decide_eq_true_eq, decide_eq_false_iff_not, cond_true, cond_false, beq_iff_eq, beq_eq_false_iff_ne, bne_iff_ne, bne_eq_false_iff_eq, ne_eq, Bool.not_eq_true', Bool.not_eq_false', Bool.not_eq_eq_eq_not, Bool.not_true, Bool.not_false, sLe_eq, Bool.and_eq_true, Bool.and_eq_false_iff, List.length_map, List.length_set, List.length_append, List.length_take, List.length_drop, List.length_replicate, List.length_cons, List.length_nil, lenMax, capMax, Int.toNat_natCast, gt_iff_lt, ge_iff_le] at *); (try simp (disch := omega) only [wr, wru, shr1, Int.tdiv_eq_ediv_of_nonneg] at *)); omega) | (((try simp only [decide_eq_true_eq, decide_eq_false_iff_not, cond_true, cond_false, beq_iff_eq, beq_eq_false_iff_ne, bne_iff_ne, bne_eq_false_iff_eq, ne_eq, Bool.not_eq_true', Bool.not_eq_false', Bool.not_eq_eq_eq_not, Bool.not_true, Bool.not_false, sLe_eq, Bool.and_eq_true, Bool.and_eq_false_iff, List.length_map, List.length_set, List.length_append, List.length_take, List.length_drop, List.length_replicate, List.length_cons, List.length_nil, lenMax, capMax, Int.toNat_natCast, gt_iff_lt, ge_iff_le] at *); (try simp (disch := omega) only [wr, wru, shr1, Int.tdiv_eq_ediv_of_nonneg] at *)); assumption))) ?_; conv => whnf)
    | (refine idxOld (by assumption) ?_; conv => whnf)
    | (refine idxMap (by (first | decide | exact trivial | omega | exact Nat.le_refl _ | (((try simp only [decide_eq_true_eq, decide_eq_false_iff_not, cond_true, cond_false, beq_iff_eq, beq_eq_false_iff_ne, bne_iff_ne, bne_eq_false_iff_eq, ne_eq, Bool.not_eq_true', Bool.not_eq_false', Bool.not_eq_eq_eq_not, Bool.not_true, Bool.not_false, sLe_eq, Bool.and_eq_true, Bool.and_eq_false_iff, List.length_map, List.length_set, List.length_append, List.length_take, List.length_drop, List.length_replicate, List.length_cons, List.length_nil, lenMax, capMax, Int.toNat_natCast, gt_iff_lt, ge_iff_le] at *); (try simp (disch := omega) only [wr, wru, shr1, Int.tdiv_eq_ediv_of_nonneg] at *)); omega) | (((try simp only [decide_eq_true_eq, decide_eq_false_iff_not, cond_true, cond_false, beq_iff_eq, beq_eq_false_iff_ne, bne_iff_ne, bne_eq_false_iff_eq, ne_eq, Bool.not_eq_true', Bool.not_eq_false', Bool.not_eq_eq_eq_not, Bool.not_true, Bool.not_false, sLe_eq, Bool.and_eq_true, Bool.and_eq_false_iff, List.length_map, List.length_set, List.length_append, List.length_take, List.length_drop, List.length_replicate, List.length_cons, List.length_nil, lenMax, capMax, Int.toNat_natCast, gt_iff_lt, ge_iff_le] at *); (try simp (disch := omega) only [wr, wru, shr1, Int.tdiv_eq_ediv_of_nonneg] at *)); assumption))) (fun _ _ => ?_); conv => whnf)
    | refine Exists.intro _ (And.intro (DV_toV rfl) ?_)
    | (refine rowSet (by (first | decide | exact trivial | omega | exact Nat.le_refl _ | (((try simp only [decide_eq_true_eq, decide_eq_false_iff_not, cond_true, cond_false, beq_iff_eq, beq_eq_false_iff_ne, bne_iff_ne, bne_eq_false_iff_eq, ne_eq, Bool.not_eq_true', Bool.not_eq_false', Bool.not_eq_eq_eq_not, Bool.not_true, Bool.not_false, sLe_eq, Bool.and_eq_true, Bool.and_eq_false_iff, List.length_map, List.length_set, List.length_append, List.length_take, List.length_drop, List.length_replicate, List.length_cons, List.length_nil, lenMax, capMax, Int.toNat_natCast, gt_iff_lt, ge_iff_le] at *); (try simp (disch := omega) only [wr, wru, shr1, Int.tdiv_eq_ediv_of_nonneg] at *)); omega) | (((try simp only [decide_eq_true_eq, decide_eq_false_iff_not, cond_true, cond_false, beq_iff_eq, beq_eq_false_iff_ne, bne_iff_ne, bne_eq_false_iff_eq, ne_eq, Bool.not_eq_true', Bool.not_eq_false', Bool.not_eq_eq_eq_not, Bool.not_true, Bool.not_false, sLe_eq, Bool.and_eq_true, Bool.and_eq_false_iff, List.length_map, List.length_set, List.length_append, List.length_take, List.length_drop, List.length_replicate, List.length_cons, List.length_nil, lenMax, capMax, Int.toNat_natCast, gt_iff_lt, ge_iff_le] at *); (try simp (disch := omega) only [wr, wru, shr1, Int.tdiv_eq_ediv_of_nonneg] at *)); assumption))) ?_; conv => whnf)
    | (refine rowOld (by assumption) ?_; conv => whnf)
    | (refine rowNew (by (first | decide | exact trivial | omega | exact Nat.le_refl _ | (((try simp only [decide_eq_true_eq, decide_eq_false_iff_not, cond_true, cond_false, beq_iff_eq, beq_eq_false_iff_ne, bne_iff_ne, bne_eq_false_iff_eq, ne_eq, Bool.not_eq_true', Bool.not_eq_false', Bool.not_eq_eq_eq_not, Bool.not_true, Bool.not_false, sLe_eq, Bool.and_eq_true, Bool.and_eq_false_iff, List.length_map, List.length_set, List.length_append, List.length_take, List.length_drop, List.length_replicate, List.length_cons, List.length_nil, lenMax, capMax, Int.toNat_natCast, gt_iff_lt, ge_iff_le] at *); (try simp (disch := omega) only [wr, wru, shr1, Int.tdiv_eq_ediv_of_nonneg] at *)); omega) | (((try simp only [decide_eq_true_eq, decide_eq_false_iff_not, cond_true, cond_false, beq_iff_eq, beq_eq_false_iff_ne, bne_iff_ne, bne_eq_false_iff_eq, ne_eq, Bool.not_eq_true', Bool.not_eq_false', Bool.not_eq_eq_eq_not, Bool.not_true, Bool.not_false, sLe_eq, Bool.and_eq_true, Bool.and_eq_false_iff, List.length_map, List.length_set, List.length_append, List.length_take, List.length_drop, List.length_replicate, List.length_cons, List.length_nil, lenMax, capMax, Int.toNat_natCast, gt_iff_lt, ge_iff_le] at *); (try simp (disch := omega) only [wr, wru, shr1, Int.tdiv_eq_ediv_of_nonneg] at *)); assumption))) (fun _ _ => ?_); conv => whnf)
    | (apply WpD.id; first
      | (refine WpD.loopAt 18 rfl (fun q : List Int × List Int × List Int × List Int => ⟨[(0, .arr 0 0 N), (2, .v (nV m)), (4, .v scF), (10, .v (nV q.2.1.length)), (11, .v (nV q.2.2.1.length))], [.arr 1 (vrows ((q.1 ++ q.2.1 ++ q.2.2.1 ++ q.2.2.2).map iV))], []⟩) (fun q => m = q.1.length + q.2.1.length ∧ q.1 ++ q.2.2.1 ++ q.2.1 ++ q.2.2.2 = P ++ V ++ U ++ S ∧ 0 < q.2.1.length ∧ 0 < q.2.2.1.length) (fun q => q.2.1.length + q.2.2.1.length) ?_ (fun ⟨P', U', V', S'⟩ hq => ?_); rotate_left; obtain ⟨q1, q2, q3, q4⟩ := hq; dsimp only at q1 q2 q3 q4; (have q5 : P'.length + V'.length + U'.length + S'.length = N := by { have := congrArg List.length q2; simp at this; omega }); (have hlN : (P' ++ U' ++ V' ++ S').length = N := by { simp; omega }); rcases Nat.lt_trichotomy U'.length V'.length with hlt | heq | hgt; (have d1 : ((U'.length : Int) != (V'.length : Int)) = true := by { simp; omega }); (have d2 : decide ((U'.length : Int) > (V'.length : Int)) = false := by { simp; omega }); (have hsw := c_swr (L := P' ++ U' ++ V' ++ S') (a := P'.length) (b := m + V'.length - U'.length) (n := U'.length) (a' := IntKind.wrap .i64 ((m : Int) - U'.length)) (b' := IntKind.wrap .i64 (IntKind.wrap .i64 ((m : Int) + V'.length) - U'.length)) (n' := U'.length) (by rw [wr (by omega) (by omega)]; omega) (by { rw [wr (x := (m : Int) + V'.length) (by omega) (by omega), wr (by omega) (by omega)]; omega }) rfl (by omega) (by omega) (by omega) (by omega)); rw [hlN] at hsw; rotate_left; (have d1 : ((U'.length : Int) != (V'.length : Int)) = false := by { simp; omega }); (have hsw := c_swr (L := P' ++ U' ++ V' ++ S') (a := P'.length) (b := m) (n := U'.length) (a' := IntKind.wrap .i64 ((m : Int) - U'.length)) (b' := m) (n' := U'.length) (by rw [wr (by omega) (by omega)]; omega) rfl rfl (by omega) (by omega) (by omega) (by omega)); rw [hlN] at hsw; rotate_left; (have d1 : ((U'.length : Int) != (V'.length : Int)) = true := by { simp; omega }); (have d2 : decide ((U'.length : Int) > (V'.length : Int)) = true := by { simp; omega }); (have hsw := c_swr (L := P' ++ U' ++ V' ++ S') (a := P'.length) (b := m) (n := V'.length) (a' := IntKind.wrap .i64 ((m : Int) - U'.length)) (b' := m) (n' := V'.length) (by rw [wr (by omega) (by omega)]; omega) rfl rfl (by omega) (by omega) (by omega) (by omega)); rw [hlN] at hsw; rotate_left)
      | (refine WpD.walk rfl ?_; conv => whnf))
  all_goals try clear hsw
  all_goals ((try simp only [decide_eq_true_eq, decide_eq_false_iff_not, cond_true, cond_false, beq_iff_eq, beq_eq_false_iff_ne, bne_iff_ne, bne_eq_false_iff_eq, ne_eq, Bool.not_eq_true', Bool.not_eq_false', Bool.not_eq_eq_eq_not, Bool.not_true, Bool.not_false, sLe_eq, Bool.and_eq_true, Bool.and_eq_false_iff, List.length_map, List.length_set, List.length_append, List.length_take, List.length_drop, List.length_replicate, List.length_cons, List.length_nil, lenMax, capMax, Int.toNat_natCast, gt_iff_lt, ge_iff_le] at *); (try simp (disch := omega) only [wr, wru, shr1, Int.tdiv_eq_ediv_of_nonneg] at *))
  case refine_2.inr.inr =>
    have e1 : V'.length < U'.length := by omega
    have e2 := List.take_append_drop V'.length U'
    have e3 : (U'.take V'.length).length = V'.length := by rw [List.length_take]; omega
    have e4 : (U'.drop V'.length).length = U'.length - V'.length := List.length_drop
    refine ⟨(P' ++ V', U'.drop V'.length, U'.take V'.length, S'), [0], ⟨by dsimp only; rw [List.length_append, e4]; omega, ?_, by dsimp only; omega, by dsimp only; omega⟩, ⟨⟨by decide, rfl, ?_, ⟨obLe_v ?_, trivial⟩, rfl⟩, by dsimp only; omega⟩⟩
    · dsimp only
      rw [← q2]
      conv => rhs; rw [← e2]
      simp
    · dsimp only
      (repeat' first | exact trivial | rfl | apply And.intro | (refine leInt rfl ?_; first | omega | (dsimp only; omega)) | (refine leArr rfl ?_ rfl; (simp; try omega)) | (refine leBool rfl ?_; assumption))
      done
    · congr 2
      have e5 : P' ++ U' ++ V' ++ S' = P' ++ U'.take V'.length ++ U'.drop V'.length ++ V' ++ S' := by
        conv => lhs; rw [← e2]
        simp
      rw [swN_all (P := P') (A := U'.take V'.length) (M := U'.drop V'.length) (B := V') (S := S') e5 rfl (by omega) e3.symm e3]
  all_goals first
    | (refine ⟨(P, U, V, S), [0], ⟨by dsimp only; omega, rfl, hU, hV⟩, ⟨by decide, rfl, ?_, ⟨obLe_v (by rw [hL]), trivial⟩, rfl⟩⟩
       (repeat' first | exact trivial | rfl | apply And.intro | (refine leInt rfl ?_; first | omega | (dsimp only; omega)) | (refine leArr rfl ?_ rfl; (simp; try omega)) | (refine leBool rfl ?_; assumption))
       done)
    | (have e1 : U'.length = V'.length := by omega
       refine ⟨rfl, _, rfl, ?_⟩
       show Ob.arr 1 _ = Ob.arr 1 _
       congr 2
       rw [swN_all (P := P') (A := U') (M := []) (B := V') (S := S') (by simp) rfl (by simp; omega) rfl e1]
       rw [← q2]; simp
       done)
    | (have e1 : U'.length < V'.length := by omega
       have e2 := List.take_append_drop (V'.length - U'.length) V'
       have e3 : (V'.take (V'.length - U'.length)).length = V'.length - U'.length := by rw [List.length_take]; omega
       have e4 : (V'.drop (V'.length - U'.length)).length = U'.length := by rw [List.length_drop]; omega
       refine ⟨(P', V'.drop (V'.length - U'.length), V'.take (V'.length - U'.length), U' ++ S'), [0], ⟨by dsimp only; omega, ?_, by dsimp only; omega, by dsimp only; omega⟩, ⟨⟨by decide, rfl, ?_, ⟨obLe_v ?_, trivial⟩, rfl⟩, by dsimp only; omega⟩⟩
       · dsimp only
         rw [← q2]
         conv => rhs; rw [← e2]
         simp
       · dsimp only
         (repeat' first | exact trivial | rfl | apply And.intro | (refine leInt rfl ?_; first | omega | (dsimp only; omega)) | (refine leArr rfl ?_ rfl; (simp; try omega)) | (refine leBool rfl ?_; assumption))
         done
       · congr 2
         have e5 : P' ++ U' ++ V' ++ S' = P' ++ U' ++ V'.take (V'.length - U'.length) ++ V'.drop (V'.length - U'.length) ++ S' := by
           conv => lhs; rw [← e2]
           simp
         rw [swN_all (P := P') (A := U') (M := V'.take (V'.length - U'.length)) (B := V'.drop (V'.length - U'.length)) (S := S') e5 rfl (by omega) rfl (by omega)]
         simp)
end Go.DL
