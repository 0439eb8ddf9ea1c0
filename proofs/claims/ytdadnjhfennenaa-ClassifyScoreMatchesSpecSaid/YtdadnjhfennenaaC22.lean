/- The sort of package slices: symMerge where the second side has one element, at Score's closure. No condition. -/
import Derived.Test.YtdadnjhfennenaaC21
set_option linter.unusedVariables false
set_option linter.unusedSimpArgs false
set_option maxHeartbeats 4000000
namespace Go.DL
open Go.Proofs

structure sy2I (U : List Int) (y : Int) (a m : Nat) (q : Nat × Nat) : Prop where
  lo : a ≤ q.1
  le : q.1 ≤ q.2
  hi : q.2 ≤ m
  l : ∀ (t : Nat) u, U[t]? = some u → a + t < q.1 → kd y ≤ kd u
  r : ∀ (t : Nat) u, U[t]? = some u → q.2 ≤ a + t → kd u < kd y
theorem s1L_prev {P U S : List Int} {y u : Int} {t : Nat} (h : U[t]? = some u) : sw2 (s1L P U S y (t + 1)) (P.length + (t + 1)) (P.length + t) = s1L P U S y t := by
  have hlt := (List.getElem?_eq_some_iff.1 h).1
  rw [sw2_adj (P := P ++ U.take t) (S := U.drop (t + 1) ++ S) (x := y) (y := u) (by unfold s1L; rw [take_get h]; simp) (by simp; omega) (by simp; omega)]
  unfold s1L
  rw [drop_get' h]; simp
theorem s1L_u {P U S : List Int} {y u : Int} {t : Nat} (h : U[t]? = some u) : (s1L P U S y (t + 1))[P.length + t]? = some u := by
  have hlt := (List.getElem?_eq_some_iff.1 h).1
  refine get_mid (P := P ++ U.take t) (R := y :: (U.drop (t + 1) ++ S)) ?_ (by simp; omega)
  unfold s1L
  rw [take_get h]; simp
theorem getU {L P U R : List Int} {h : Nat} {v : Int} {i : Nat} (hL : L = P ++ U ++ R) (hv : L[i]? = some v) (hi : i = h) (h1 : P.length ≤ h) (h2 : h < P.length + U.length) : U[h - P.length]? = some v := by
  subst hi
  rw [hL, List.append_assoc, List.getElem?_append_right (by omega), List.getElem?_append_left (by omega)] at hv
  exact hv
theorem sy2_lo {U : List Int} {y u : Int} {a m i j h : Nat} (hU : Desc U) (hq : sy2I U y a m (i, j)) (h1 : i ≤ h) (h2 : h < j) (hv : U[h - a]? = some u) (hk : ¬ kd u < kd y) : sy2I U y a m (h + 1, j) := by
  obtain ⟨q1, q2, q3, q4, q5⟩ := hq
  dsimp only at q1 q2 q3 q4 q5
  refine ⟨by dsimp only; omega, by dsimp only; omega, q3, fun t w ht hlt => ?_, q5⟩
  dsimp only at hlt
  have := hU.get ht hv (by omega)
  omega
theorem sy2_hi {U : List Int} {y u : Int} {a m i j h : Nat} (hU : Desc U) (hq : sy2I U y a m (i, j)) (h1 : i ≤ h) (h2 : h < j) (hv : U[h - a]? = some u) (hk : kd u < kd y) : sy2I U y a m (i, h) := by
  obtain ⟨q1, q2, q3, q4, q5⟩ := hq
  dsimp only at q1 q2 q3 q4 q5
  refine ⟨q1, h1, by dsimp only; omega, q4, fun t w ht hlt => ?_⟩
  dsimp only at hlt
  have := hU.get hv ht (by omega)
  omega
theorem sy2_end {U : List Int} {y : Int} {a m i j : Nat} (hU : Desc U) (hq : sy2I U y a m (i, j)) (he : j ≤ i) : Desc (U.take (i - a) ++ y :: U.drop (i - a)) ∧ EqK (U.take (i - a) ++ y :: U.drop (i - a)) (U ++ [y]) := by
  obtain ⟨q1, q2, q3, q4, q5⟩ := hq
  dsimp only at q1 q2 q3 q4 q5
  have e := List.take_append_drop (i - a) U
  have := ins_desc (P := U.take (i - a)) (R := U.drop (i - a)) (x := y) (by rw [e]; exact hU) (fun p hp => ?_) (fun r hr => ?_)
  · rw [e] at this; exact this
  · obtain ⟨t, ht⟩ := List.mem_iff_getElem?.1 hp
    rw [List.getElem?_take] at ht
    split at ht
    · exact q4 t p ht (by omega)
    · cases ht
  · obtain ⟨t, ht⟩ := List.mem_iff_getElem?.1 hr
    rw [List.getElem?_drop] at ht
    exact q5 _ r ht (by omega)
theorem c_sym2 {L P U S : List Int} {y : Int} {a' m' b' : Int} (ea : a' = P.length) (em : m' = ((P.length + U.length : Nat) : Int)) (eb : b' = ((P.length + U.length + 1 : Nat) : Int)) (hL : L = P ++ U ++ [y] ++ S) (hU : Desc U) (h2 : 2 ≤ U.length) (hb : bd L) (hl : L.length ≤ 1000000) :
    CallI tab 79 [.arr 0 0 L.length, .v (zV a'), .v (zV m'), .v (zV b'), .v scF] 1 (L.map iV) (fun zs => ∃ W, zs = (P ++ W ++ S).map iV ∧ Desc W ∧ EqK W (U ++ [y])) := by
  subst ea em eb
  have hlen : L.length = P.length + U.length + 1 + S.length := by rw [hL]; simp; omega
  have hy : L[0 + ((P.length + U.length : Nat) : Int).toNat]? = some y := get_mid (P := P ++ U) (R := S) (by rw [hL]; simp) (by simp; omega)
  generalize hN : L.length = N at hl hlen ⊢
  generalize hm : P.length + U.length = m at *
  have d0 : (IntKind.wrap .i64 ((m : Int) - ((P.length : Nat) : Int)) == 1) = false := by rw [wr (by omega) (by omega)]; simp; omega
  have d1 : (IntKind.wrap .i64 (((m + 1 : Nat) : Int) - (m : Int)) == 1) = true := by rw [wr (by omega) (by omega)]; simp; omega
  refine callI_of Try.func79 rfl (Nat.le_of_ble_eq_true rfl) (by kernel_rfl) ?_
  repeat' first
    | (apply Br.id; first
      | (apply Br.tt; try conv => whnf)
      | (apply Br.ff; try conv => whnf)
      | (refine Br.of_t (by assumption) ?_; conv => whnf)
      | (refine Br.of_f (by assumption) ?_; conv => whnf)
      | (refine Br.mk (fun _ => ?_) (fun _ => ?_) <;> try conv => whnf))
    | (apply CallOp.id; first
      | (refine call_at rfl rfl rfl rfl rfl ?_)
      | (refine call_rd rfl rfl rfl rfl rfl ?_)
      | (refine CallOp.std ?_; (conv => whnf); fail_if_success refine (?_ : False)))
    | (apply CallDet.id; first
      | (refine call_atD rfl rfl rfl rfl rfl ?_)
      | (refine call_rdD rfl rfl rfl rfl rfl ?_)
      | (refine CallDet.std ?_; (conv => whnf); fail_if_success refine (?_ : False)))
    | (apply CallAt.id; first
      | (apply CallAt.mk1 (c_scF _ _ (hb _ (List.mem_of_getElem? (by assumption))) (hb _ (List.mem_of_getElem? (by assumption)))); conv => whnf))
    | (refine EndOk.mk (by kernel_rfl) ?_; conv => whnf)
    | (refine And.intro (by (first | decide | exact trivial | omega | exact Nat.le_refl _ | (((try simp only [decide_eq_true_eq, decide_eq_false_iff_not, cond_true, cond_false, beq_iff_eq, beq_eq_false_iff_ne, bne_iff_ne, bne_eq_false_iff_eq, ne_eq, Bool.not_eq_true', Bool.not_eq_false', Bool.not_eq_eq_eq_not, Bool.not_true, Bool.not_false, sLe_eq, Bool.and_eq_true, Bool.and_eq_false_iff, List.length_map, List.length_set, List.length_append, List.length_take, List.length_drop, List.length_replicate, List.length_cons, List.length_nil, lenMax, capMax, Int.toNat_natCast, gt_iff_lt, ge_iff_le] at *); (try simp (disch := omega) only [wr, wru, shr1, Int.tdiv_eq_ediv_of_nonneg] at *)); omega) | (((try simp only [decide_eq_true_eq, decide_eq_false_iff_not, cond_true, cond_false, beq_iff_eq, beq_eq_false_iff_ne, bne_iff_ne, bne_eq_false_iff_eq, ne_eq, Bool.not_eq_true', Bool.not_eq_false', Bool.not_eq_eq_eq_not, Bool.not_true, Bool.not_false, sLe_eq, Bool.and_eq_true, Bool.and_eq_false_iff, List.length_map, List.length_set, List.length_append, List.length_take, List.length_drop, List.length_replicate, List.length_cons, List.length_nil, lenMax, capMax, Int.toNat_natCast, gt_iff_lt, ge_iff_le] at *); (try simp (disch := omega) only [wr, wru, shr1, Int.tdiv_eq_ediv_of_nonneg] at *)); assumption))) ?_; conv => whnf)
    | (refine idxOld (by assumption) ?_; conv => whnf)
    | (refine idxMap (by (first | decide | exact trivial | omega | exact Nat.le_refl _ | (((try simp only [decide_eq_true_eq, decide_eq_false_iff_not, cond_true, cond_false, beq_iff_eq, beq_eq_false_iff_ne, bne_iff_ne, bne_eq_false_iff_eq, ne_eq, Bool.not_eq_true', Bool.not_eq_false', Bool.not_eq_eq_eq_not, Bool.not_true, Bool.not_false, sLe_eq, Bool.and_eq_true, Bool.and_eq_false_iff, List.length_map, List.length_set, List.length_append, List.length_take, List.length_drop, List.length_replicate, List.length_cons, List.length_nil, lenMax, capMax, Int.toNat_natCast, gt_iff_lt, ge_iff_le] at *); (try simp (disch := omega) only [wr, wru, shr1, Int.tdiv_eq_ediv_of_nonneg] at *)); omega) | (((try simp only [decide_eq_true_eq, decide_eq_false_iff_not, cond_true, cond_false, beq_iff_eq, beq_eq_false_iff_ne, bne_iff_ne, bne_eq_false_iff_eq, ne_eq, Bool.not_eq_true', Bool.not_eq_false', Bool.not_eq_eq_eq_not, Bool.not_true, Bool.not_false, sLe_eq, Bool.and_eq_true, Bool.and_eq_false_iff, List.length_map, List.length_set, List.length_append, List.length_take, List.length_drop, List.length_replicate, List.length_cons, List.length_nil, lenMax, capMax, Int.toNat_natCast, gt_iff_lt, ge_iff_le] at *); (try simp (disch := omega) only [wr, wru, shr1, Int.tdiv_eq_ediv_of_nonneg] at *)); assumption))) (fun _ _ => ?_); conv => whnf)
    | refine Exists.intro _ (And.intro (DV_toV rfl) ?_)
    | (refine rowSet (by (first | decide | exact trivial | omega | exact Nat.le_refl _ | (((try simp only [decide_eq_true_eq, decide_eq_false_iff_not, cond_true, cond_false, beq_iff_eq, beq_eq_false_iff_ne, bne_iff_ne, bne_eq_false_iff_eq, ne_eq, Bool.not_eq_true', Bool.not_eq_false', Bool.not_eq_eq_eq_not, Bool.not_true, Bool.not_false, sLe_eq, Bool.and_eq_true, Bool.and_eq_false_iff, List.length_map, List.length_set, List.length_append, List.length_take, List.length_drop, List.length_replicate, List.length_cons, List.length_nil, lenMax, capMax, Int.toNat_natCast, gt_iff_lt, ge_iff_le] at *); (try simp (disch := omega) only [wr, wru, shr1, Int.tdiv_eq_ediv_of_nonneg] at *)); omega) | (((try simp only [decide_eq_true_eq, decide_eq_false_iff_not, cond_true, cond_false, beq_iff_eq, beq_eq_false_iff_ne, bne_iff_ne, bne_eq_false_iff_eq, ne_eq, Bool.not_eq_true', Bool.not_eq_false', Bool.not_eq_eq_eq_not, Bool.not_true, Bool.not_false, sLe_eq, Bool.and_eq_true, Bool.and_eq_false_iff, List.length_map, List.length_set, List.length_append, List.length_take, List.length_drop, List.length_replicate, List.length_cons, List.length_nil, lenMax, capMax, Int.toNat_natCast, gt_iff_lt, ge_iff_le] at *); (try simp (disch := omega) only [wr, wru, shr1, Int.tdiv_eq_ediv_of_nonneg] at *)); assumption))) ?_; conv => whnf)
    | (refine rowOld (by assumption) ?_; conv => whnf)
    | (refine rowNew (by (first | decide | exact trivial | omega | exact Nat.le_refl _ | (((try simp only [decide_eq_true_eq, decide_eq_false_iff_not, cond_true, cond_false, beq_iff_eq, beq_eq_false_iff_ne, bne_iff_ne, bne_eq_false_iff_eq, ne_eq, Bool.not_eq_true', Bool.not_eq_false', Bool.not_eq_eq_eq_not, Bool.not_true, Bool.not_false, sLe_eq, Bool.and_eq_true, Bool.and_eq_false_iff, List.length_map, List.length_set, List.length_append, List.length_take, List.length_drop, List.length_replicate, List.length_cons, List.length_nil, lenMax, capMax, Int.toNat_natCast, gt_iff_lt, ge_iff_le] at *); (try simp (disch := omega) only [wr, wru, shr1, Int.tdiv_eq_ediv_of_nonneg] at *)); omega) | (((try simp only [decide_eq_true_eq, decide_eq_false_iff_not, cond_true, cond_false, beq_iff_eq, beq_eq_false_iff_ne, bne_iff_ne, bne_eq_false_iff_eq, ne_eq, Bool.not_eq_true', Bool.not_eq_false', Bool.not_eq_eq_eq_not, Bool.not_true, Bool.not_false, sLe_eq, Bool.and_eq_true, Bool.and_eq_false_iff, List.length_map, List.length_set, List.length_append, List.length_take, List.length_drop, List.length_replicate, List.length_cons, List.length_nil, lenMax, capMax, Int.toNat_natCast, gt_iff_lt, ge_iff_le] at *); (try simp (disch := omega) only [wr, wru, shr1, Int.tdiv_eq_ediv_of_nonneg] at *)); assumption))) (fun _ _ => ?_); conv => whnf)
    | (apply WpD.id; first
      | (refine WpD.loopAt 83 rfl (fun q : Nat × Nat => ⟨[(0, .arr 0 0 N), (2, .v (nV m)), (4, .v scF), (14, .v (nV q.1)), (15, .v (nV q.2))], [.arr 1 (vrows (L.map iV))], []⟩) (fun q => sy2I U y P.length m q) (fun q => q.2 - q.1) ?_ (fun ⟨i, j⟩ hq => ?_); rotate_left; obtain ⟨q1, q2, q3, q4, q5⟩ := hq; dsimp only at q1 q2 q3 q4 q5; rcases Nat.lt_or_ge i j with hlt | hge; (have dk : decide ((i : Int) < (j : Int)) = true := by { simp; omega }); rotate_left; (have dk : decide ((i : Int) < (j : Int)) = false := by { simp; omega }); rotate_left)
      | (refine WpD.loopAt 108 rfl (fun t : Nat => ⟨[(0, .arr 0 0 N), (14, .v (nV i)), (17, .v (nV (P.length + t)))], [.arr 1 (vrows ((s1L P U S y t).map iV))], []⟩) (fun t => i ≤ P.length + t ∧ t ≤ U.length) (fun t => t) ?_ (fun t ht => ?_); rotate_left; obtain ⟨ht1, ht2⟩ := ht; (have hlt1 : (s1L P U S y t).length = N := by { rw [s1L_len]; omega }); rcases Nat.lt_or_ge i (P.length + t) with hlt2 | hge2; (have dk2 : decide (((P.length + t : Nat) : Int) > (i : Int)) = true := by { simp; omega }); (obtain ⟨s, rfl⟩ : ∃ s, t = s + 1 := ⟨t - 1, by omega⟩); (have wk : IntKind.wrap .i64 (((P.length + (s + 1) : Nat) : Int) - 1) = ((P.length + s : Nat) : Int) := by { rw [wr (by omega) (by omega)]; omega }); (obtain ⟨u, hu⟩ : ∃ u, U[s]? = some u := ⟨_, List.getElem?_eq_getElem (by omega)⟩); (have hk0 : (s1L P U S y (s + 1))[0 + ((P.length + (s + 1) : Nat) : Int).toNat]? = some y := by { rw [show 0 + ((P.length + (s + 1) : Nat) : Int).toNat = P.length + (s + 1) by omega]; exact s1L_x (by omega) }); (have hk1 : (s1L P U S y (s + 1))[0 + (IntKind.wrap .i64 (((P.length + (s + 1) : Nat) : Int) - 1)).toNat]? = some u := by { rw [wk, show 0 + ((P.length + s : Nat) : Int).toNat = P.length + s by omega]; exact s1L_u hu }); rotate_left; (have dk2 : decide (((P.length + t : Nat) : Int) > (i : Int)) = false := by { simp; omega }); rotate_left)
      | (refine WpD.walk rfl ?_; conv => whnf))
    | (refine rowSetNe (by (first | decide | exact trivial | omega | exact Nat.le_refl _ | (((try simp only [decide_eq_true_eq, decide_eq_false_iff_not, cond_true, cond_false, beq_iff_eq, beq_eq_false_iff_ne, bne_iff_ne, bne_eq_false_iff_eq, ne_eq, Bool.not_eq_true', Bool.not_eq_false', Bool.not_eq_eq_eq_not, Bool.not_true, Bool.not_false, sLe_eq, Bool.and_eq_true, Bool.and_eq_false_iff, List.length_map, List.length_set, List.length_append, List.length_take, List.length_drop, List.length_replicate, List.length_cons, List.length_nil, lenMax, capMax, Int.toNat_natCast, gt_iff_lt, ge_iff_le] at *); (try simp (disch := omega) only [wr, wru, shr1, Int.tdiv_eq_ediv_of_nonneg] at *)); omega) | (((try simp only [decide_eq_true_eq, decide_eq_false_iff_not, cond_true, cond_false, beq_iff_eq, beq_eq_false_iff_ne, bne_iff_ne, bne_eq_false_iff_eq, ne_eq, Bool.not_eq_true', Bool.not_eq_false', Bool.not_eq_eq_eq_not, Bool.not_true, Bool.not_false, sLe_eq, Bool.and_eq_true, Bool.and_eq_false_iff, List.length_map, List.length_set, List.length_append, List.length_take, List.length_drop, List.length_replicate, List.length_cons, List.length_nil, lenMax, capMax, Int.toNat_natCast, gt_iff_lt, ge_iff_le] at *); (try simp (disch := omega) only [wr, wru, shr1, Int.tdiv_eq_ediv_of_nonneg] at *)); assumption))) ?_)
  case refine_1 =>
    refine ⟨(P.length, m), [0], ⟨Nat.le_refl _, by dsimp only; omega, Nat.le_refl _, fun t v h1 h2 => by dsimp only at h2; omega, fun t v h1 h2 => by have := (List.getElem?_eq_some_iff.1 h1).1; dsimp only at h2; omega⟩, ⟨by decide, rfl, ?_, ⟨obLe_v rfl, trivial⟩, rfl⟩⟩
    (repeat' first | exact trivial | rfl | apply And.intro | (refine leInt rfl ?_; first | omega | (dsimp only; omega)) | (refine leArr rfl ?_ rfl; (simp; try omega)) | (refine leBool rfl ?_; assumption))
  all_goals ((try simp only [decide_eq_true_eq, decide_eq_false_iff_not, cond_true, cond_false, beq_iff_eq, beq_eq_false_iff_ne, bne_iff_ne, bne_eq_false_iff_eq, ne_eq, Bool.not_eq_true', Bool.not_eq_false', Bool.not_eq_eq_eq_not, Bool.not_true, Bool.not_false, sLe_eq, Bool.and_eq_true, Bool.and_eq_false_iff, List.length_map, List.length_set, List.length_append, List.length_take, List.length_drop, List.length_replicate, List.length_cons, List.length_nil, lenMax, capMax, Int.toNat_natCast, gt_iff_lt, ge_iff_le] at *); (try simp (disch := omega) only [wr, wru, shr1, Int.tdiv_eq_ediv_of_nonneg] at *))
  case refine_2.inl.refine_2 =>
    rename L[0 + (((i : Int) + j) / 2).toNat]? = some _ => hv
    rename cmpI _ _ < 0 => hc
    have hv' := getU (P := P) (U := U) (R := [y] ++ S) (h := (i + j) / 2) (by rw [hL]; simp) hv (by omega) (by omega) (by omega)
    refine ⟨(i, (i + j) / 2), [0], sy2_hi hU ⟨q1, q2, q3, q4, q5⟩ (by omega) (by omega) hv' (cmpI_lt.1 hc), ⟨⟨by decide, rfl, ?_, ⟨obLe_v rfl, trivial⟩, rfl⟩, by dsimp only; omega⟩⟩
    (repeat' first | exact trivial | rfl | apply And.intro | (refine leInt rfl ?_; first | omega | (dsimp only; omega)) | (refine leArr rfl ?_ rfl; (simp; try omega)) | (refine leBool rfl ?_; assumption))
    done
  all_goals first
    | (rename L[0 + (((i : Int) + j) / 2).toNat]? = some _ => hv
       rename ¬ cmpI _ _ < 0 => hc
       have hv' := getU (P := P) (U := U) (R := [y] ++ S) (h := (i + j) / 2) (by rw [hL]; simp) hv (by omega) (by omega) (by omega)
       refine ⟨((i + j) / 2 + 1, j), [0], sy2_lo hU ⟨q1, q2, q3, q4, q5⟩ (by omega) (by omega) hv' (fun h => hc (cmpI_lt.2 h)), ⟨⟨by decide, rfl, ?_, ⟨obLe_v rfl, trivial⟩, rfl⟩, by dsimp only; omega⟩⟩
       (repeat' first | exact trivial | rfl | apply And.intro | (refine leInt rfl ?_; first | omega | (dsimp only; omega)) | (refine leArr rfl ?_ rfl; (simp; try omega)) | (refine leBool rfl ?_; assumption))
       done)
    | (refine ⟨U.length, [0], ⟨by omega, Nat.le_refl _⟩, ⟨by decide, rfl, ?_, ⟨obLe_v (by rw [hL]; unfold s1L; simp), trivial⟩, rfl⟩⟩
       (repeat' first | exact trivial | rfl | apply And.intro | (refine leInt rfl ?_; first | omega | (dsimp only; omega)) | (refine leArr rfl ?_ rfl; (simp; try omega)) | (refine leBool rfl ?_; assumption))
       done)
    | (refine ⟨s, [0], ⟨by omega, by omega⟩, ⟨⟨by decide, rfl, ?_, ⟨obLe_v ?_, trivial⟩, rfl⟩, by omega⟩⟩
       · (repeat' first | exact trivial | rfl | apply And.intro | (refine leInt rfl ?_; first | omega | (dsimp only; omega)) | (refine leArr rfl ?_ rfl; (simp; try omega)) | (refine leBool rfl ?_; assumption))
         done
       · rw [← s1L_prev hu]
         exact sw2_rows (s1L_x (by omega)) (s1L_u hu) (by omega) (by omega))
    | (have et : t = i - P.length := by omega
       subst et
       obtain ⟨g1, g2⟩ := sy2_end hU ⟨q1, q2, q3, q4, q5⟩ hge
       refine ⟨rfl, _, ⟨_, rfl, g1, g2⟩, ?_⟩
       show Ob.arr 1 _ = Ob.arr 1 _
       unfold s1L; simp)
  all_goals trace_state
end Go.DL
