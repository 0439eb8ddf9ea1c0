/- The sort of package slices: symMerge where one side has one element, at Score's closure. No condition. -/
import Derived.Test.YtdadnjhfennenaaC20
set_option linter.unusedVariables false
set_option linter.unusedSimpArgs false
set_option maxHeartbeats 4000000
namespace Go.DL
open Go.Proofs

structure sy1I (V : List Int) (x : Int) (m b : Nat) (q : Nat × Nat) : Prop where
  lo : m ≤ q.1
  le : q.1 ≤ q.2
  hi : q.2 ≤ b
  l : ∀ (t : Nat) v, V[t]? = some v → m + t < q.1 → kd x < kd v
  r : ∀ (t : Nat) v, V[t]? = some v → q.2 ≤ m + t → kd v ≤ kd x
/-- One more put into its place from the front. -/
theorem ins_front {A B : List Int} {x : Int} (h : Desc (A ++ B)) (h1 : ∀ p ∈ A, kd x < kd p) (h2 : ∀ r ∈ B, kd r ≤ kd x) : Desc (A ++ x :: B) ∧ EqK (A ++ x :: B) (x :: (A ++ B)) := by
  have p := List.pairwise_append.1 h
  refine ⟨List.pairwise_append.2 ⟨p.1, List.pairwise_cons.2 ⟨h2, p.2.1⟩, fun a ha b hb => ?_⟩, ?_⟩
  · rcases List.mem_cons.1 hb with rfl | hb
    · exact Int.le_of_lt (h1 a ha)
    · exact p.2.2 a ha b hb
  · have e1 : A ++ x :: B = (A ++ [x]) ++ B := by simp
    have e2 : x :: (A ++ B) = ([x] ++ A) ++ B := by simp
    rw [e1, e2]
    exact (EqK.rot fun a ha b hb => by
      rw [List.mem_singleton] at hb
      subst hb
      have := h1 a ha
      omega).app (EqK.refl B)
def s1L (P V S : List Int) (x : Int) (t : Nat) : List Int := P ++ V.take t ++ x :: (V.drop t ++ S)
theorem s1L_len {P V S : List Int} {x : Int} {t : Nat} : (s1L P V S x t).length = P.length + 1 + V.length + S.length := by
  unfold s1L
  have := congrArg List.length (List.take_append_drop t V)
  simp only [List.length_append, List.length_cons] at this ⊢; omega
theorem s1L_x {P V S : List Int} {x : Int} {t : Nat} (h : t ≤ V.length) : (s1L P V S x t)[P.length + t]? = some x := get_mid rfl (by simp; omega)
theorem s1L_y {P V S : List Int} {x y : Int} {t : Nat} (h : V[t]? = some y) : (s1L P V S x t)[P.length + t + 1]? = some y := by
  have hlt := (List.getElem?_eq_some_iff.1 h).1
  refine get_mid (P := P ++ V.take t ++ [x]) (R := V.drop (t + 1) ++ S) ?_ (by simp; omega)
  unfold s1L
  rw [drop_get' h]; simp
theorem s1L_next {P V S : List Int} {x y : Int} {t : Nat} (h : V[t]? = some y) : sw2 (s1L P V S x t) (P.length + t) (P.length + t + 1) = s1L P V S x (t + 1) := by
  have hlt := (List.getElem?_eq_some_iff.1 h).1
  rw [sw2_at (P := P ++ V.take t) (M := []) (S := V.drop (t + 1) ++ S) (x := x) (y := y) (by unfold s1L; rw [drop_get' h]; simp) (by simp; omega) (by simp; omega)]
  unfold s1L
  rw [take_get h]; simp
theorem cmpI_lt {x y : Int} : cmpI x y < 0 ↔ x < y := by
  unfold cmpI
  by_cases h : x < y
  · rw [if_pos h]; simp [h]
  · rw [if_neg h]
    split <;> simp [h]
theorem getV {L P U V S : List Int} {h : Nat} {v : Int} {i : Nat} (hL : L = P ++ U ++ V ++ S) (hv : L[i]? = some v) (hi : i = h) (h1 : P.length + U.length ≤ h) (h2 : h < P.length + U.length + V.length) : V[h - (P.length + U.length)]? = some v := by
  subst hi
  rw [hL, List.append_assoc, List.getElem?_append_right (by simp; omega), List.getElem?_append_left (by simp; omega)] at hv
  rw [← hv]; congr 1; simp
theorem sy1_lo {V : List Int} {x v : Int} {m b i j h : Nat} (hV : Desc V) (hq : sy1I V x m b (i, j)) (h1 : i ≤ h) (h2 : h < j) (hv : V[h - m]? = some v) (hk : kd x < kd v) : sy1I V x m b (h + 1, j) := by
  obtain ⟨q1, q2, q3, q4, q5⟩ := hq
  dsimp only at q1 q2 q3 q4 q5
  refine ⟨by dsimp only; omega, by dsimp only; omega, q3, fun t w ht hlt => ?_, q5⟩
  dsimp only at hlt
  have := hV.get ht hv (by omega)
  omega
theorem sy1_hi {V : List Int} {x v : Int} {m b i j h : Nat} (hV : Desc V) (hq : sy1I V x m b (i, j)) (h1 : i ≤ h) (h2 : h < j) (hv : V[h - m]? = some v) (hk : ¬ kd x < kd v) : sy1I V x m b (i, h) := by
  obtain ⟨q1, q2, q3, q4, q5⟩ := hq
  dsimp only at q1 q2 q3 q4 q5
  refine ⟨q1, h1, by dsimp only; omega, q4, fun t w ht hlt => ?_⟩
  dsimp only at hlt
  have := hV.get hv ht (by omega)
  omega
theorem sy1_end {V : List Int} {x : Int} {m b i j : Nat} (hV : Desc V) (hq : sy1I V x m b (i, j)) (he : j ≤ i) : Desc (V.take (i - m) ++ x :: V.drop (i - m)) ∧ EqK (V.take (i - m) ++ x :: V.drop (i - m)) ([x] ++ V) := by
  obtain ⟨q1, q2, q3, q4, q5⟩ := hq
  dsimp only at q1 q2 q3 q4 q5
  have e := List.take_append_drop (i - m) V
  have := ins_front (A := V.take (i - m)) (B := V.drop (i - m)) (x := x) (by rw [e]; exact hV) (fun p hp => ?_) (fun r hr => ?_)
  · rw [e] at this; exact this
  · obtain ⟨t, ht⟩ := List.mem_iff_getElem?.1 hp
    rw [List.getElem?_take] at ht
    split at ht
    · exact q4 t p ht (by omega)
    · cases ht
  · obtain ⟨t, ht⟩ := List.mem_iff_getElem?.1 hr
    rw [List.getElem?_drop] at ht
    exact q5 _ r ht (by omega)
theorem c_sym1 {L P V S : List Int} {x : Int} {a' m' b' : Int} (ea : a' = P.length) (em : m' = ((P.length + 1 : Nat) : Int)) (eb : b' = ((P.length + 1 + V.length : Nat) : Int)) (hL : L = P ++ [x] ++ V ++ S) (hV : Desc V) (hb : bd L) (hl : L.length ≤ 1000000) :
    CallI tab 79 [.arr 0 0 L.length, .v (zV a'), .v (zV m'), .v (zV b'), .v scF] 1 (L.map iV) (fun zs => ∃ W, zs = (P ++ W ++ S).map iV ∧ Desc W ∧ EqK W ([x] ++ V)) := by
  subst ea em eb
  have hlen : L.length = P.length + 1 + V.length + S.length := by rw [hL]; simp; omega
  have hx : L[0 + ((P.length : Nat) : Int).toNat]? = some x := get_mid (P := P) (R := V ++ S) (by rw [hL]; simp) (by simp)
  have d0 : (IntKind.wrap .i64 (((P.length + 1 : Nat) : Int) - ((P.length : Nat) : Int)) == 1) = true := by rw [wr (by omega) (by omega)]; simp; omega
  generalize hN : L.length = N at hl hlen ⊢
  generalize hm : P.length + 1 = m at *
  refine callI_of Try.func79 rfl (Nat.le_of_ble_eq_true rfl) (by kernel_rfl) ?_
  repeat' first
    | (apply Br.id; first
      | (apply Br.tt; try conv => whnf)
      | (apply Br.ff; try conv => whnf)
      | (refine Br.of_t (by assumption) ?_; conv => whnf)
      | (refine Br.of_f (by assumption) ?_; conv => whnf)
      | (refine Br.mk (fun _ => ?_) (fun _ => ?_) <;> try conv => whnf))
    | (apply CallOp.id; first
      | (refine call_at rfl rfl rfl rfl rfl ?_)
      | (refine call_rd rfl rfl rfl rfl rfl ?_)
      | (refine CallOp.std ?_; (conv => whnf); fail_if_success refine (?_ : False)))
    | (apply CallDet.id; first
      | (refine call_atD rfl rfl rfl rfl rfl ?_)
      | (refine call_rdD rfl rfl rfl rfl rfl ?_)
      | (refine CallDet.std ?_; (conv => whnf); fail_if_success refine (?_ : False)))
    | (apply CallAt.id; first
      | (apply CallAt.mk1 (c_scF _ _ (hb _ (List.mem_of_getElem? (by assumption))) (hb _ (List.mem_of_getElem? (by assumption)))); conv => whnf))
    | (refine EndOk.mk (by kernel_rfl) ?_; conv => whnf)
    | (refine And.intro (by (first | decide | exact trivial | omega | exact Nat.le_refl _ | (((try simp only [decide_eq_true_eq, decide_eq_false_iff_not, cond_true, cond_false, beq_iff_eq, beq_eq_false_iff_ne, bne_iff_ne, bne_eq_false_iff_eq, ne_eq, Bool.not_eq_true', Bool.not_eq_false', Bool.not_eq_eq_eq_not, Bool.not_true, Bool.not_false, sLe_eq, Bool.and_eq_true, Bool.and_eq_false_iff, List.length_map, List.length_set, List.length_append, List.length_take, List.length_drop, List.length_replicate, List.length_cons, List.length_nil, lenMax, capMax, Int.toNat_natCast, gt_iff_lt, ge_iff_le] at *); (try simp (disch := omega) only [wr, wru, shr1, Int.tdiv_eq_ediv_of_nonneg] at *)); omega) | (((try simp only [decide_eq_true_eq, decide_eq_false_iff_not, cond_true, cond_false, beq_iff_eq, beq_eq_false_iff_ne, bne_iff_ne, bne_eq_false_iff_eq, ne_eq, Bool.not_eq_true', Bool.not_eq_false', Bool.not_eq_eq_eq_not, Bool.not_true, Bool.not_false, sLe_eq, Bool.and_eq_true, Bool.and_eq_false_iff, List.length_map, List.length_set, List.length_append, List.length_take, List.length_drop, List.length_replicate, List.length_cons, List.length_nil, lenMax, capMax, Int.toNat_natCast, gt_iff_lt, ge_iff_le] at *); (try simp (disch := omega) only [wr, wru, shr1, Int.tdiv_eq_ediv_of_nonneg] at *)); assumption))) ?_; conv => whnf)
    | (refine idxOld (by assumption) ?_; conv => whnf)
    | (refine idxMap (by (first | decide | exact trivial | omega | exact Nat.le_refl _ | (((try simp only [decide_eq_true_eq, decide_eq_false_iff_not, cond_true, cond_false, beq_iff_eq, beq_eq_false_iff_ne, bne_iff_ne, bne_eq_false_iff_eq, ne_eq, Bool.not_eq_true', Bool.not_eq_false', Bool.not_eq_eq_eq_not, Bool.not_true, Bool.not_false, sLe_eq, Bool.and_eq_true, Bool.and_eq_false_iff, List.length_map, List.length_set, List.length_append, List.length_take, List.length_drop, List.length_replicate, List.length_cons, List.length_nil, lenMax, capMax, Int.toNat_natCast, gt_iff_lt, ge_iff_le] at *); (try simp (disch := omega) only [wr, wru, shr1, Int.tdiv_eq_ediv_of_nonneg] at *)); omega) | (((try simp only [decide_eq_true_eq, decide_eq_false_iff_not, cond_true, cond_false, beq_iff_eq, beq_eq_false_iff_ne, bne_iff_ne, bne_eq_false_iff_eq, ne_eq, Bool.not_eq_true', Bool.not_eq_false', Bool.not_eq_eq_eq_not, Bool.not_true, Bool.not_false, sLe_eq, Bool.and_eq_true, Bool.and_eq_false_iff, List.length_map, List.length_set, List.length_append, List.length_take, List.length_drop, List.length_replicate, List.length_cons, List.length_nil, lenMax, capMax, Int.toNat_natCast, gt_iff_lt, ge_iff_le] at *); (try simp (disch := omega) only [wr, wru, shr1, Int.tdiv_eq_ediv_of_nonneg] at *)); assumption))) (fun _ _ => ?_); conv => whnf)
    | refine Exists.intro _ (And.intro (DV_toV rfl) ?_)
    | (refine rowSet (by (first | decide | exact trivial | omega | exact Nat.le_refl _ | (((try simp only [decide_eq_true_eq, decide_eq_false_iff_not, cond_true, cond_false, beq_iff_eq, beq_eq_false_iff_ne, bne_iff_ne, bne_eq_false_iff_eq, ne_eq, Bool.not_eq_true', Bool.not_eq_false', Bool.not_eq_eq_eq_not, Bool.not_true, Bool.not_false, sLe_eq, Bool.and_eq_true, Bool.and_eq_false_iff, List.length_map, List.length_set, List.length_append, List.length_take, List.length_drop, List.length_replicate, List.length_cons, List.length_nil, lenMax, capMax, Int.toNat_natCast, gt_iff_lt, ge_iff_le] at *); (try simp (disch := omega) only [wr, wru, shr1, Int.tdiv_eq_ediv_of_nonneg] at *)); omega) | (((try simp only [decide_eq_true_eq, decide_eq_false_iff_not, cond_true, cond_false, beq_iff_eq, beq_eq_false_iff_ne, bne_iff_ne, bne_eq_false_iff_eq, ne_eq, Bool.not_eq_true', Bool.not_eq_false', Bool.not_eq_eq_eq_not, Bool.not_true, Bool.not_false, sLe_eq, Bool.and_eq_true, Bool.and_eq_false_iff, List.length_map, List.length_set, List.length_append, List.length_take, List.length_drop, List.length_replicate, List.length_cons, List.length_nil, lenMax, capMax, Int.toNat_natCast, gt_iff_lt, ge_iff_le] at *); (try simp (disch := omega) only [wr, wru, shr1, Int.tdiv_eq_ediv_of_nonneg] at *)); assumption))) ?_; conv => whnf)
    | (refine rowOld (by assumption) ?_; conv => whnf)
    | (refine rowNew (by (first | decide | exact trivial | omega | exact Nat.le_refl _ | (((try simp only [decide_eq_true_eq, decide_eq_false_iff_not, cond_true, cond_false, beq_iff_eq, beq_eq_false_iff_ne, bne_iff_ne, bne_eq_false_iff_eq, ne_eq, Bool.not_eq_true', Bool.not_eq_false', Bool.not_eq_eq_eq_not, Bool.not_true, Bool.not_false, sLe_eq, Bool.and_eq_true, Bool.and_eq_false_iff, List.length_map, List.length_set, List.length_append, List.length_take, List.length_drop, List.length_replicate, List.length_cons, List.length_nil, lenMax, capMax, Int.toNat_natCast, gt_iff_lt, ge_iff_le] at *); (try simp (disch := omega) only [wr, wru, shr1, Int.tdiv_eq_ediv_of_nonneg] at *)); omega) | (((try simp only [decide_eq_true_eq, decide_eq_false_iff_not, cond_true, cond_false, beq_iff_eq, beq_eq_false_iff_ne, bne_iff_ne, bne_eq_false_iff_eq, ne_eq, Bool.not_eq_true', Bool.not_eq_false', Bool.not_eq_eq_eq_not, Bool.not_true, Bool.not_false, sLe_eq, Bool.and_eq_true, Bool.and_eq_false_iff, List.length_map, List.length_set, List.length_append, List.length_take, List.length_drop, List.length_replicate, List.length_cons, List.length_nil, lenMax, capMax, Int.toNat_natCast, gt_iff_lt, ge_iff_le] at *); (try simp (disch := omega) only [wr, wru, shr1, Int.tdiv_eq_ediv_of_nonneg] at *)); assumption))) (fun _ _ => ?_); conv => whnf)
    | (apply WpD.id; first
      | (refine WpD.loopAt 31 rfl (fun q : Nat × Nat => ⟨[(0, .arr 0 0 N), (1, .v (nV P.length)), (4, .v scF), (10, .v (nV q.1)), (11, .v (nV q.2))], [.arr 1 (vrows (L.map iV))], []⟩) (fun q => sy1I V x m (m + V.length) q) (fun q => q.2 - q.1) ?_ (fun ⟨i, j⟩ hq => ?_); rotate_left; obtain ⟨q1, q2, q3, q4, q5⟩ := hq; dsimp only at q1 q2 q3 q4 q5; rcases Nat.lt_or_ge i j with hlt | hge; (have dk : decide ((i : Int) < (j : Int)) = true := by { simp; omega }); rotate_left; (have dk : decide ((i : Int) < (j : Int)) = false := by { simp; omega }); rotate_left)
      | (refine WpD.loopAt 55 rfl (fun t : Nat => ⟨[(0, .arr 0 0 N), (10, .v (nV i)), (13, .v (nV (P.length + t)))], [.arr 1 (vrows ((s1L P V S x t).map iV))], []⟩) (fun t => t ≤ i - m) (fun t => i - m - t) ?_ (fun t ht => ?_); rotate_left; (have hlt1 : (s1L P V S x t).length = N := by { rw [s1L_len]; omega }); rcases Nat.lt_or_ge t (i - m) with hlt2 | hge2; (have wi : IntKind.wrap .i64 ((i : Int) - 1) = (i : Int) - 1 := wr (by omega) (by omega)); (have wk : IntKind.wrap .i64 (((P.length + t : Nat) : Int) + 1) = ((P.length + t : Nat) : Int) + 1 := wr (by omega) (by omega)); (have dk2 : decide (((P.length + t : Nat) : Int) < IntKind.wrap .i64 ((i : Int) - 1)) = true := by { rw [wi]; simp; omega }); (obtain ⟨y, hy⟩ : ∃ y, V[t]? = some y := ⟨_, List.getElem?_eq_getElem (by omega)⟩); (have hk0 : (s1L P V S x t)[0 + ((P.length + t : Nat) : Int).toNat]? = some x := by { rw [show 0 + ((P.length + t : Nat) : Int).toNat = P.length + t by omega]; exact s1L_x (by omega) }); (have hk1 : (s1L P V S x t)[0 + (IntKind.wrap .i64 (((P.length + t : Nat) : Int) + 1)).toNat]? = some y := by { rw [wk, show 0 + (((P.length + t : Nat) : Int) + 1).toNat = P.length + t + 1 by omega]; exact s1L_y hy }); rotate_left; (have wi : IntKind.wrap .i64 ((i : Int) - 1) = (i : Int) - 1 := wr (by omega) (by omega)); (have dk2 : decide (((P.length + t : Nat) : Int) < IntKind.wrap .i64 ((i : Int) - 1)) = false := by { rw [wi]; simp; omega }); rotate_left)
      | (refine WpD.walk rfl ?_; conv => whnf))
    | (refine rowSetNe (by (first | decide | exact trivial | omega | exact Nat.le_refl _ | (((try simp only [decide_eq_true_eq, decide_eq_false_iff_not, cond_true, cond_false, beq_iff_eq, beq_eq_false_iff_ne, bne_iff_ne, bne_eq_false_iff_eq, ne_eq, Bool.not_eq_true', Bool.not_eq_false', Bool.not_eq_eq_eq_not, Bool.not_true, Bool.not_false, sLe_eq, Bool.and_eq_true, Bool.and_eq_false_iff, List.length_map, List.length_set, List.length_append, List.length_take, List.length_drop, List.length_replicate, List.length_cons, List.length_nil, lenMax, capMax, Int.toNat_natCast, gt_iff_lt, ge_iff_le] at *); (try simp (disch := omega) only [wr, wru, shr1, Int.tdiv_eq_ediv_of_nonneg] at *)); omega) | (((try simp only [decide_eq_true_eq, decide_eq_false_iff_not, cond_true, cond_false, beq_iff_eq, beq_eq_false_iff_ne, bne_iff_ne, bne_eq_false_iff_eq, ne_eq, Bool.not_eq_true', Bool.not_eq_false', Bool.not_eq_eq_eq_not, Bool.not_true, Bool.not_false, sLe_eq, Bool.and_eq_true, Bool.and_eq_false_iff, List.length_map, List.length_set, List.length_append, List.length_take, List.length_drop, List.length_replicate, List.length_cons, List.length_nil, lenMax, capMax, Int.toNat_natCast, gt_iff_lt, ge_iff_le] at *); (try simp (disch := omega) only [wr, wru, shr1, Int.tdiv_eq_ediv_of_nonneg] at *)); assumption))) ?_)
  case refine_1 =>
    refine ⟨(m, m + V.length), [0], ⟨Nat.le_refl _, Nat.le_add_right _ _, Nat.le_refl _, fun t v h1 h2 => by dsimp only at h2; omega, fun t v h1 h2 => by have := (List.getElem?_eq_some_iff.1 h1).1; dsimp only at h2; omega⟩, ⟨by decide, rfl, ?_, ⟨obLe_v rfl, trivial⟩, rfl⟩⟩
    (repeat' first | exact trivial | rfl | apply And.intro | (refine leInt rfl ?_; first | omega | (dsimp only; omega)) | (refine leArr rfl ?_ rfl; (simp; try omega)) | (refine leBool rfl ?_; assumption))
  all_goals ((try simp only [decide_eq_true_eq, decide_eq_false_iff_not, cond_true, cond_false, beq_iff_eq, beq_eq_false_iff_ne, bne_iff_ne, bne_eq_false_iff_eq, ne_eq, Bool.not_eq_true', Bool.not_eq_false', Bool.not_eq_eq_eq_not, Bool.not_true, Bool.not_false, sLe_eq, Bool.and_eq_true, Bool.and_eq_false_iff, List.length_map, List.length_set, List.length_append, List.length_take, List.length_drop, List.length_replicate, List.length_cons, List.length_nil, lenMax, capMax, Int.toNat_natCast, gt_iff_lt, ge_iff_le] at *); (try simp (disch := omega) only [wr, wru, shr1, Int.tdiv_eq_ediv_of_nonneg] at *))
  all_goals first
    | (rename L[0 + (((i : Int) + j) / 2).toNat]? = some _ => hv
       rename cmpI _ _ < 0 => hc
       have hv' := getV (U := [x]) (h := (i + j) / 2) hL hv (by omega) (by simp; omega) (by simp; omega)
       rw [show P.length + [x].length = m by simp; omega] at hv'
       refine ⟨((i + j) / 2 + 1, j), [0], sy1_lo hV ⟨q1, q2, q3, q4, q5⟩ (by omega) (by omega) hv' (cmpI_lt.1 hc), ⟨⟨by decide, rfl, ?_, ⟨obLe_v rfl, trivial⟩, rfl⟩, by dsimp only; omega⟩⟩
       (repeat' first | exact trivial | rfl | apply And.intro | (refine leInt rfl ?_; first | omega | (dsimp only; omega)) | (refine leArr rfl ?_ rfl; (simp; try omega)) | (refine leBool rfl ?_; assumption))
       done)
    | (rename L[0 + (((i : Int) + j) / 2).toNat]? = some _ => hv
       rename ¬ cmpI _ _ < 0 => hc
       have hv' := getV (U := [x]) (h := (i + j) / 2) hL hv (by omega) (by simp; omega) (by simp; omega)
       rw [show P.length + [x].length = m by simp; omega] at hv'
       refine ⟨(i, (i + j) / 2), [0], sy1_hi hV ⟨q1, q2, q3, q4, q5⟩ (by omega) (by omega) hv' (fun h => hc (cmpI_lt.2 h)), ⟨⟨by decide, rfl, ?_, ⟨obLe_v rfl, trivial⟩, rfl⟩, by dsimp only; omega⟩⟩
       (repeat' first | exact trivial | rfl | apply And.intro | (refine leInt rfl ?_; first | omega | (dsimp only; omega)) | (refine leArr rfl ?_ rfl; (simp; try omega)) | (refine leBool rfl ?_; assumption))
       done)
    | (refine ⟨0, [0], Nat.zero_le _, ⟨by decide, rfl, ?_, ⟨obLe_v (by rw [hL]; unfold s1L; simp), trivial⟩, rfl⟩⟩
       (repeat' first | exact trivial | rfl | apply And.intro | (refine leInt rfl ?_; first | omega | (dsimp only; omega)) | (refine leArr rfl ?_ rfl; (simp; try omega)) | (refine leBool rfl ?_; assumption))
       done)
    | (refine ⟨t + 1, [0], by omega, ⟨⟨by decide, rfl, ?_, ⟨obLe_v ?_, trivial⟩, rfl⟩, by omega⟩⟩
       · (repeat' first | exact trivial | rfl | apply And.intro | (refine leInt rfl ?_; first | omega | (dsimp only; omega)) | (refine leArr rfl ?_ rfl; (simp; try omega)) | (refine leBool rfl ?_; assumption))
         done
       · rw [← s1L_next hy]
         exact sw2_rows (s1L_x (by omega)) (s1L_y hy) (by omega) (by omega))
    | (have et : t = i - m := by omega
       subst et
       obtain ⟨g1, g2⟩ := sy1_end hV ⟨q1, q2, q3, q4, q5⟩ hge
       refine ⟨rfl, _, ⟨_, rfl, g1, g2⟩, ?_⟩
       show Ob.arr 1 _ = Ob.arr 1 _
       unfold s1L; simp)
  all_goals trace_state
end Go.DL
