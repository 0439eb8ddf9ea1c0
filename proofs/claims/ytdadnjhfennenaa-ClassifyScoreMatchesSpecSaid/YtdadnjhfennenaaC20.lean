/- The sort of package slices: insertionSort, at Score's closure. No condition. -/
import Derived.Test.YtdadnjhfennenaaC18
set_option linter.unusedVariables false
set_option linter.unusedSimpArgs false
set_option maxHeartbeats 4000000
namespace Go.DL
open Go.Proofs

abbrev bd (L : List Int) : Prop := ∀ v ∈ L, 0 ≤ v ∧ v ≤ 1000
theorem wsub {k : Nat} (h : 1 ≤ k) (h' : k ≤ 1000000) : IntKind.wrap .i64 ((k : Int) - 1) = ((k - 1 : Nat) : Int) := by rw [wr (by omega) (by omega)]; omega
/-- W: sorted; x: to be put in; W1 ++ W2: W with x between. -/
structure insI (P S : List Int) (W : List Int) (x : Int) (R : List Int) (q : Nat × List Int) (W1 W2 : List Int) : Prop where
  l : q.2 = P ++ W1 ++ x :: W2 ++ R ++ S
  j : q.1 = P.length + W1.length
  w : W = W1 ++ W2
  h : ∀ r ∈ W2, kd r < kd x
structure insO (P X S : List Int) (q : Nat × List Int) (W T R : List Int) : Prop where
  l : q.2 = P ++ W ++ R ++ S
  x : X = T ++ R
  d : Desc W
  e : EqK W T
  k : q.1 = P.length + T.length ∨ (X.length = 0 ∧ q.1 = P.length + 1)
theorem sw2_adj {L P S : List Int} {x y : Int} {i j : Nat} (hL : L = P ++ y :: x :: S) (hi : i = P.length + 1) (hj : j = P.length) : sw2 L i j = P ++ x :: y :: S := by
  have h1 : L[i]? = some x := get_mid (P := P ++ [y]) (R := S) (by rw [hL]; simp) (by simp; omega)
  have h2 : L[j]? = some y := get_mid hL hj
  unfold sw2
  rw [List.getD_eq_getElem?_getD, List.getD_eq_getElem?_getD, h1, h2]
  show (L.set i y).set j x = _
  have e : L = (P ++ [y]) ++ x :: S := by rw [hL]; simp
  rw [e, show i = (P ++ [y]).length by simp; omega, set_app]
  have e2 : (P ++ [y]) ++ y :: S = P ++ y :: y :: S := by simp
  rw [e2, hj, set_app]
theorem ins_next {P X S W T R W1 W2 : List Int} {x : Int} {k : Nat} {M : List Int} (hM : M = P ++ W1 ++ x :: W2 ++ R ++ S) (hX : X = T ++ x :: R) (hd : Desc W) (he : EqK W T) (hk : k = P.length + T.length) (hW : W = W1 ++ W2) (h1 : ∀ p ∈ W1, kd x ≤ kd p) (h2 : ∀ r ∈ W2, kd r < kd x) :
    insO P X S (k + 1, M) (W1 ++ x :: W2) (T ++ [x]) R := by
  rw [hW] at hd
  obtain ⟨g1, g2⟩ := ins_desc hd h1 h2
  rw [hW] at he
  exact ⟨by rw [hM]; simp, by rw [hX]; simp, g1, g2.trans (he.app (EqK.refl _)), .inl (by simp; omega)⟩
theorem bd_eqk {P X S W T R : List Int} (hb : bd (P ++ X ++ S)) (hx : X = T ++ R) (he : EqK W T) : bd (P ++ W ++ R ++ S) := by
  intro v hv
  apply hb
  simp only [List.mem_append] at hv ⊢
  rcases hv with ((h | h) | h) | h
  · exact .inl (.inl h)
  · exact .inl (.inr (by rw [hx]; exact List.mem_append.2 (.inl (he.mem h))))
  · exact .inl (.inr (by rw [hx]; exact List.mem_append.2 (.inr h)))
  · exact .inr h
theorem c_ins {L P X S : List Int} {a' b' : Int} (ea : a' = P.length) (eb : b' = ((P.length + X.length : Nat) : Int)) (hL : L = P ++ X ++ S) (hb : bd L) (hl : L.length ≤ 1000000) :
    CallI tab 78 [.arr 0 0 L.length, .v (zV a'), .v (zV b'), .v scF] 1 (L.map iV) (fun zs => ∃ W, zs = (P ++ W ++ S).map iV ∧ Desc W ∧ EqK W X) := by
  subst ea eb
  have hlen : L.length = P.length + X.length + S.length := by rw [hL]; simp; omega
  generalize hN : L.length = N at hl hlen ⊢
  refine callI_of Try.func78 rfl (Nat.le_of_ble_eq_true rfl) (by kernel_rfl) ?_
  repeat' first
    | (apply Br.id; first
      | (apply Br.tt; try conv => whnf)
      | (apply Br.ff; try conv => whnf)
      | (refine Br.of_t (by assumption) ?_; conv => whnf)
      | (refine Br.of_f (by assumption) ?_; conv => whnf)
      | (refine Br.mk (fun _ => ?_) (fun _ => ?_) <;> try conv => whnf))
    | (apply CallOp.id; first
      | (refine call_at rfl rfl rfl rfl rfl ?_)
      | (refine call_rd rfl rfl rfl rfl rfl ?_)
      | (refine CallOp.std ?_; (conv => whnf); fail_if_success refine (?_ : False)))
    | (apply CallDet.id; first
      | (refine call_atD rfl rfl rfl rfl rfl ?_)
      | (refine call_rdD rfl rfl rfl rfl rfl ?_)
      | (refine CallDet.std ?_; (conv => whnf); fail_if_success refine (?_ : False)))
    | (apply CallAt.id; first
      | (apply CallAt.mk1 (hcmp); conv => whnf))
    | (apply CallRd.id; first
      | (apply CallRd.mk1 (hcmp); (· rfl); conv => whnf))
    | (refine EndOk.mk (by kernel_rfl) ?_; conv => whnf)
    | (refine And.intro (by (first | decide | exact trivial | omega | exact Nat.le_refl _ | (((try simp only [decide_eq_true_eq, decide_eq_false_iff_not, cond_true, cond_false, beq_iff_eq, beq_eq_false_iff_ne, bne_iff_ne, bne_eq_false_iff_eq, ne_eq, Bool.not_eq_true', Bool.not_eq_false', Bool.not_eq_eq_eq_not, Bool.not_true, Bool.not_false, sLe_eq, Bool.and_eq_true, Bool.and_eq_false_iff, List.length_map, List.length_set, List.length_append, List.length_take, List.length_drop, List.length_replicate, List.length_cons, List.length_nil, lenMax, capMax, Int.toNat_natCast, gt_iff_lt, ge_iff_le] at *); (try simp (disch := omega) only [wr, wru, shr1, Int.tdiv_eq_ediv_of_nonneg] at *)); omega) | (((try simp only [decide_eq_true_eq, decide_eq_false_iff_not, cond_true, cond_false, beq_iff_eq, beq_eq_false_iff_ne, bne_iff_ne, bne_eq_false_iff_eq, ne_eq, Bool.not_eq_true', Bool.not_eq_false', Bool.not_eq_eq_eq_not, Bool.not_true, Bool.not_false, sLe_eq, Bool.and_eq_true, Bool.and_eq_false_iff, List.length_map, List.length_set, List.length_append, List.length_take, List.length_drop, List.length_replicate, List.length_cons, List.length_nil, lenMax, capMax, Int.toNat_natCast, gt_iff_lt, ge_iff_le] at *); (try simp (disch := omega) only [wr, wru, shr1, Int.tdiv_eq_ediv_of_nonneg] at *)); assumption))) ?_; conv => whnf)
    | (refine idxOld (by assumption) ?_; conv => whnf)
    | (refine idxMap (by (first | decide | exact trivial | omega | exact Nat.le_refl _ | (((try simp only [decide_eq_true_eq, decide_eq_false_iff_not, cond_true, cond_false, beq_iff_eq, beq_eq_false_iff_ne, bne_iff_ne, bne_eq_false_iff_eq, ne_eq, Bool.not_eq_true', Bool.not_eq_false', Bool.not_eq_eq_eq_not, Bool.not_true, Bool.not_false, sLe_eq, Bool.and_eq_true, Bool.and_eq_false_iff, List.length_map, List.length_set, List.length_append, List.length_take, List.length_drop, List.length_replicate, List.length_cons, List.length_nil, lenMax, capMax, Int.toNat_natCast, gt_iff_lt, ge_iff_le] at *); (try simp (disch := omega) only [wr, wru, shr1, Int.tdiv_eq_ediv_of_nonneg] at *)); omega) | (((try simp only [decide_eq_true_eq, decide_eq_false_iff_not, cond_true, cond_false, beq_iff_eq, beq_eq_false_iff_ne, bne_iff_ne, bne_eq_false_iff_eq, ne_eq, Bool.not_eq_true', Bool.not_eq_false', Bool.not_eq_eq_eq_not, Bool.not_true, Bool.not_false, sLe_eq, Bool.and_eq_true, Bool.and_eq_false_iff, List.length_map, List.length_set, List.length_append, List.length_take, List.length_drop, List.length_replicate, List.length_cons, List.length_nil, lenMax, capMax, Int.toNat_natCast, gt_iff_lt, ge_iff_le] at *); (try simp (disch := omega) only [wr, wru, shr1, Int.tdiv_eq_ediv_of_nonneg] at *)); assumption))) (fun _ _ => ?_); conv => whnf)
    | refine Exists.intro _ (And.intro (DV_toV rfl) ?_)
    | (refine rowSet (by (first | decide | exact trivial | omega | exact Nat.le_refl _ | (((try simp only [decide_eq_true_eq, decide_eq_false_iff_not, cond_true, cond_false, beq_iff_eq, beq_eq_false_iff_ne, bne_iff_ne, bne_eq_false_iff_eq, ne_eq, Bool.not_eq_true', Bool.not_eq_false', Bool.not_eq_eq_eq_not, Bool.not_true, Bool.not_false, sLe_eq, Bool.and_eq_true, Bool.and_eq_false_iff, List.length_map, List.length_set, List.length_append, List.length_take, List.length_drop, List.length_replicate, List.length_cons, List.length_nil, lenMax, capMax, Int.toNat_natCast, gt_iff_lt, ge_iff_le] at *); (try simp (disch := omega) only [wr, wru, shr1, Int.tdiv_eq_ediv_of_nonneg] at *)); omega) | (((try simp only [decide_eq_true_eq, decide_eq_false_iff_not, cond_true, cond_false, beq_iff_eq, beq_eq_false_iff_ne, bne_iff_ne, bne_eq_false_iff_eq, ne_eq, Bool.not_eq_true', Bool.not_eq_false', Bool.not_eq_eq_eq_not, Bool.not_true, Bool.not_false, sLe_eq, Bool.and_eq_true, Bool.and_eq_false_iff, List.length_map, List.length_set, List.length_append, List.length_take, List.length_drop, List.length_replicate, List.length_cons, List.length_nil, lenMax, capMax, Int.toNat_natCast, gt_iff_lt, ge_iff_le] at *); (try simp (disch := omega) only [wr, wru, shr1, Int.tdiv_eq_ediv_of_nonneg] at *)); assumption))) ?_; conv => whnf)
    | (refine rowOld (by assumption) ?_; conv => whnf)
    | (refine rowNew (by (first | decide | exact trivial | omega | exact Nat.le_refl _ | (((try simp only [decide_eq_true_eq, decide_eq_false_iff_not, cond_true, cond_false, beq_iff_eq, beq_eq_false_iff_ne, bne_iff_ne, bne_eq_false_iff_eq, ne_eq, Bool.not_eq_true', Bool.not_eq_false', Bool.not_eq_eq_eq_not, Bool.not_true, Bool.not_false, sLe_eq, Bool.and_eq_true, Bool.and_eq_false_iff, List.length_map, List.length_set, List.length_append, List.length_take, List.length_drop, List.length_replicate, List.length_cons, List.length_nil, lenMax, capMax, Int.toNat_natCast, gt_iff_lt, ge_iff_le] at *); (try simp (disch := omega) only [wr, wru, shr1, Int.tdiv_eq_ediv_of_nonneg] at *)); omega) | (((try simp only [decide_eq_true_eq, decide_eq_false_iff_not, cond_true, cond_false, beq_iff_eq, beq_eq_false_iff_ne, bne_iff_ne, bne_eq_false_iff_eq, ne_eq, Bool.not_eq_true', Bool.not_eq_false', Bool.not_eq_eq_eq_not, Bool.not_true, Bool.not_false, sLe_eq, Bool.and_eq_true, Bool.and_eq_false_iff, List.length_map, List.length_set, List.length_append, List.length_take, List.length_drop, List.length_replicate, List.length_cons, List.length_nil, lenMax, capMax, Int.toNat_natCast, gt_iff_lt, ge_iff_le] at *); (try simp (disch := omega) only [wr, wru, shr1, Int.tdiv_eq_ediv_of_nonneg] at *)); assumption))) (fun _ _ => ?_); conv => whnf)
    | (apply WpD.id; first
      | (refine WpD.loopAt 18 rfl (fun q : Nat × List Int => ⟨[(0, .arr 0 0 N), (1, .v (nV P.length)), (2, .v (nV (P.length + X.length))), (3, .v scF), (8, .v (nV k)), (9, .v (nV q.1))], [.arr 1 (vrows (q.2.map iV))], []⟩) (fun q => ∃ W1 W2, insI P S W x R q W1 W2) (fun q => q.1) ?_ (fun ⟨j, M⟩ hq => ?_); rotate_left; obtain ⟨W1, W2, i1, i2, i3, i4⟩ := hq; dsimp only at i1 i2; (have iM : M.length = N := by { rw [i1]; have := congrArg List.length i3; simp at this ⊢; omega }); rcases List.eq_nil_or_concat W1 with rfl | ⟨W0, y, rfl⟩; (have dj : decide ((j : Int) > (P.length : Int)) = false := by { simp at i2 ⊢; omega }); rotate_left; (have ej : j = P.length + W0.length + 1 := by { simp at i2; omega }); (have lW2 : W.length = W0.length + 1 + W2.length := by { rw [i3]; simp; omega }); (have dj : decide ((j : Int) > (P.length : Int)) = true := by { simp; omega }); (have iX : M[j]? = some x := get_mid (P := P ++ (W0 ++ [y])) (R := W2 ++ R ++ S) (by rw [i1]; simp) (by simp; omega)); (have iY : M[j - 1]? = some y := get_mid (P := P ++ W0) (R := x :: (W2 ++ R ++ S)) (by rw [i1]; simp) (by simp; omega)); (have ws : IntKind.wrap .i64 ((j : Int) - 1) = ((j - 1 : Nat) : Int) := wsub (by omega) (by omega)); (have iX0 : M[0 + ((j : Nat) : Int).toNat]? = some x := by rw [Nat.zero_add, Int.toNat_natCast]; exact iX); (have iY0 : M[0 + (IntKind.wrap .i64 ((j : Int) - 1)).toNat]? = some y := by rw [Nat.zero_add, ws, Int.toNat_natCast]; exact iY); (have hcmp := c_scF x y (hbx x (by simp)) (hbx y (by rw [i3]; simp))); (have dc : decide (cmpI (kd y) (kd x) < 0) = decide (kd y < kd x) := cmpI_neg); (cases hd : decide (kd y < kd x) <;> rw [hd] at dc); rotate_left)
      | (refine WpD.loopAt 12 rfl (fun q : Nat × List Int => ⟨[(0, .arr 0 0 N), (1, .v (nV P.length)), (2, .v (nV (P.length + X.length))), (3, .v scF), (8, .v (nV q.1))], [.arr 1 (vrows (q.2.map iV))], []⟩) (fun q => ∃ W T R, insO P X S q W T R) (fun q => P.length + X.length + 1 - q.1) ?_ (fun ⟨k, M0⟩ hq => ?_); rotate_left; obtain ⟨W, T, R0, o1, o2, o3, o4, o5⟩ := hq; dsimp only at o1 o5; rcases Nat.lt_or_ge k (P.length + X.length) with hlt | hge; (have dk : decide ((k : Int) < ((P.length + X.length : Nat) : Int)) = true := by { simp; omega }); (obtain ⟨x, R, rfl⟩ : ∃ x R, R0 = x :: R := by { cases R0 with | nil => exfalso; (have := congrArg List.length o2); simp at this; omega | cons x R => exact ⟨x, R, rfl⟩ }); (have lW := o4.len); (have lX : X.length = T.length + (R.length + 1) := by { rw [o2]; simp }); (have hbx : ∀ v ∈ x :: W, 0 ≤ v ∧ v ≤ 1000 := fun v hv => by { rw [hL] at hb; apply bd_eqk hb o2 o4; simp at hv ⊢; rcases hv with h | h; exact .inr (.inr (.inl h)); exact .inr (.inl h) }); rotate_left; (have dk : decide ((k : Int) < ((P.length + X.length : Nat) : Int)) = false := by { simp; omega }); rotate_left)
      | (refine WpD.walk rfl ?_; conv => whnf))
    | (refine rowSetNe (by (first | decide | exact trivial | omega | exact Nat.le_refl _ | (((try simp only [decide_eq_true_eq, decide_eq_false_iff_not, cond_true, cond_false, beq_iff_eq, beq_eq_false_iff_ne, bne_iff_ne, bne_eq_false_iff_eq, ne_eq, Bool.not_eq_true', Bool.not_eq_false', Bool.not_eq_eq_eq_not, Bool.not_true, Bool.not_false, sLe_eq, Bool.and_eq_true, Bool.and_eq_false_iff, List.length_map, List.length_set, List.length_append, List.length_take, List.length_drop, List.length_replicate, List.length_cons, List.length_nil, lenMax, capMax, Int.toNat_natCast, gt_iff_lt, ge_iff_le] at *); (try simp (disch := omega) only [wr, wru, shr1, Int.tdiv_eq_ediv_of_nonneg] at *)); omega) | (((try simp only [decide_eq_true_eq, decide_eq_false_iff_not, cond_true, cond_false, beq_iff_eq, beq_eq_false_iff_ne, bne_iff_ne, bne_eq_false_iff_eq, ne_eq, Bool.not_eq_true', Bool.not_eq_false', Bool.not_eq_eq_eq_not, Bool.not_true, Bool.not_false, sLe_eq, Bool.and_eq_true, Bool.and_eq_false_iff, List.length_map, List.length_set, List.length_append, List.length_take, List.length_drop, List.length_replicate, List.length_cons, List.length_nil, lenMax, capMax, Int.toNat_natCast, gt_iff_lt, ge_iff_le] at *); (try simp (disch := omega) only [wr, wru, shr1, Int.tdiv_eq_ediv_of_nonneg] at *)); assumption))) ?_)
  all_goals try clear hcmp
  all_goals ((try simp only [decide_eq_true_eq, decide_eq_false_iff_not, cond_true, cond_false, beq_iff_eq, beq_eq_false_iff_ne, bne_iff_ne, bne_eq_false_iff_eq, ne_eq, Bool.not_eq_true', Bool.not_eq_false', Bool.not_eq_eq_eq_not, Bool.not_true, Bool.not_false, sLe_eq, Bool.and_eq_true, Bool.and_eq_false_iff, List.length_map, List.length_set, List.length_append, List.length_take, List.length_drop, List.length_replicate, List.length_cons, List.length_nil, lenMax, capMax, Int.toNat_natCast, gt_iff_lt, ge_iff_le] at *); (try simp (disch := omega) only [wr, wru, shr1, Int.tdiv_eq_ediv_of_nonneg] at *))
  case refine_1 =>
    rcases hX : X with _ | ⟨x0, R0⟩
    · refine ⟨(P.length + 1, L), [0], ⟨[], [], [], ⟨by dsimp only; rw [hL, hX]; simp, rfl, Desc.nil, EqK.refl _, .inr ⟨rfl, rfl⟩⟩⟩, ⟨by decide, rfl, ?_, ⟨obLe_v rfl, trivial⟩, rfl⟩⟩
      (repeat' first | exact trivial | rfl | apply And.intro | (refine leInt rfl ?_; first | omega | (dsimp only; omega)) | (refine leArr rfl ?_ rfl; (simp; try omega)) | (refine leBool rfl ?_; assumption))
      done
    · refine ⟨(P.length + 1, L), [0], ⟨[x0], [x0], R0, ⟨by dsimp only; rw [hL, hX]; simp, rfl, Desc.one _, EqK.refl _, .inl rfl⟩⟩, ⟨by decide, rfl, ?_, ⟨obLe_v rfl, trivial⟩, rfl⟩⟩
      (repeat' first | exact trivial | rfl | apply And.intro | (refine leInt rfl ?_; first | omega | (dsimp only; omega)) | (refine leArr rfl ?_ rfl; (simp; try omega)) | (refine leBool rfl ?_; assumption))
      done
  all_goals first
    | (refine ⟨(k, M0), [0], ⟨W, [], ⟨by rw [o1]; simp, by dsimp only; omega, by simp, fun r h => by cases h⟩⟩, ⟨by decide, rfl, ?_, ⟨obLe_v rfl, trivial⟩, rfl⟩⟩
       (repeat' first | exact trivial | rfl | apply And.intro | (refine leInt rfl ?_; first | omega | (dsimp only; omega)) | (refine leArr rfl ?_ rfl; (simp; try omega)) | (refine leBool rfl ?_; assumption))
       done)
    | (have hsw := sw2_adj (L := M) (P := P ++ W0) (S := W2 ++ R ++ S) (x := x) (y := y) (i := j) (j := j - 1) (by rw [i1]; simp) (by simp; omega) (by simp; omega)
       refine ⟨(j - 1, sw2 M j (j - 1)), [0], ⟨W0, y :: W2, ⟨by dsimp only; rw [hsw]; simp, by dsimp only; omega, by rw [i3]; simp, fun r hr => ?_⟩⟩, ⟨⟨by decide, rfl, ?_, ⟨obLe_v (sw2_rows iX iY (by omega) (by omega)), trivial⟩, rfl⟩, by dsimp only; omega⟩⟩
       · rcases List.mem_cons.1 hr with rfl | hr
         · assumption
         · exact i4 r hr
       · (repeat' first | exact trivial | rfl | apply And.intro | (refine leInt rfl ?_; first | omega | (dsimp only; omega)) | (refine leArr rfl ?_ rfl; (simp; try omega)) | (refine leBool rfl ?_; assumption))
         done)
    | (have hk : k = P.length + T.length := by omega
       refine ⟨(k + 1, M), [0], ⟨_, _, _, ins_next (W1 := []) i1 o2 o3 o4 hk i3 (fun p h => by cases h) i4⟩, ⟨⟨by decide, rfl, ?_, ⟨obLe_v rfl, trivial⟩, rfl⟩, by dsimp only; omega⟩⟩
       (repeat' first | exact trivial | rfl | apply And.intro | (refine leInt rfl ?_; first | omega | (dsimp only; omega)) | (refine leArr rfl ?_ rfl; (simp; try omega)) | (refine leBool rfl ?_; assumption))
       done)
    | (have hk : k = P.length + T.length := by omega
       have hyx : kd x ≤ kd y := by omega
       refine ⟨(k + 1, M), [0], ⟨_, _, _, ins_next (W1 := W0.concat y) i1 o2 o3 o4 hk i3 (fun p hp => ?_) i4⟩, ⟨⟨by decide, rfl, ?_, ⟨obLe_v rfl, trivial⟩, rfl⟩, by dsimp only; omega⟩⟩
       · have o3' := o3
         rw [i3] at o3'
         have o6 := (List.pairwise_append.1 o3').1
         simp only [List.concat_eq_append] at o6 hp
         rcases List.mem_append.1 hp with hp | hp
         · have := (List.pairwise_append.1 o6).2.2 p hp y (by simp)
           omega
         · simp at hp; rw [hp]; exact hyx
       · (repeat' first | exact trivial | rfl | apply And.intro | (refine leInt rfl ?_; first | omega | (dsimp only; omega)) | (refine leArr rfl ?_ rfl; (simp; try omega)) | (refine leBool rfl ?_; assumption))
         done)
    | (have hR : R0 = [] := by
         have := congrArg List.length o2
         simp at this
         exact List.eq_nil_of_length_eq_zero (by omega)
       subst hR
       refine ⟨rfl, _, ⟨W, rfl, o3, by rw [o2]; simpa using o4⟩, ?_⟩
       show Ob.arr 1 _ = Ob.arr 1 _
       rw [o1]; simp)
    | skip
  all_goals trace_state
end Go.DL
