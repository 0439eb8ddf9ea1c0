/- The sort of package slices: stableCmpFunc and SortStableFunc, at Score's closure. No condition. -/
import Derived.Test.YtdadnjhfennenaaC24
set_option linter.unusedVariables false
set_option linter.unusedSimpArgs false
set_option maxHeartbeats 4000000
namespace Go.DL
open Go.Proofs

def updL (M : List Int) (a b : Nat) (W : List Int) : List Int := M.take a ++ W ++ M.drop b
section
variable {M W : List Int} {a b w s : Nat}
theorem updL_len (h1 : a ≤ b) (h2 : b ≤ M.length) (hW : W.length = b - a) : (updL M a b W).length = M.length := by
  unfold updL
  simp only [List.length_append, List.length_take, List.length_drop]; omega
theorem blk_lo (h1 : a ≤ b) (h2 : b ≤ M.length) (h : w * s + w ≤ a) : blk w (updL M a b W) s = blk w M s := by
  have e : (M.take a).length = a := by rw [List.length_take]; omega
  unfold updL
  rw [List.append_assoc, blk_left (by omega)]
  conv => rhs; rw [← List.take_append_drop a M]
  rw [blk_left (by omega)]
theorem blk_hi (h1 : a ≤ b) (h2 : b ≤ M.length) (hW : W.length = b - a) (h : b ≤ w * s) : blk w (updL M a b W) s = blk w M s := by
  have e : (M.take a).length = a := by rw [List.length_take]; omega
  unfold updL
  conv => rhs; rw [← List.take_append_drop b M]
  exact blk_right (by simp only [List.length_append, List.length_take]; omega) (by simp only [List.length_append, List.length_take]; omega)
theorem blk_at (h1 : a ≤ b) (h2 : b ≤ M.length) (hW : W.length = b - a) (h : a = w * s) (hb : b = a + w ∨ (b = M.length ∧ b ≤ a + w)) : blk w (updL M a b W) s = W := by
  have e : (M.take a).length = a := by rw [List.length_take]; omega
  unfold updL
  rw [List.append_assoc]
  refine blk_mid (by omega) ?_
  rcases hb with hb | ⟨hb, hb'⟩
  · exact .inl (by omega)
  · exact .inr ⟨by omega, by rw [hb, List.drop_length]⟩
theorem updL_eqk (h1 : a ≤ b) (he : EqK W ((M.drop a).take (b - a))) : EqK (updL M a b W) M := by
  unfold updL
  conv => arg 2; rw [split3 M a b h1]
  rw [List.append_assoc]
  exact (EqK.refl _).app (he.app (EqK.refl _))
theorem updL_split (h1 : a ≤ b) : M = M.take a ++ (M.drop a).take (b - a) ++ M.drop b := by
  rw [List.append_assoc]; exact split3 M a b h1
end
theorem part_len {M : List Int} {a b : Nat} (h1 : a ≤ b) (h2 : b ≤ M.length) : ((M.drop a).take (b - a)).length = b - a := by
  rw [List.length_take, List.length_drop]; omega
structure st1I (rs : List Int) (N : Nat) (q : Nat × List Int) : Prop where
  n : q.2.length = N
  e : EqK q.2 rs
  a : 20 * q.1 ≤ N
  d : ∀ s, s < q.1 → Desc (blk 20 q.2 s)
theorem st1_next {rs M W : List Int} {N t : Nat} (h : st1I rs N (t, M)) (hb : 20 * t + 20 ≤ N) (dW : Desc W) (eW : EqK W ((M.drop (20 * t)).take 20)) : st1I rs N (t + 1, updL M (20 * t) (20 * t + 20) W) := by
  obtain ⟨h1, h2, h3, h4⟩ := h
  dsimp only at h1 h2 h3 h4
  have e20 : 20 * t + 20 - 20 * t = 20 := by omega
  have lW : W.length = 20 * t + 20 - 20 * t := by
    have := eW.len
    rw [List.length_take, List.length_drop] at this; omega
  refine ⟨(updL_len (by omega) (by omega) lW).trans h1, (updL_eqk (by omega) (by rw [e20]; exact eW)).trans h2, by dsimp only; omega, fun s hs => ?_⟩
  dsimp only at hs ⊢
  rcases Nat.lt_or_ge s t with h | h
  · rw [blk_lo (by omega) (by omega) (by omega)]; exact h4 s h
  · rw [blk_at (by omega) (by omega) lW (by omega) (.inl rfl)]; exact dW
structure st2I (rs : List Int) (N : Nat) (q : Nat × List Int) : Prop where
  n : q.2.length = N
  e : EqK q.2 rs
  w : 0 < q.1
  b : q.1 ≤ 2 * N + 40
  d : ∀ s, Desc (blk q.1 q.2 s)
theorem st1_end {rs M W : List Int} {N t : Nat} (h : st1I rs N (t, M)) (hb : N < 20 * t + 20) (dW : Desc W) (eW : EqK W ((M.drop (20 * t)).take (N - 20 * t))) : st2I rs N (20, updL M (20 * t) N W) := by
  obtain ⟨h1, h2, h3, h4⟩ := h
  dsimp only at h1 h2 h3 h4
  have lW : W.length = N - 20 * t := by
    have := eW.len
    rw [List.length_take, List.length_drop] at this; omega
  refine ⟨(updL_len (by omega) (by omega) lW).trans h1, (updL_eqk (by omega) eW).trans h2, by dsimp only; omega, by dsimp only; omega, fun s => ?_⟩
  dsimp only
  rcases Nat.lt_trichotomy s t with h | h | h
  · rw [blk_lo (by omega) (by omega) (by omega)]; exact h4 s h
  · rw [blk_at (by omega) (by omega) lW (by omega) (.inr ⟨h1.symm, by omega⟩)]; exact dW
  · rw [blk_nil (by rw [updL_len (by omega) (by omega) lW]; omega)]; exact Desc.nil
structure st3I (rs : List Int) (N w : Nat) (q : Nat × Nat × List Int) : Prop where
  n : q.2.2.length = N
  e : EqK q.2.2 rs
  a : q.2.1 = 2 * w * q.1
  b : q.2.1 ≤ N
  d : ∀ s, s < q.1 → Desc (blk (2 * w) q.2.2 s)
  r : ∀ s, 2 * q.1 ≤ s → Desc (blk w q.2.2 s)
theorem st3_0 {rs M : List Int} {N w : Nat} (h : st2I rs N (w, M)) : st3I rs N w (0, 0, M) := by
  obtain ⟨h1, h2, h3, h4, h5⟩ := h
  exact ⟨h1, h2, by simp, Nat.zero_le _, fun s h => absurd h (Nat.not_lt_zero _), fun s _ => h5 s⟩
theorem w_mono {w s t : Nat} (h : s ≤ t) : w * s ≤ w * t := Nat.mul_le_mul_left w h
theorem st3_uv {rs M : List Int} {N w t a : Nat} (h : st3I rs N w (t, a, M)) : Desc ((M.drop a).take w) ∧ Desc ((M.drop (a + w)).take w) := by
  obtain ⟨h1, h2, h3, h4, h5, h6⟩ := h
  dsimp only at h1 h2 h3 h4 h5 h6
  have e : w * (2 * t) = a := by rw [h3, Nat.mul_comm 2 w, Nat.mul_assoc]
  have g1 := h6 (2 * t) (Nat.le_refl _)
  have g2 := h6 (2 * t + 1) (Nat.le_succ _)
  unfold blk at g1 g2
  rw [e] at g1
  rw [Nat.mul_add, e, Nat.mul_one] at g2
  exact ⟨g1, g2⟩
theorem st3_next {rs M W : List Int} {N w t a : Nat} (h : st3I rs N w (t, a, M)) (hb : a + 2 * w ≤ N) (dW : Desc W) (eW : EqK W ((M.drop a).take (2 * w))) : st3I rs N w (t + 1, a + 2 * w, updL M a (a + 2 * w) W) := by
  obtain ⟨h1, h2, h3, h4, h5, h6⟩ := h
  dsimp only at h1 h2 h3 h4 h5 h6
  have ew : a + 2 * w - a = 2 * w := by omega
  have lW : W.length = a + 2 * w - a := by
    have := eW.len
    rw [List.length_take, List.length_drop] at this; omega
  refine ⟨(updL_len (by omega) (by omega) lW).trans h1, (updL_eqk (by omega) (by rw [ew]; exact eW)).trans h2, by dsimp only; rw [h3, Nat.mul_add, Nat.mul_one], hb, fun s hs => ?_, fun s hs => ?_⟩
  · dsimp only at hs ⊢
    rcases Nat.lt_or_ge s t with h | h
    · rw [blk_lo (by omega) (by omega) ?_]
      · exact h5 s h
      · have := w_mono (w := 2 * w) (show s + 1 ≤ t by omega)
        rw [Nat.mul_add, Nat.mul_one] at this; omega
    · have : s = t := by omega
      subst this
      rw [blk_at (by omega) (by omega) lW h3 (.inl rfl)]; exact dW
  · dsimp only at hs ⊢
    rw [blk_hi (by omega) (by omega) lW ?_]
    · exact h6 s (by omega)
    · have e : w * (2 * t) = a := by rw [h3, Nat.mul_comm 2 w, Nat.mul_assoc]
      have := w_mono (w := w) (show 2 * t + 2 ≤ s by omega)
      rw [Nat.mul_add, e] at this; omega
theorem st3_end {rs M W : List Int} {N w t a : Nat} (h : st3I rs N w (t, a, M)) (hw : 0 < w) (hwN : w < N) (hb : N < a + 2 * w) (dW : Desc W) (eW : EqK W ((M.drop a).take (N - a))) : st2I rs N (2 * w, updL M a N W) := by
  obtain ⟨h1, h2, h3, h4, h5, h6⟩ := h
  dsimp only at h1 h2 h3 h4 h5 h6
  have lW : W.length = N - a := by
    have := eW.len
    rw [List.length_take, List.length_drop] at this; omega
  refine ⟨(updL_len (by omega) (by omega) lW).trans h1, (updL_eqk (by omega) eW).trans h2, by dsimp only; omega, by dsimp only; omega, fun s => ?_⟩
  dsimp only
  rcases Nat.lt_trichotomy s t with h | h | h
  · rw [blk_lo (by omega) (by omega) ?_]
    · exact h5 s h
    · have := w_mono (w := 2 * w) (show s + 1 ≤ t by omega)
      rw [Nat.mul_add, Nat.mul_one] at this; omega
  · subst h
    rw [blk_at (by omega) (by omega) lW h3 (.inr ⟨h1.symm, by omega⟩)]; exact dW
  · rw [blk_nil ?_]
    · exact Desc.nil
    · rw [updL_len (by omega) (by omega) lW]
      have := w_mono (w := 2 * w) (show t + 1 ≤ s by omega)
      rw [Nat.mul_add, Nat.mul_one] at this; omega
theorem updL_same {M : List Int} {a b : Nat} (h1 : a ≤ b) : updL M a b ((M.drop a).take (b - a)) = M := (updL_split h1).symm
theorem st2_end {rs M : List Int} {N w : Nat} (h : st2I rs N (w, M)) (hw : N ≤ w) : Desc M := by
  obtain ⟨h1, h2, h3, h4, h5⟩ := h
  have := h5 0
  unfold blk at this
  dsimp only at this h1
  rw [Nat.mul_zero, List.drop_zero, List.take_of_length_le (by omega)] at this
  exact this
theorem take_uv {M : List Int} {a w k : Nat} : (M.drop a).take w ++ (M.drop (a + w)).take k = (M.drop a).take (w + k) := by
  rw [List.take_add, List.drop_drop]
theorem uv_split {M : List Int} {a w k b : Nat} (h : b = a + w + k) : M = M.take a ++ (M.drop a).take w ++ (M.drop (a + w)).take k ++ M.drop b := by
  rw [List.append_assoc (M.take a), take_uv, show w + k = b - a by omega]
  exact updL_split (by omega)
theorem desc_take {l : List Int} {k w : Nat} (h : Desc (l.take w)) (hk : k ≤ w) : Desc (l.take k) := by
  refine h.sub ?_
  have : l.take k = (l.take w).take k := by rw [List.take_take, Nat.min_eq_left hk]
  rw [this]; exact List.take_sublist _ _
theorem c_stab {rs : List Int} (hb : bd rs) (hl : rs.length ≤ 100000) : CallI tab 67 [.arr 0 0 rs.length, .v (nV rs.length), .v scF] 1 (rs.map iV) (fun zs => ∃ W, zs = W.map iV ∧ Desc W ∧ EqK W rs) := by
  have hbe : ∀ {M : List Int}, EqK M rs → bd M := fun h v hv => hb v (h.mem hv)
  obtain ⟨N, hN⟩ : ∃ N, N = rs.length := ⟨_, rfl⟩
  rw [← hN]
  refine callI_of Try.func67 rfl (Nat.le_of_ble_eq_true rfl) (by kernel_rfl) ?_
  repeat' first
    | (apply Br.id; first
      | (apply Br.tt; try conv => whnf)
      | (apply Br.ff; try conv => whnf)
      | (refine Br.of_t (by assumption) ?_; conv => whnf)
      | (refine Br.of_f (by assumption) ?_; conv => whnf)
      | (refine Br.mk (fun _ => ?_) (fun _ => ?_) <;> try conv => whnf))
    | (apply CallOp.id; first
      | (refine call_inp 0 hsym rfl rfl rfl rfl rfl rfl (obLe_v rfl) (fun ys hys => ?_); obtain ⟨W, rfl, dW, eW⟩ := hys; conv => whnf)
      | (refine call_inp 0 hins rfl rfl rfl rfl rfl rfl (obLe_v rfl) (fun ys hys => ?_); obtain ⟨W, rfl, dW, eW⟩ := hys; conv => whnf)
      | (refine call_at rfl rfl rfl rfl rfl ?_)
      | (refine call_rd rfl rfl rfl rfl rfl ?_)
      | (refine CallOp.std ?_; (conv => whnf); fail_if_success refine (?_ : False)))
    | (apply CallDet.id; first
      | (refine call_inp 0 hsym rfl rfl rfl rfl rfl rfl (obLe_v rfl) (fun ys hys => ?_); obtain ⟨W, rfl, dW, eW⟩ := hys; conv => whnf)
      | (refine call_inp 0 hins rfl rfl rfl rfl rfl rfl (obLe_v rfl) (fun ys hys => ?_); obtain ⟨W, rfl, dW, eW⟩ := hys; conv => whnf)
      | (refine call_atD rfl rfl rfl rfl rfl ?_)
      | (refine call_rdD rfl rfl rfl rfl rfl ?_)
      | (refine CallDet.std ?_; (conv => whnf); fail_if_success refine (?_ : False)))
    | (refine EndOk.mk (by kernel_rfl) ?_; conv => whnf)
    | (refine And.intro (by (first | decide | exact trivial | omega | with_reducible exact Nat.le_refl _ | (((try simp only [decide_eq_true_eq, decide_eq_false_iff_not, cond_true, cond_false, beq_iff_eq, beq_eq_false_iff_ne, bne_iff_ne, bne_eq_false_iff_eq, ne_eq, Bool.not_eq_true', Bool.not_eq_false', Bool.not_eq_eq_eq_not, Bool.not_true, Bool.not_false, sLe_eq, Bool.and_eq_true, Bool.and_eq_false_iff, List.length_map, List.length_set, List.length_append, List.length_take, List.length_drop, List.length_replicate, List.length_cons, List.length_nil, lenMax, capMax, Int.toNat_natCast, gt_iff_lt, ge_iff_le] at *); (try simp (disch := omega) only [wr, wru, shr1, Int.tdiv_eq_ediv_of_nonneg] at *)); omega) | (((try simp only [decide_eq_true_eq, decide_eq_false_iff_not, cond_true, cond_false, beq_iff_eq, beq_eq_false_iff_ne, bne_iff_ne, bne_eq_false_iff_eq, ne_eq, Bool.not_eq_true', Bool.not_eq_false', Bool.not_eq_eq_eq_not, Bool.not_true, Bool.not_false, sLe_eq, Bool.and_eq_true, Bool.and_eq_false_iff, List.length_map, List.length_set, List.length_append, List.length_take, List.length_drop, List.length_replicate, List.length_cons, List.length_nil, lenMax, capMax, Int.toNat_natCast, gt_iff_lt, ge_iff_le] at *); (try simp (disch := omega) only [wr, wru, shr1, Int.tdiv_eq_ediv_of_nonneg] at *)); with_reducible assumption))) ?_; conv => whnf)
    | (refine idxOld (by assumption) ?_; conv => whnf)
    | (refine idxMap (by (first | decide | exact trivial | omega | with_reducible exact Nat.le_refl _ | (((try simp only [decide_eq_true_eq, decide_eq_false_iff_not, cond_true, cond_false, beq_iff_eq, beq_eq_false_iff_ne, bne_iff_ne, bne_eq_false_iff_eq, ne_eq, Bool.not_eq_true', Bool.not_eq_false', Bool.not_eq_eq_eq_not, Bool.not_true, Bool.not_false, sLe_eq, Bool.and_eq_true, Bool.and_eq_false_iff, List.length_map, List.length_set, List.length_append, List.length_take, List.length_drop, List.length_replicate, List.length_cons, List.length_nil, lenMax, capMax, Int.toNat_natCast, gt_iff_lt, ge_iff_le] at *); (try simp (disch := omega) only [wr, wru, shr1, Int.tdiv_eq_ediv_of_nonneg] at *)); omega) | (((try simp only [decide_eq_true_eq, decide_eq_false_iff_not, cond_true, cond_false, beq_iff_eq, beq_eq_false_iff_ne, bne_iff_ne, bne_eq_false_iff_eq, ne_eq, Bool.not_eq_true', Bool.not_eq_false', Bool.not_eq_eq_eq_not, Bool.not_true, Bool.not_false, sLe_eq, Bool.and_eq_true, Bool.and_eq_false_iff, List.length_map, List.length_set, List.length_append, List.length_take, List.length_drop, List.length_replicate, List.length_cons, List.length_nil, lenMax, capMax, Int.toNat_natCast, gt_iff_lt, ge_iff_le] at *); (try simp (disch := omega) only [wr, wru, shr1, Int.tdiv_eq_ediv_of_nonneg] at *)); with_reducible assumption))) (fun _ _ => ?_); conv => whnf)
    | refine Exists.intro _ (And.intro (DV_toV rfl) ?_)
    | (refine rowSet (by (first | decide | exact trivial | omega | with_reducible exact Nat.le_refl _ | (((try simp only [decide_eq_true_eq, decide_eq_false_iff_not, cond_true, cond_false, beq_iff_eq, beq_eq_false_iff_ne, bne_iff_ne, bne_eq_false_iff_eq, ne_eq, Bool.not_eq_true', Bool.not_eq_false', Bool.not_eq_eq_eq_not, Bool.not_true, Bool.not_false, sLe_eq, Bool.and_eq_true, Bool.and_eq_false_iff, List.length_map, List.length_set, List.length_append, List.length_take, List.length_drop, List.length_replicate, List.length_cons, List.length_nil, lenMax, capMax, Int.toNat_natCast, gt_iff_lt, ge_iff_le] at *); (try simp (disch := omega) only [wr, wru, shr1, Int.tdiv_eq_ediv_of_nonneg] at *)); omega) | (((try simp only [decide_eq_true_eq, decide_eq_false_iff_not, cond_true, cond_false, beq_iff_eq, beq_eq_false_iff_ne, bne_iff_ne, bne_eq_false_iff_eq, ne_eq, Bool.not_eq_true', Bool.not_eq_false', Bool.not_eq_eq_eq_not, Bool.not_true, Bool.not_false, sLe_eq, Bool.and_eq_true, Bool.and_eq_false_iff, List.length_map, List.length_set, List.length_append, List.length_take, List.length_drop, List.length_replicate, List.length_cons, List.length_nil, lenMax, capMax, Int.toNat_natCast, gt_iff_lt, ge_iff_le] at *); (try simp (disch := omega) only [wr, wru, shr1, Int.tdiv_eq_ediv_of_nonneg] at *)); with_reducible assumption))) ?_; conv => whnf)
    | (refine rowOld (by assumption) ?_; conv => whnf)
    | (refine rowNew (by (first | decide | exact trivial | omega | with_reducible exact Nat.le_refl _ | (((try simp only [decide_eq_true_eq, decide_eq_false_iff_not, cond_true, cond_false, beq_iff_eq, beq_eq_false_iff_ne, bne_iff_ne, bne_eq_false_iff_eq, ne_eq, Bool.not_eq_true', Bool.not_eq_false', Bool.not_eq_eq_eq_not, Bool.not_true, Bool.not_false, sLe_eq, Bool.and_eq_true, Bool.and_eq_false_iff, List.length_map, List.length_set, List.length_append, List.length_take, List.length_drop, List.length_replicate, List.length_cons, List.length_nil, lenMax, capMax, Int.toNat_natCast, gt_iff_lt, ge_iff_le] at *); (try simp (disch := omega) only [wr, wru, shr1, Int.tdiv_eq_ediv_of_nonneg] at *)); omega) | (((try simp only [decide_eq_true_eq, decide_eq_false_iff_not, cond_true, cond_false, beq_iff_eq, beq_eq_false_iff_ne, bne_iff_ne, bne_eq_false_iff_eq, ne_eq, Bool.not_eq_true', Bool.not_eq_false', Bool.not_eq_eq_eq_not, Bool.not_true, Bool.not_false, sLe_eq, Bool.and_eq_true, Bool.and_eq_false_iff, List.length_map, List.length_set, List.length_append, List.length_take, List.length_drop, List.length_replicate, List.length_cons, List.length_nil, lenMax, capMax, Int.toNat_natCast, gt_iff_lt, ge_iff_le] at *); (try simp (disch := omega) only [wr, wru, shr1, Int.tdiv_eq_ediv_of_nonneg] at *)); with_reducible assumption))) (fun _ _ => ?_); conv => whnf)
    | (apply WpD.id; first
      | (refine WpD.loopAt 11 rfl (fun q : Nat × List Int => ⟨[(0, .arr 0 0 N), (1, .v (nV N)), (2, .v scF), (6, .v (nV 20)), (7, .v (nV (20 * q.1))), (8, .v (nV (20 * q.1 + 20)))], [.arr 1 (vrows (q.2.map iV))], []⟩) (fun q => st1I rs N q) (fun q => N - 20 * q.1) ?_ (fun ⟨t, M⟩ hq => ?_); rotate_left; (have hM : M.length = N := hq.n); (have hMb : bd M := hbe hq.e); (have hMa : 20 * t ≤ N := hq.a); rcases Nat.lt_or_ge N (20 * t + 20) with hlt | hge; (have dk : decide (((20 * t + 20 : Nat) : Int) ≤ (N : Int)) = false := by { simp; omega }); (have hins := c_ins (L := M) (P := M.take (20 * t)) (X := (M.drop (20 * t)).take (N - 20 * t)) (S := M.drop N) (a' := (20 * t : Nat)) (b' := N) (by rw [List.length_take]; omega) (by rw [List.length_take, List.length_take, List.length_drop]; omega) (updL_split hMa) hMb (by omega)); rw [hM] at hins; rotate_left; (have dk : decide (((20 * t + 20 : Nat) : Int) ≤ (N : Int)) = true := by { simp; omega }); (have hins := c_ins (L := M) (P := M.take (20 * t)) (X := (M.drop (20 * t)).take (20 * t + 20 - 20 * t)) (S := M.drop (20 * t + 20)) (a' := (20 * t : Nat)) (b' := (20 * t + 20 : Nat)) (by rw [List.length_take]; omega) (by rw [List.length_take, List.length_take, List.length_drop]; omega) (updL_split (by omega)) hMb (by omega)); rw [hM] at hins; rotate_left)
      | (refine WpD.loopAt 33 rfl (fun q : Nat × Nat × List Int => ⟨[(0, .arr 0 0 N), (1, .v (nV N)), (2, .v scF), (6, .v (nV w)), (7, .v (nV q.2.1)), (8, .v (nV (q.2.1 + 2 * w)))], [.arr 1 (vrows (q.2.2.map iV))], []⟩) (fun q => st3I rs N w q) (fun q => N - q.2.1) ?_ (fun ⟨t, a, M3⟩ hq3 => ?_); rotate_left; (have hM3 : M3.length = N := hq3.n); (have hMb3 : bd M3 := hbe hq3.e); (have hMa3 : a ≤ N := hq3.b); (obtain ⟨dU, dV⟩ := st3_uv hq3); (have waw : IntKind.wrap .i64 ((a : Int) + (w : Int)) = ((a + w : Nat) : Int) := by { rw [wr (by omega) (by omega)]; omega }); rcases Nat.lt_or_ge N (a + 2 * w) with hlt3 | hge3; (have dk3 : decide (((a + 2 * w : Nat) : Int) ≤ (N : Int)) = false := by { simp; omega }); rcases Nat.lt_or_ge (a + w) N with hm | hm; (have dm : decide (IntKind.wrap .i64 ((a : Int) + (w : Int)) < (N : Int)) = true := by { rw [waw]; simp; omega }); (have hsym := c_sym (w + w) (L := M3) (P := M3.take a) (U := (M3.drop a).take w) (V := (M3.drop (a + w)).take (N - (a + w))) (S := M3.drop N) (a' := a) (m' := IntKind.wrap .i64 ((a : Int) + (w : Int))) (b' := N) (by rw [List.length_take, List.length_take]; omega) (by rw [List.length_take]; omega) (by rw [waw, List.length_take, List.length_take, List.length_drop]; omega) (by rw [List.length_take, List.length_take, List.length_take, List.length_drop, List.length_drop]; omega) (uv_split (by omega)) (by rw [List.length_take, List.length_drop]; omega) (by rw [List.length_take, List.length_drop]; omega) dU (desc_take dV (by omega)) hMb3 (by omega)); rw [hM3] at hsym; rotate_left; (have dm : decide (IntKind.wrap .i64 ((a : Int) + (w : Int)) < (N : Int)) = false := by { rw [waw]; simp; omega }); rotate_left; (have dk3 : decide (((a + 2 * w : Nat) : Int) ≤ (N : Int)) = true := by { simp; omega }); (have hsym := c_sym (w + w) (L := M3) (P := M3.take a) (U := (M3.drop a).take w) (V := (M3.drop (a + w)).take w) (S := M3.drop (a + 2 * w)) (a' := a) (m' := IntKind.wrap .i64 ((a : Int) + (w : Int))) (b' := (a + 2 * w : Nat)) (by rw [List.length_take, List.length_take]; omega) (by rw [List.length_take]; omega) (by rw [waw, List.length_take, List.length_take, List.length_drop]; omega) (by rw [List.length_take, List.length_take, List.length_take, List.length_drop, List.length_drop]; omega) (uv_split (by omega)) (by rw [List.length_take, List.length_drop]; omega) (by rw [List.length_take, List.length_drop]; omega) dU dV hMb3 (by omega)); rw [hM3] at hsym; rotate_left)
      | (refine WpD.loopAt 28 rfl (fun q : Nat × List Int => ⟨[(0, .arr 0 0 N), (1, .v (nV N)), (2, .v scF), (6, .v (nV q.1))], [.arr 1 (vrows (q.2.map iV))], []⟩) (fun q => st2I rs N q) (fun q => N - q.1) ?_ (fun ⟨w, M2⟩ hq2 => ?_); rotate_left; (have hw0 : 0 < w := hq2.w); (have hwb : w ≤ 2 * N + 40 := hq2.b); (have w2 : IntKind.wrap .i64 (2 * (w : Int)) = ((2 * w : Nat) : Int) := by { rw [wr (by omega) (by omega)]; omega }); rcases Nat.lt_or_ge w N with hwn | hwn; (have dw : decide ((w : Int) < (N : Int)) = true := by { simp; omega }); rotate_left; (have dw : decide ((w : Int) < (N : Int)) = false := by { simp; omega }); rotate_left)
      | (refine WpD.walk rfl ?_; conv => whnf))
  all_goals try clear hins
  all_goals try clear hsym
  all_goals ((try simp only [decide_eq_true_eq, decide_eq_false_iff_not, cond_true, cond_false, beq_iff_eq, beq_eq_false_iff_ne, bne_iff_ne, bne_eq_false_iff_eq, ne_eq, Bool.not_eq_true', Bool.not_eq_false', Bool.not_eq_eq_eq_not, Bool.not_true, Bool.not_false, sLe_eq, Bool.and_eq_true, Bool.and_eq_false_iff, List.length_map, List.length_set, List.length_append, List.length_take, List.length_drop, List.length_replicate, List.length_cons, List.length_nil, lenMax, capMax, Int.toNat_natCast, gt_iff_lt, ge_iff_le] at *); (try simp (disch := omega) only [wr, wru, shr1, Int.tdiv_eq_ediv_of_nonneg] at *))
  all_goals first
    | (refine ⟨(0, rs), [0], ⟨hN.symm, EqK.refl _, by dsimp only; omega, fun s h => absurd h (Nat.not_lt_zero _)⟩, ⟨by decide, rfl, ?_, ⟨obLe_v rfl, trivial⟩, rfl⟩⟩
       (repeat' first | exact trivial | rfl | apply And.intro | (refine leInt rfl ?_; first | omega | (dsimp only; omega)) | (refine leArr rfl ?_ rfl; (simp; try omega)) | (refine leBool rfl ?_; assumption))
       done)
    | (refine ⟨(20, updL M (20 * t) N W), [0], st1_end hq (by omega) dW eW, ⟨by decide, rfl, ?_, ⟨obLe_v rfl, trivial⟩, rfl⟩⟩
       (repeat' first | exact trivial | rfl | apply And.intro | (refine leInt rfl ?_; first | omega | (dsimp only; omega)) | (refine leArr rfl ?_ rfl; (simp; try omega)) | (refine leBool rfl ?_; assumption))
       done)
    | (refine ⟨(0, 0, M2), [0], st3_0 hq2, ⟨by decide, rfl, ?_, ⟨obLe_v rfl, trivial⟩, rfl⟩⟩
       (repeat' first | exact trivial | rfl | apply And.intro | (refine leInt rfl ?_; first | omega | (dsimp only; omega)) | (refine leArr rfl ?_ rfl; (simp; try omega)) | (refine leBool rfl ?_; assumption))
       done)
    | (refine ⟨(2 * w, updL M3 a N W), [0], st3_end hq3 hw0 hwn hlt3 dW (by rw [show N - a = w + (N - (a + w)) by omega, ← take_uv]; exact eW), ⟨⟨by decide, rfl, ?_, ⟨obLe_v rfl, trivial⟩, rfl⟩, by dsimp only; omega⟩⟩
       (repeat' first | exact trivial | rfl | apply And.intro | (refine leInt rfl ?_; first | omega | (dsimp only; omega)) | (refine leArr rfl ?_ rfl; (simp; try omega)) | (refine leBool rfl ?_; assumption))
       done)
    | (have h3 := st3_end hq3 hw0 hwn hlt3 (desc_take dU (show N - a ≤ w by omega)) (EqK.refl _)
       rw [updL_same hMa3] at h3
       refine ⟨(2 * w, M3), [0], h3, ⟨⟨by decide, rfl, ?_, ⟨obLe_v rfl, trivial⟩, rfl⟩, by dsimp only; omega⟩⟩
       (repeat' first | exact trivial | rfl | apply And.intro | (refine leInt rfl ?_; first | omega | (dsimp only; omega)) | (refine leArr rfl ?_ rfl; (simp; try omega)) | (refine leBool rfl ?_; assumption))
       done)
    | (refine ⟨(t + 1, a + 2 * w, updL M3 a (a + 2 * w) W), [0], st3_next hq3 (by omega) dW (by rw [show 2 * w = w + w by omega, ← take_uv]; exact eW), ⟨⟨by decide, rfl, ?_, ⟨obLe_v rfl, trivial⟩, rfl⟩, by dsimp only; omega⟩⟩
       (repeat' first | exact trivial | rfl | apply And.intro | (refine leInt rfl ?_; first | omega | (dsimp only; omega)) | (refine leArr rfl ?_ rfl; (simp; try omega)) | (refine leBool rfl ?_; assumption))
       done)
    | (exact ⟨rfl, _, ⟨M2, rfl, st2_end hq2 hwn, hq2.e⟩, rfl⟩)
    | (refine ⟨(t + 1, updL M (20 * t) (20 * t + 20) W), [0], st1_next hq (by omega) dW (by rw [show 20 * t + 20 - 20 * t = 20 by omega] at eW; exact eW), ⟨⟨by decide, rfl, ?_, ⟨obLe_v rfl, trivial⟩, rfl⟩, by dsimp only; omega⟩⟩
       (repeat' first | exact trivial | rfl | apply And.intro | (refine leInt rfl ?_; first | omega | (dsimp only; omega)) | (refine leArr rfl ?_ rfl; (simp; try omega)) | (refine leBool rfl ?_; assumption))
       done)
    | skip
  all_goals trace_state
theorem c_sortS {rs ys : List Int} (hb : bd rs) (hl : rs.length ≤ 100000) (hy : Desc ys) (he : EqK ys rs) : CallI tab 48 [.arr 0 0 rs.length, .v scF] 1 (rs.map iV) (· = ys.map iV) := by
  have h1 := c_stab hb hl
  refine callI_of Try.func48 rfl (Nat.le_of_ble_eq_true rfl) (by kernel_rfl) ?_
  repeat' first
    | (apply Br.id; first
      | (apply Br.tt; try conv => whnf)
      | (apply Br.ff; try conv => whnf)
      | (refine Br.of_t (by assumption) ?_; conv => whnf)
      | (refine Br.of_f (by assumption) ?_; conv => whnf)
      | (refine Br.mk (fun _ => ?_) (fun _ => ?_) <;> try conv => whnf))
    | (apply CallOp.id; first
      | (refine call_inp 0 h1 rfl rfl rfl rfl rfl rfl (obLe_v rfl) (fun zs hzs => ?_); obtain ⟨W, rfl, dW, eW⟩ := hzs; conv => whnf)
      | (refine call_at rfl rfl rfl rfl rfl ?_)
      | (refine call_rd rfl rfl rfl rfl rfl ?_)
      | (refine CallOp.std ?_; (conv => whnf); fail_if_success refine (?_ : False)))
    | (apply CallDet.id; first
      | (refine call_inp 0 h1 rfl rfl rfl rfl rfl rfl (obLe_v rfl) (fun zs hzs => ?_); obtain ⟨W, rfl, dW, eW⟩ := hzs; conv => whnf)
      | (refine call_atD rfl rfl rfl rfl rfl ?_)
      | (refine call_rdD rfl rfl rfl rfl rfl ?_)
      | (refine CallDet.std ?_; (conv => whnf); fail_if_success refine (?_ : False)))
    | (refine EndOk.mk (by kernel_rfl) ?_; conv => whnf)
    | (refine And.intro (by (first | decide | exact trivial | omega | with_reducible exact Nat.le_refl _ | (((try simp only [decide_eq_true_eq, decide_eq_false_iff_not, cond_true, cond_false, beq_iff_eq, beq_eq_false_iff_ne, bne_iff_ne, bne_eq_false_iff_eq, ne_eq, Bool.not_eq_true', Bool.not_eq_false', Bool.not_eq_eq_eq_not, Bool.not_true, Bool.not_false, sLe_eq, Bool.and_eq_true, Bool.and_eq_false_iff, List.length_map, List.length_set, List.length_append, List.length_take, List.length_drop, List.length_replicate, List.length_cons, List.length_nil, lenMax, capMax, Int.toNat_natCast, gt_iff_lt, ge_iff_le] at *); (try simp (disch := omega) only [wr, wru, shr1, Int.tdiv_eq_ediv_of_nonneg] at *)); omega) | (((try simp only [decide_eq_true_eq, decide_eq_false_iff_not, cond_true, cond_false, beq_iff_eq, beq_eq_false_iff_ne, bne_iff_ne, bne_eq_false_iff_eq, ne_eq, Bool.not_eq_true', Bool.not_eq_false', Bool.not_eq_eq_eq_not, Bool.not_true, Bool.not_false, sLe_eq, Bool.and_eq_true, Bool.and_eq_false_iff, List.length_map, List.length_set, List.length_append, List.length_take, List.length_drop, List.length_replicate, List.length_cons, List.length_nil, lenMax, capMax, Int.toNat_natCast, gt_iff_lt, ge_iff_le] at *); (try simp (disch := omega) only [wr, wru, shr1, Int.tdiv_eq_ediv_of_nonneg] at *)); with_reducible assumption))) ?_; conv => whnf)
    | (refine idxOld (by assumption) ?_; conv => whnf)
    | (refine idxMap (by (first | decide | exact trivial | omega | with_reducible exact Nat.le_refl _ | (((try simp only [decide_eq_true_eq, decide_eq_false_iff_not, cond_true, cond_false, beq_iff_eq, beq_eq_false_iff_ne, bne_iff_ne, bne_eq_false_iff_eq, ne_eq, Bool.not_eq_true', Bool.not_eq_false', Bool.not_eq_eq_eq_not, Bool.not_true, Bool.not_false, sLe_eq, Bool.and_eq_true, Bool.and_eq_false_iff, List.length_map, List.length_set, List.length_append, List.length_take, List.length_drop, List.length_replicate, List.length_cons, List.length_nil, lenMax, capMax, Int.toNat_natCast, gt_iff_lt, ge_iff_le] at *); (try simp (disch := omega) only [wr, wru, shr1, Int.tdiv_eq_ediv_of_nonneg] at *)); omega) | (((try simp only [decide_eq_true_eq, decide_eq_false_iff_not, cond_true, cond_false, beq_iff_eq, beq_eq_false_iff_ne, bne_iff_ne, bne_eq_false_iff_eq, ne_eq, Bool.not_eq_true', Bool.not_eq_false', Bool.not_eq_eq_eq_not, Bool.not_true, Bool.not_false, sLe_eq, Bool.and_eq_true, Bool.and_eq_false_iff, List.length_map, List.length_set, List.length_append, List.length_take, List.length_drop, List.length_replicate, List.length_cons, List.length_nil, lenMax, capMax, Int.toNat_natCast, gt_iff_lt, ge_iff_le] at *); (try simp (disch := omega) only [wr, wru, shr1, Int.tdiv_eq_ediv_of_nonneg] at *)); with_reducible assumption))) (fun _ _ => ?_); conv => whnf)
    | refine Exists.intro _ (And.intro (DV_toV rfl) ?_)
    | (refine rowSet (by (first | decide | exact trivial | omega | with_reducible exact Nat.le_refl _ | (((try simp only [decide_eq_true_eq, decide_eq_false_iff_not, cond_true, cond_false, beq_iff_eq, beq_eq_false_iff_ne, bne_iff_ne, bne_eq_false_iff_eq, ne_eq, Bool.not_eq_true', Bool.not_eq_false', Bool.not_eq_eq_eq_not, Bool.not_true, Bool.not_false, sLe_eq, Bool.and_eq_true, Bool.and_eq_false_iff, List.length_map, List.length_set, List.length_append, List.length_take, List.length_drop, List.length_replicate, List.length_cons, List.length_nil, lenMax, capMax, Int.toNat_natCast, gt_iff_lt, ge_iff_le] at *); (try simp (disch := omega) only [wr, wru, shr1, Int.tdiv_eq_ediv_of_nonneg] at *)); omega) | (((try simp only [decide_eq_true_eq, decide_eq_false_iff_not, cond_true, cond_false, beq_iff_eq, beq_eq_false_iff_ne, bne_iff_ne, bne_eq_false_iff_eq, ne_eq, Bool.not_eq_true', Bool.not_eq_false', Bool.not_eq_eq_eq_not, Bool.not_true, Bool.not_false, sLe_eq, Bool.and_eq_true, Bool.and_eq_false_iff, List.length_map, List.length_set, List.length_append, List.length_take, List.length_drop, List.length_replicate, List.length_cons, List.length_nil, lenMax, capMax, Int.toNat_natCast, gt_iff_lt, ge_iff_le] at *); (try simp (disch := omega) only [wr, wru, shr1, Int.tdiv_eq_ediv_of_nonneg] at *)); with_reducible assumption))) ?_; conv => whnf)
    | (refine rowOld (by assumption) ?_; conv => whnf)
    | (refine rowNew (by (first | decide | exact trivial | omega | with_reducible exact Nat.le_refl _ | (((try simp only [decide_eq_true_eq, decide_eq_false_iff_not, cond_true, cond_false, beq_iff_eq, beq_eq_false_iff_ne, bne_iff_ne, bne_eq_false_iff_eq, ne_eq, Bool.not_eq_true', Bool.not_eq_false', Bool.not_eq_eq_eq_not, Bool.not_true, Bool.not_false, sLe_eq, Bool.and_eq_true, Bool.and_eq_false_iff, List.length_map, List.length_set, List.length_append, List.length_take, List.length_drop, List.length_replicate, List.length_cons, List.length_nil, lenMax, capMax, Int.toNat_natCast, gt_iff_lt, ge_iff_le] at *); (try simp (disch := omega) only [wr, wru, shr1, Int.tdiv_eq_ediv_of_nonneg] at *)); omega) | (((try simp only [decide_eq_true_eq, decide_eq_false_iff_not, cond_true, cond_false, beq_iff_eq, beq_eq_false_iff_ne, bne_iff_ne, bne_eq_false_iff_eq, ne_eq, Bool.not_eq_true', Bool.not_eq_false', Bool.not_eq_eq_eq_not, Bool.not_true, Bool.not_false, sLe_eq, Bool.and_eq_true, Bool.and_eq_false_iff, List.length_map, List.length_set, List.length_append, List.length_take, List.length_drop, List.length_replicate, List.length_cons, List.length_nil, lenMax, capMax, Int.toNat_natCast, gt_iff_lt, ge_iff_le] at *); (try simp (disch := omega) only [wr, wru, shr1, Int.tdiv_eq_ediv_of_nonneg] at *)); with_reducible assumption))) (fun _ _ => ?_); conv => whnf)
    | (apply WpD.id; first
      | (refine WpD.walk rfl ?_; conv => whnf))
  all_goals clear h1
  all_goals ((try simp only [decide_eq_true_eq, decide_eq_false_iff_not, cond_true, cond_false, beq_iff_eq, beq_eq_false_iff_ne, bne_iff_ne, bne_eq_false_iff_eq, ne_eq, Bool.not_eq_true', Bool.not_eq_false', Bool.not_eq_eq_eq_not, Bool.not_true, Bool.not_false, sLe_eq, Bool.and_eq_true, Bool.and_eq_false_iff, List.length_map, List.length_set, List.length_append, List.length_take, List.length_drop, List.length_replicate, List.length_cons, List.length_nil, lenMax, capMax, Int.toNat_natCast, gt_iff_lt, ge_iff_le] at *); (try simp (disch := omega) only [wr, wru, shr1, Int.tdiv_eq_ediv_of_nonneg] at *))
  all_goals first
    | (rw [EqK.uniq dW hy (eW.trans he.symm)]; exact ⟨rfl, _, rfl, rfl⟩)
    | skip
  all_goals trace_state
end Go.DL
