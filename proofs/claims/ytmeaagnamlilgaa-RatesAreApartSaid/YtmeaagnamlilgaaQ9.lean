/- Rates: plain laws: keys are apart; a run of uses. No condition. -/
import Derived.Test.YtmeaagnamlilgaaQ8
set_option linter.unusedVariables false
set_option linter.unusedSimpArgs false
set_option maxHeartbeats 4000000
namespace Go.DL
open Go.Proofs

theorem alF_0 {r : Rt} {key : ByteArray} {n now : Int} (h : (alF r key n now).1 = 0) : alF r key n now = (0, 0) := by
  unfold alF at h ⊢
  split
  · rename_i h1; rw [if_pos h1] at h; exact ratF_0 h
  · rename_i h1; rw [if_neg h1] at h
    split
    · rename_i h2; rw [if_pos h2] at h; simp at h
    · rename_i h2; rw [if_neg h2] at h
      split
      · rename_i h3; rw [if_pos h3] at h; simp at h
      · rename_i h3; rw [if_neg h3] at h
        split
        · rename_i h4; rw [if_pos h4] at h; simp at h
        · rfl
theorem al_0 {r : Rt} {key : ByteArray} {n now : Int} (h : (alR r key n now).2.2.1 = 0) : (alR r key n now).2.2 = (0, 0) := by
  unfold alR at h ⊢
  split
  · rename_i h1; rw [if_pos h1] at h; exact alF_0 h
  · rename_i h1
    rw [if_neg h1] at h
    split
    · rename_i hg
      rw [hg] at h
      dsimp only at h
      split
      · rename_i h2; rw [if_pos h2] at h; simp at h
      · split <;> rfl
    · rename_i x hg
      rw [hg] at h
      dsimp only at h
      split
      · rename_i h2; rw [if_pos h2] at h; simp at h
      · rename_i h2; rw [if_neg h2] at h
        split
        · rfl
        · rename_i h3; rw [if_neg h3] at h
          split
          · rename_i h4; rw [if_pos h4] at h; simp at h
          · rfl
theorem al_put {r : Rt} {key : ByteArray} {n now : Int} (h : (alR r key n now).2.2 = (0, 0)) : ∃ y, (alR r key n now).1 = putT r y ∧ y.k = key := by
  unfold alR at h ⊢
  split
  · rename_i h1; rw [if_pos h1] at h; exact absurd h h1
  · rename_i h1
    rw [if_neg h1] at h
    split
    · rename_i hg
      rw [hg] at h
      dsimp only at h
      split
      · rename_i h2; rw [if_pos h2] at h; simp at h
      · split
        · exact ⟨_, rfl, rfl⟩
        · exact ⟨_, rfl, rfl⟩
    · rename_i x hg
      rw [hg] at h
      dsimp only at h
      split
      · rename_i h2; rw [if_pos h2] at h; simp at h
      · rename_i h2; rw [if_neg h2] at h
        split
        · exact ⟨_, rfl, rfl⟩
        · rename_i h3; rw [if_neg h3] at h
          split
          · rename_i h4; rw [if_pos h4] at h; simp at h
          · exact ⟨_, rfl, rfl⟩
theorem alF_next {r s : Rt} {key : ByteArray} {n now : Int} (h : alF r key n now = (0, 0)) (hs : okT s) : alF s key n now = (0, 0) := by
  obtain ⟨_, hk, hn, hw⟩ := alF_ok h
  unfold alF
  rw [if_neg (by simp [ok_ratF hs]), if_neg (by simpa using hk), if_neg (by omega), if_neg (by omega)]
theorem apart {r : Rt} {a b : ByteArray} {n k now : Int} (hf : (alR r a n now).2.2 = (0, 0)) (hg : (alR r b k now).2.2 = (0, 0)) (hab : a ≠ b) :
    (alR (alR r b k now).1 a n now).2.2 = (2, -1) ∨ ((alR (alR r b k now).1 a n now).2.2 = (0, 0) ∧ (alR (alR r b k now).1 a n now).2.1 = (alR r a n now).2.1) := by
  obtain ⟨hB, _⟩ := al_ok hg
  obtain ⟨_, hA⟩ := al_ok hf
  obtain ⟨ho, _⟩ := alF_ok hA
  obtain ⟨y, hy, hyk⟩ := al_put hg
  have hA2 := alF_next hA hB
  rw [hy] at hA2 hB ⊢
  have e1 : ¬ (alF r a n now ≠ (0, 0)) := by simp [hA]
  have e2 : ¬ (alF (putT r y) a n now ≠ (0, 0)) := by simp [hA2]
  have hgn : gR a (putT r y).l = (gR a r.l).map unz := by
    show getL Rk.k a (putL sLt Rk.k y (r.l.map unz)) = _
    rw [getL_putL sOrd y a (sr_unz ho.s), if_neg (by rw [hyk]; exact fun e => hab e.symm)]
    exact gR_unz a r.l
  unfold alR at hf ⊢
  rw [if_neg e1] at hf ⊢
  rw [if_neg e2, hgn]
  cases hga : gR a r.l with
  | none =>
    rw [hga] at hf
    dsimp only [Option.map_none] at hf ⊢
    split
    · exact .inl rfl
    · split at hf
      · simp at hf
      · rename_i h3
        rw [if_neg h3]
        have em : (putT r y).m = r.m := rfl
        rw [em]
        split <;> exact .inr ⟨rfl, rfl⟩
  | some x =>
    rw [hga] at hf
    dsimp only [Option.map_some] at hf ⊢
    have eu : (unz x).u = x.u := rfl
    have em : (putT r y).m = r.m := rfl
    have el : leftU (putT r y) now x.u = leftU r now x.u := rfl
    rw [eu, em, el]
    split at hf
    · simp at hf
    · rename_i h2
      rw [if_neg h2, if_neg h2]
      split
      · exact .inr ⟨rfl, rfl⟩
      · rename_i h3
        rw [if_neg h3] at hf
        split at hf
        · simp at hf
        · rename_i h4
          rw [if_neg h4, if_neg h4]
          exact .inr ⟨rfl, rfl⟩

/-! ##### a run of uses of one key -/
def keepU (w t : Int) (T : List Us) : List Us := T.filter fun y => decide (t - w < y.a)
theorem sumU_app (l m : List Us) : sumU (l ++ m) = sumU l + sumU m := by simp [sumU]
theorem sumU_filter_le {p q : Us → Bool} : ∀ {T : List Us}, (∀ x ∈ T, 0 ≤ x.n) → (∀ x ∈ T, p x = true → q x = true) → sumU (T.filter p) ≤ sumU (T.filter q)
  | [], _, _ => by simp [sumU]
  | x :: T, h0, h => by
    have ih := sumU_filter_le (T := T) (fun y hy => h0 y (List.mem_cons_of_mem _ hy)) (fun y hy => h y (List.mem_cons_of_mem _ hy))
    have hx := h0 x List.mem_cons_self
    have hpq := h x List.mem_cons_self
    simp only [List.filter_cons]
    cases hp : p x with
    | true =>
      rw [hpq hp]
      simp only [if_true]
      unfold sumU at ih ⊢
      simp only [List.map_cons, List.sum_cons]; omega
    | false =>
      cases q x with
      | true =>
        simp only [if_true, Bool.false_eq_true, if_false]
        unfold sumU at ih ⊢
        simp only [List.map_cons, List.sum_cons]; omega
      | false => simpa using ih
def winU (w : Int) (y : Us) (T : List Us) : List Us := T.filter fun x => decide (0 ≤ x.a - y.a) && decide (x.a - y.a ≤ w - 1)
/-- The key's uses, after uses up to the instant t, of which those in T were permitted. -/
structure Run (w m t : Int) (R : Rt) (T : List Us) : Prop where
  ok : okT R
  ew : R.w = w
  em : R.m = m
  ks : ∀ x ∈ R.l, x.k = kK
  us : ∃ t0, t0 ≤ t ∧ (match gR kK R.l with | some x => x.u | none => []) = keepU w t0 T
  le : ∀ y ∈ T, y.a ≤ t
  uo : ∀ y ∈ T, uOk m y
  lim : ∀ y ∈ T, sumU (winU w y T) ≤ m
theorem keys_one {l : List Rk} (hs : SR l) (hk : ∀ x ∈ l, x.k = kK) : l.length ≤ 1 := by
  match l with
  | [] => simp
  | [_] => simp
  | x :: y :: l =>
    have h1 := hk x List.mem_cons_self
    have h2 := hk y (List.mem_cons_of_mem _ List.mem_cons_self)
    have := (List.pairwise_cons.1 hs).1 y List.mem_cons_self
    rw [h1, h2, sLt_irrefl] at this; cases this
theorem run_0 {w m t : Int} (hw : 1 ≤ w ∧ w ≤ 1000000) (hm : 0 ≤ m ∧ m ≤ 1000000) : Run w m t ⟨w, m, true, []⟩ [] :=
  ⟨⟨hw, hm, by simp, by simp, .nil⟩, rfl, rfl, by simp, ⟨t, by omega, rfl⟩, by simp, by simp, by simp⟩
theorem run_later {w m t t' : Int} {R : Rt} {T : List Us} (h : Run w m t R T) (ht : t ≤ t') : Run w m t' R T := by
  obtain ⟨t0, h1, h2⟩ := h.us
  exact ⟨h.ok, h.ew, h.em, h.ks, ⟨t0, by omega, h2⟩, fun y hy => by have := h.le y hy; omega, h.uo, h.lim⟩
theorem keep_keep {w t0 t : Int} (h : t0 ≤ t) (T : List Us) : (keepU w t0 T).filter (fun y => decide (t - w < y.a)) = keepU w t T := by
  unfold keepU
  rw [List.filter_filter]
  apply List.filter_congr
  intro y _
  rw [Bool.eq_iff_iff]; simp; omega
/-- One use more. -/
theorem run_step {w m t : Int} {R : Rt} {T : List Us} (h : Run w m t R T) {v : Us} (hv : t ≤ v.a) (hT : T.length < 300) (hf : (alR R kK v.n v.a).2.2.1 = 0) :
    (alR R kK v.n v.a).2.1 = decide (v.n + sumU (keepU w v.a T) ≤ m) ∧ Run w m v.a (alR R kK v.n v.a).1 (if (alR R kK v.n v.a).2.1 = true then T ++ [v] else T) := by
  have hf0 := al_0 hf
  obtain ⟨hnx, hA⟩ := al_ok hf0
  obtain ⟨ho, hkk, hn, hw⟩ := alF_ok hA
  have how := ho.w
  rw [h.ew] at how
  obtain ⟨t0, ht0, hus⟩ := h.us
  have hlen := keys_one ho.s h.ks
  have ht0v : t0 ≤ v.a := by omega
  -- what is left of the key's uses
  have hleft : ∀ u, u = keepU w t0 T → leftU R v.a u = keepU w v.a T := fun u hu => by
    rw [hu, ← keep_keep ht0v T]
    unfold leftU
    apply List.filter_congr
    intro y _
    unfold oldU
    rw [h.ew, Bool.eq_iff_iff]; simp
  have hkl : (keepU w v.a T).length < 300 := Nat.lt_of_le_of_lt (List.length_filter_le _ _) hT
  -- the run behind, with u for the key's uses
  have fin0 : ∀ z u, u = keepU w v.a T → (alR R kK v.n v.a).1 = putT R ⟨kK, z, u⟩ → Run w m v.a (alR R kK v.n v.a).1 T := fun z u hu e => by
    refine ⟨hnx, by rw [e]; exact h.ew, by rw [e]; exact h.em, ?_, ⟨v.a, Int.le_refl _, ?_⟩, fun y hy => by have := h.le y hy; omega, h.uo, h.lim⟩
    · rw [e]; intro x hx
      rcases mem_putL hx with rfl | hx
      · rfl
      · obtain ⟨y, hy, rfl⟩ := List.mem_map.1 hx
        exact h.ks y hy
    · rw [e]
      have : gR kK (putT R ⟨kK, z, u⟩).l = some ⟨kK, z, u⟩ := by
        show getL Rk.k kK (putL sLt Rk.k _ (R.l.map unz)) = _
        rw [getL_putL sOrd _ _ (sr_unz ho.s), if_pos rfl]
      rw [this]; exact hu
  have hlim : v.n + sumU (keepU w v.a T) ≤ m → ∀ y ∈ T ++ [v], sumU (winU w y (T ++ [v])) ≤ m := fun hle y hy => by
    have e1 : winU w y (T ++ [v]) = winU w y T ++ winU w y [v] := by unfold winU; rw [List.filter_append]
    rw [e1, sumU_app]
    have e2 : winU w y [v] = if 0 ≤ v.a - y.a ∧ v.a - y.a ≤ w - 1 then [v] else [] := by
      unfold winU
      by_cases hc : 0 ≤ v.a - y.a ∧ v.a - y.a ≤ w - 1
      · rw [if_pos hc]; simp; omega
      · rw [if_neg hc]; simp; omega
    rw [e2]
    by_cases hc : 0 ≤ v.a - y.a ∧ v.a - y.a ≤ w - 1
    · rw [if_pos hc]
      have hle2 : sumU (winU w y T) ≤ sumU (keepU w v.a T) := sumU_filter_le (fun x hx => by have := h.uo x hx; unfold uOk at this; omega) (fun x hx hp => by
        simp at hp ⊢; omega)
      have : sumU [v] = v.n := by simp [sumU]
      omega
    · rw [if_neg hc]
      have h0 : sumU ([] : List Us) = 0 := rfl
      rw [h0, Int.add_zero]
      rcases List.mem_append.1 hy with hy | hy
      · exact h.lim y hy
      · simp at hy; rw [hy] at hc
        exact absurd ⟨by omega, by omega⟩ hc
  have fin1 : ∀ z u, u = keepU w v.a T → v.n + sumU (keepU w v.a T) ≤ m → (alR R kK v.n v.a).1 = putT R ⟨kK, z, u ++ [⟨v.a, v.n⟩]⟩ → Run w m v.a (alR R kK v.n v.a).1 (T ++ [v]) := fun z u hu hle e => by
    refine ⟨hnx, by rw [e]; exact h.ew, by rw [e]; exact h.em, ?_, ⟨v.a, Int.le_refl _, ?_⟩, ?_, ?_, hlim hle⟩
    · rw [e]; intro x hx
      rcases mem_putL hx with rfl | hx
      · rfl
      · obtain ⟨y, hy, rfl⟩ := List.mem_map.1 hx
        exact h.ks y hy
    · rw [e]
      have : gR kK (putT R ⟨kK, z, u ++ [⟨v.a, v.n⟩]⟩).l = some ⟨kK, z, u ++ [⟨v.a, v.n⟩]⟩ := by
        show getL Rk.k kK (putL sLt Rk.k _ (R.l.map unz)) = _
        rw [getL_putL sOrd _ _ (sr_unz ho.s), if_pos rfl]
      rw [this]
      show u ++ [v] = keepU w v.a (T ++ [v])
      unfold keepU at hu ⊢
      have hvv : decide (v.a - w < v.a) = true := decide_eq_true (by omega)
      rw [List.filter_append, hu, List.filter_cons_of_pos (p := fun y : Us => decide (v.a - w < y.a)) hvv, List.filter_nil]
    · intro y hy
      rcases List.mem_append.1 hy with hy | hy
      · have := h.le y hy; omega
      · simp at hy; rw [hy]; exact Int.le_refl _
    · intro y hy
      rcases List.mem_append.1 hy with hy | hy
      · exact h.uo y hy
      · simp at hy; rw [hy]
        have hnn : 0 ≤ sumU (keepU w v.a T) := (sumU_b (m := 1000000) (fun x hx => by have := h.uo x (List.mem_filter.1 hx).1; have := ho.m; have := h.em; unfold uOk at *; omega)).1
        exact ⟨hw.1, hw.2, hn.1, by omega⟩
  have e1 : ¬ (alF R kK v.n v.a ≠ (0, 0)) := by simp [hA]
  cases hg : gR kK R.l with
  | none =>
    rw [hg] at hus
    dsimp only at hus
    have hk0 : keepU w v.a T = [] := by rw [← hleft [] hus]; rfl
    have hs0 : sumU (keepU w v.a T) = 0 := by rw [hk0]; rfl
    have e2 : ¬ R.l.length = 300 := by omega
    by_cases hm : R.m < v.n
    · have e : alR R kK v.n v.a = (putT R ⟨kK, true, []⟩, false, (0, 0)) := by unfold alR; rw [if_neg e1, hg]; dsimp only; rw [if_neg e2, if_pos hm]
      have hr := fin0 true [] hk0.symm (by rw [e])
      rw [e] at hr ⊢
      refine ⟨?_, by simpa using hr⟩
      dsimp only
      rw [h.em] at hm
      simp; omega
    · have e : alR R kK v.n v.a = (putT R ⟨kK, false, [⟨v.a, v.n⟩]⟩, true, (0, 0)) := by unfold alR; rw [if_neg e1, hg]; dsimp only; rw [if_neg e2, if_neg hm]
      rw [h.em] at hm
      have hr := fin1 false [] hk0.symm (by omega) (by rw [e]; rfl)
      rw [e] at hr ⊢
      refine ⟨?_, by simpa using hr⟩
      dsimp only
      simp; omega
  | some x =>
    rw [hg] at hus
    dsimp only at hus
    have hl := hleft x.u hus
    have hany : ¬ ((x.u.any fun y => decide (v.a < y.a)) = true) := by
      intro ha
      rw [List.any_eq_true] at ha
      obtain ⟨y, hy, hy'⟩ := ha
      rw [hus] at hy
      have := h.le y (List.mem_filter.1 hy).1
      simp at hy'; omega
    by_cases hm : R.m < sumU (leftU R v.a x.u) + v.n
    · have e : alR R kK v.n v.a = (putT R ⟨kK, false, leftU R v.a x.u⟩, false, (0, 0)) := by unfold alR; rw [if_neg e1, hg]; dsimp only; rw [if_neg hany, if_pos hm]
      have hr := fin0 false _ hl (by rw [e])
      rw [e] at hr ⊢
      refine ⟨?_, by simpa using hr⟩
      dsimp only
      rw [h.em, hl] at hm
      simp; omega
    · have e2 : ¬ (leftU R v.a x.u).length = 300 := by rw [hl]; omega
      have e : alR R kK v.n v.a = (putT R ⟨kK, false, leftU R v.a x.u ++ [⟨v.a, v.n⟩]⟩, true, (0, 0)) := by unfold alR; rw [if_neg e1, hg]; dsimp only; rw [if_neg hany, if_neg hm, if_neg e2]
      rw [h.em, hl] at hm
      have hr := fin1 false _ hl (by omega) (by rw [e])
      rw [e] at hr ⊢
      refine ⟨?_, by simpa using hr⟩
      dsimp only
      simp; omega
end Go.DL
