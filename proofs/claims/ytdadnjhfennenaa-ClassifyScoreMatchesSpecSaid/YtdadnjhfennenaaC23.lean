/- The sort of package slices: symMerge, at Score's closure. No condition. -/
import Derived.Test.YtdadnjhfennenaaC22
set_option linter.unusedVariables false
set_option linter.unusedSimpArgs false
set_option maxHeartbeats 4000000
namespace Go.DL
open Go.Proofs

structure sy3I (L : List Int) (s0 r0 p : Nat) (q : Nat × Nat) : Prop where
  lo : s0 ≤ q.1
  le : q.1 ≤ q.2
  hi : q.2 ≤ r0
  l : q.1 = s0 ∨ ∀ u v, L[q.1 - 1]? = some u → L[p - (q.1 - 1)]? = some v → kd v ≤ kd u
  r : q.2 = r0 ∨ ∀ u v, L[q.2]? = some u → L[p - q.2]? = some v → kd u < kd v
theorem sy3_lo {L : List Int} {s0 r0 p i j h : Nat} {u v : Int} (hq : sy3I L s0 r0 p (i, j)) (h1 : i ≤ h) (h2 : h < j) (hu : L[h]? = some u) (hv : L[p - h]? = some v) (hk : ¬ kd u < kd v) : sy3I L s0 r0 p (h + 1, j) := by
  obtain ⟨q1, q2, q3, q4, q5⟩ := hq
  dsimp only at q1 q2 q3 q4 q5
  refine ⟨by dsimp only; omega, by dsimp only; omega, q3, .inr fun x y hx hy => ?_, q5⟩
  dsimp only at hx hy
  rw [Nat.add_sub_cancel, hu] at hx
  rw [Nat.add_sub_cancel, hv] at hy
  injection hx with hx; injection hy with hy
  subst hx; subst hy
  omega
theorem sy3_hi {L : List Int} {s0 r0 p i j h : Nat} {u v : Int} (hq : sy3I L s0 r0 p (i, j)) (h1 : i ≤ h) (h2 : h < j) (hu : L[h]? = some u) (hv : L[p - h]? = some v) (hk : kd u < kd v) : sy3I L s0 r0 p (i, h) := by
  obtain ⟨q1, q2, q3, q4, q5⟩ := hq
  dsimp only at q1 q2 q3 q4 q5
  refine ⟨q1, h1, by dsimp only; omega, q4, .inr fun x y hx hy => ?_⟩
  dsimp only at hx hy
  rw [hu] at hx
  rw [hv] at hy
  injection hx with hx; injection hy with hy
  subst hx; subst hy
  omega
theorem putU {L P U R : List Int} {k i : Nat} {v : Int} (hL : L = P ++ U ++ R) (hv : U[k]? = some v) (hi : i = P.length + k) : L[i]? = some v := by
  have := (List.getElem?_eq_some_iff.1 hv).1
  rw [hL, hi, List.append_assoc, List.getElem?_append_right (by omega), List.getElem?_append_left (by omega)]
  rw [← hv]; congr 1; omega
/-- What the search has found, as parts. -/
theorem sy3_end {L P U V S : List Int} {a m b mid s s0 r0 j : Nat} (hL : L = P ++ U ++ V ++ S) (hU : Desc U) (hV : Desc V) (ha : a = P.length) (hm : m = a + U.length) (hb : b = m + V.length) (hmid : mid = (a + b) / 2)
    (h0 : (mid < m ∧ s0 = mid + m - b ∧ r0 = mid) ∨ (m ≤ mid ∧ s0 = a ∧ r0 = m)) (hq : sy3I L s0 r0 (mid + m - 1) (s, j)) (he : j ≤ s) :
    (∀ x ∈ U.take (s - a), ∀ y ∈ V.drop (mid + m - s - m), kd y ≤ kd x) ∧ (∀ x ∈ U.drop (s - a), ∀ y ∈ V.take (mid + m - s - m), kd x < kd y) := by
  obtain ⟨q1, q2, q3, q4, q5⟩ := hq
  dsimp only at q1 q2 q3 q4 q5
  have ej : j = s := by omega
  subst ej
  refine sym_parts (lu := 0) (lv := 0) (s := 0) hU hV (by omega) (.inr trivial) _ (by omega) (fun x y h1 h2 hx hy => ?_) (fun x y h1 h2 hx hy => ?_)
  · rcases q4 with q4 | q4
    · omega
    · refine q4 x y (putU (P := P) (R := V ++ S) (by rw [hL]; simp) hx (by omega)) (putU (P := P ++ U) (R := S) hL hy (by simp; omega))
  · rcases q5 with q5 | q5
    · omega
    · refine q5 x y (putU (P := P) (R := V ++ S) (by rw [hL]; simp) hx (by omega)) (putU (P := P ++ U) (R := S) hL hy (by simp; omega))
theorem bd_perm {L M : List Int} (h : bd L) (hp : ∀ v ∈ M, v ∈ L) : bd M := fun v hv => h v (hp v hv)
theorem sy3_cut {L P U V S : List Int} {a m b mid s s0 r0 j : Nat} (hL : L = P ++ U ++ V ++ S) (hU : Desc U) (hV : Desc V) (ha : a = P.length) (hm : m = a + U.length) (hb : b = m + V.length) (hmid : mid = (a + b) / 2)
    (h0 : (mid < m ∧ s0 = mid + m - b ∧ r0 = mid) ∨ (m ≤ mid ∧ s0 = a ∧ r0 = m)) (hq : sy3I L s0 r0 (mid + m - 1) (s, j)) (he : j ≤ s) :
    ∃ U1 U2 V1 V2, U = U1 ++ U2 ∧ V = V1 ++ V2 ∧ U1.length = s - a ∧ U2.length = m - s ∧ V1.length = mid - s ∧ V2.length = b - m - (mid - s) ∧ a ≤ s ∧ s ≤ m ∧ s ≤ mid ∧ mid - s ≤ b - m ∧ (∀ x ∈ U1, ∀ y ∈ V2, kd y ≤ kd x) ∧ (∀ x ∈ U2, ∀ y ∈ V1, kd x < kd y) := by
  obtain ⟨h1, h2⟩ := sy3_end hL hU hV ha hm hb hmid h0 hq he
  obtain ⟨q1, q2, q3, q4, q5⟩ := hq
  dsimp only at q1 q2 q3
  refine ⟨_, _, _, _, (List.take_append_drop (s - a) U).symm, (List.take_append_drop (mid + m - s - m) V).symm, ?_, ?_, ?_, ?_, ?_, ?_, ?_, ?_, h1, h2⟩
  · rw [List.length_take]; omega
  · rw [List.length_drop]; omega
  · rw [List.length_take]; omega
  · rw [List.length_drop]; omega
  · omega
  · omega
  · omega
  · omega
theorem desc_one {A B : List Int} (hA : Desc A) (hB : Desc B) (h : A.length = 0 ∨ B.length = 0) : Desc (A ++ B) := by
  rcases h with h | h
  · rw [List.eq_nil_of_length_eq_zero h]; exact hB
  · rw [List.eq_nil_of_length_eq_zero h, List.append_nil]; exact hA
theorem swap_one {P A B R : List Int} (h : A.length = 0 ∨ B.length = 0) : P ++ A ++ B ++ R = P ++ B ++ A ++ R := by
  rcases h with h | h
  · rw [List.eq_nil_of_length_eq_zero h]; simp
  · rw [List.eq_nil_of_length_eq_zero h]; simp
theorem sy3_fin {P S U1 U2 V1 V2 A B : List Int} {zs : List (List V)} (hU : Desc (U1 ++ U2)) (hV : Desc (V1 ++ V2)) (h1 : ∀ x ∈ U1, ∀ y ∈ V2, kd y ≤ kd x) (h2 : ∀ x ∈ U2, ∀ y ∈ V1, kd x < kd y)
    (dA : Desc A) (eA : EqK A (U1 ++ V1)) (dB : Desc B) (eB : EqK B (U2 ++ V2)) (hz : zs = (P ++ A ++ B ++ S).map iV) : ∃ W, zs = (P ++ W ++ S).map iV ∧ Desc W ∧ EqK W ((U1 ++ U2) ++ (V1 ++ V2)) := by
  obtain ⟨g1, g2⟩ := merge_parts hU hV h1 h2 eA dA eB dB
  exact ⟨_, by rw [hz]; simp, g1, g2⟩
end Go.DL
