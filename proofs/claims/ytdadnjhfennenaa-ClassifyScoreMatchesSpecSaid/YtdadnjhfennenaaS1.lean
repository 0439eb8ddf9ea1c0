/- Stable sorting by a key, with no program in sight. No condition. -/
import Derived.Test.YtdadnjhfennenaaDC
set_option linter.unusedVariables false
set_option linter.unusedSimpArgs false
set_option maxHeartbeats 1000000
namespace Go.DL
def kd (x : Int) : Int := if x - 500 < 500 - x then 500 - x else x - 500
def EqK (xs ys : List Int) : Prop := ∀ v, xs.filter (fun x => kd x == v) = ys.filter (fun x => kd x == v)
abbrev Desc (l : List Int) : Prop := l.Pairwise fun x y => kd y ≤ kd x
theorem EqK.refl (xs : List Int) : EqK xs xs := fun _ => rfl
theorem EqK.symm {xs ys : List Int} (h : EqK xs ys) : EqK ys xs := fun v => (h v).symm
theorem EqK.trans {xs ys zs : List Int} (h : EqK xs ys) (k : EqK ys zs) : EqK xs zs := fun v => (h v).trans (k v)
theorem EqK.app {a a' b b' : List Int} (h : EqK a a') (k : EqK b b') : EqK (a ++ b) (a' ++ b') := fun v => by
  rw [List.filter_append, List.filter_append, h v, k v]
theorem EqK.mem {xs ys : List Int} (h : EqK xs ys) {x : Int} (hx : x ∈ xs) : x ∈ ys := by
  have : x ∈ xs.filter (fun y => kd y == kd x) := List.mem_filter.2 ⟨hx, by simp⟩
  rw [h] at this
  exact (List.mem_filter.1 this).1
theorem EqK.perm {xs ys : List Int} (h : EqK xs ys) : xs.Perm ys := by
  rw [List.perm_iff_count]
  intro a
  have e : ∀ l : List Int, l.count a = (l.filter (fun x => kd x == kd a)).count a := fun l => by
    rw [List.count_filter (by simp)]
  rw [e xs, e ys, h]
theorem EqK.len {xs ys : List Int} (h : EqK xs ys) : xs.length = ys.length := h.perm.length_eq
theorem EqK.rot {u v : List Int} (h : ∀ x ∈ u, ∀ y ∈ v, kd x ≠ kd y) : EqK (u ++ v) (v ++ u) := fun k => by
  rw [List.filter_append, List.filter_append]
  by_cases hu : u.filter (fun x => kd x == k) = []
  · rw [hu]; simp
  · by_cases hv : v.filter (fun x => kd x == k) = []
    · rw [hv]; simp
    · exfalso
      obtain ⟨x, hx⟩ := List.exists_mem_of_ne_nil _ hu
      obtain ⟨y, hy⟩ := List.exists_mem_of_ne_nil _ hv
      obtain ⟨hx1, hx2⟩ := List.mem_filter.1 hx
      obtain ⟨hy1, hy2⟩ := List.mem_filter.1 hy
      exact h x hx1 y hy1 (by simp at hx2 hy2; omega)
theorem merge_parts {U1 U2 V1 V2 A B : List Int} (hU : Desc (U1 ++ U2)) (hV : Desc (V1 ++ V2)) (h1 : ∀ x ∈ U1, ∀ y ∈ V2, kd y ≤ kd x) (h2 : ∀ x ∈ U2, ∀ y ∈ V1, kd x < kd y)
    (hA : EqK A (U1 ++ V1)) (dA : Desc A) (hB : EqK B (U2 ++ V2)) (dB : Desc B) : Desc (A ++ B) ∧ EqK (A ++ B) ((U1 ++ U2) ++ (V1 ++ V2)) := by
  have pU := List.pairwise_append.1 hU
  have pV := List.pairwise_append.1 hV
  refine ⟨List.pairwise_append.2 ⟨dA, dB, fun x hx y hy => ?_⟩, ?_⟩
  · rcases List.mem_append.1 (hA.mem hx) with hx | hx <;> rcases List.mem_append.1 (hB.mem hy) with hy | hy
    · exact pU.2.2 x hx y hy
    · exact h1 x hx y hy
    · exact Int.le_of_lt (h2 y hy x hx)
    · exact pV.2.2 x hx y hy
  · refine (hA.app hB).trans ?_
    have e1 : (U1 ++ V1) ++ (U2 ++ V2) = U1 ++ ((V1 ++ U2) ++ V2) := by simp
    have e2 : (U1 ++ U2) ++ (V1 ++ V2) = U1 ++ ((U2 ++ V1) ++ V2) := by simp
    rw [e1, e2]
    exact (EqK.refl U1).app ((EqK.rot fun x hx y hy => by have := h2 y hy x hx; omega).app (EqK.refl V2))
/-- One more put into its place. -/
theorem ins_desc {P R : List Int} {x : Int} (h : Desc (P ++ R)) (h1 : ∀ p ∈ P, kd x ≤ kd p) (h2 : ∀ r ∈ R, kd r < kd x) : Desc (P ++ x :: R) ∧ EqK (P ++ x :: R) ((P ++ R) ++ [x]) := by
  have p := List.pairwise_append.1 h
  refine ⟨List.pairwise_append.2 ⟨p.1, List.pairwise_cons.2 ⟨fun r hr => Int.le_of_lt (h2 r hr), p.2.1⟩, fun a ha b hb => ?_⟩, ?_⟩
  · rcases List.mem_cons.1 hb with rfl | hb
    · exact h1 a ha
    · exact p.2.2 a ha b hb
  · rw [List.append_assoc, show x :: R = [x] ++ R from rfl]
    exact (EqK.refl P).app (EqK.rot fun a ha b hb => by
      rw [List.mem_singleton] at ha
      subst ha
      have := h2 b hb
      omega)
/-- What is sorted stably is told by what it was. -/
theorem EqK.uniq : ∀ {xs ys : List Int}, Desc xs → Desc ys → EqK xs ys → xs = ys
  | [], ys, _, _, h => by
    have := h.len
    exact (List.eq_nil_of_length_eq_zero this.symm).symm
  | x :: xs, [], _, _, h => by have := h.len; simp at this
  | x :: xs, y :: ys, hx, hy, h => by
    have px := List.pairwise_cons.1 hx
    have py := List.pairwise_cons.1 hy
    have e : kd x = kd y := by
      have a1 : kd x ≤ kd y := by
        rcases List.mem_cons.1 (h.mem (x := x) (by simp)) with e | e
        · rw [e]; exact Int.le_refl _
        · exact py.1 x e
      have a2 : kd y ≤ kd x := by
        rcases List.mem_cons.1 (h.symm.mem (x := y) (by simp)) with e | e
        · rw [e]; exact Int.le_refl _
        · exact px.1 y e
      omega
    have h1 := h (kd x)
    rw [List.filter_cons, List.filter_cons, if_pos (by simp), if_pos (by simp [e])] at h1
    injection h1 with h1 h2
    subst h1
    congr 1
    refine EqK.uniq px.2 py.2 fun v => ?_
    have h3 := h v
    rw [List.filter_cons, List.filter_cons] at h3
    split at h3
    · injection h3
    · exact h3
end Go.DL
