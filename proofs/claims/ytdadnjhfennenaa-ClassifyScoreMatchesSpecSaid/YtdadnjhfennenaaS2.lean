/- Choosing the greatest again and again is sorting stably, with no program in sight. No condition. -/
import Derived.Test.YtdadnjhfennenaaS1
set_option linter.unusedVariables false
set_option linter.unusedSimpArgs false
set_option maxHeartbeats 1000000
namespace Go.DL
/-- What is not taken. -/
def unt : List Int → List Bool → List Int
  | x :: l, false :: t => x :: unt l t
  | _ :: l, true :: t => unt l t
  | _, _ => []
theorem unt_nil (t : List Bool) : unt [] t = [] := by unfold unt; rfl
theorem unt_free : ∀ l : List Int, unt l (List.replicate l.length false) = l
  | [] => rfl
  | x :: l => by
    show x :: unt l _ = _
    rw [unt_free l]
theorem unt_mem : ∀ {l : List Int} {t : List Bool} {a : Int}, a ∈ unt l t → ∃ i : Nat, l[i]? = some a ∧ t[i]? = some false
  | [], t, a, h => by rw [unt_nil] at h; cases h
  | x :: l, [], a, h => by unfold unt at h; cases h
  | x :: l, false :: t, a, h => by
    unfold unt at h
    rcases List.mem_cons.1 h with rfl | h
    · exact ⟨0, rfl, rfl⟩
    · obtain ⟨i, h1, h2⟩ := unt_mem h
      exact ⟨i + 1, h1, h2⟩
  | x :: l, true :: t, a, h => by
    unfold unt at h
    obtain ⟨i, h1, h2⟩ := unt_mem h
    exact ⟨i + 1, h1, h2⟩
theorem unt_at : ∀ {l : List Int} {t : List Bool} {j : Nat} {x : Int}, l[j]? = some x → t[j]? = some false → ∃ A B, unt l t = A ++ x :: B ∧ unt l (t.set j true) = A ++ B ∧ ∀ a ∈ A, ∃ i : Nat, i < j ∧ l[i]? = some a ∧ t[i]? = some false
  | [], t, j, x, h, _ => by simp at h
  | y :: l, [], j, x, _, h => by simp at h
  | y :: l, b :: t, 0, x, h, h' => by
    simp at h h'
    subst h; subst h'
    exact ⟨[], unt l t, rfl, rfl, fun a h => by cases h⟩
  | y :: l, b :: t, j + 1, x, h, h' => by
    obtain ⟨A, B, h1, h2, h3⟩ := unt_at (l := l) (t := t) (j := j) (x := x) (by simpa using h) (by simpa using h')
    cases b with
    | true =>
      refine ⟨A, B, h1, h2, fun a ha => ?_⟩
      obtain ⟨i, g1, g2, g3⟩ := h3 a ha
      exact ⟨i + 1, by omega, g2, g3⟩
    | false =>
      refine ⟨y :: A, B, ?_, ?_, fun a ha => ?_⟩
      · show y :: unt l t = _
        rw [h1]; rfl
      · show y :: unt l (t.set j true) = _
        rw [h2]; rfl
      · rcases List.mem_cons.1 ha with rfl | ha
        · exact ⟨0, by omega, rfl, rfl⟩
        · obtain ⟨i, g1, g2, g3⟩ := h3 a ha
          exact ⟨i + 1, by omega, g2, g3⟩
theorem unt_in : ∀ {l : List Int} {t : List Bool} {j : Nat} {x : Int}, l[j]? = some x → t[j]? = some false → x ∈ unt l t := fun h h' => by
  obtain ⟨A, B, h1, _⟩ := unt_at h h'
  rw [h1]; simp
theorem sel_step {ys l : List Int} {t : List Bool} {x j : Nat} {a : Int} (hd : Desc ys) (he : EqK (ys.drop x) (unt l t)) (hj : l[j]? = some a) (ht : t[j]? = some false)
    (hmax : ∀ (i : Nat) b, l[i]? = some b → t[i]? = some false → kd b ≤ kd a) (hfst : ∀ (i : Nat) b, i < j → l[i]? = some b → t[i]? = some false → kd b < kd a) :
    ys[x]? = some a ∧ EqK (ys.drop (x + 1)) (unt l (t.set j true)) := by
  obtain ⟨A, B, e1, e2, hA⟩ := unt_at hj ht
  have ha : a ∈ ys.drop x := he.symm.mem (by rw [e1]; simp)
  have hdx : Desc (ys.drop x) := List.Pairwise.sublist (List.drop_sublist _ _) hd
  cases hy : ys.drop x with
  | nil => rw [hy] at ha; cases ha
  | cons h r =>
    rw [hy] at he ha hdx
    have hr : ys.drop (x + 1) = r := by
      rw [← List.drop_drop, hy]; rfl
    have hx : ys[x]? = some h := by
      have := congrArg (fun l => l[0]?) hy
      simpa using this
    have p := List.pairwise_cons.1 hdx
    have k1 : kd a ≤ kd h := by
      rcases List.mem_cons.1 ha with rfl | ha
      · exact Int.le_refl _
      · exact p.1 a ha
    have k2 : kd h ≤ kd a := by
      obtain ⟨i, g1, g2⟩ := unt_mem (he.mem (x := h) (by simp))
      exact hmax i h g1 g2
    have k3 : ∀ b ∈ A, kd b < kd a := fun b hb => by
      obtain ⟨i, g1, g2, g3⟩ := hA b hb
      exact hfst i b g1 g2 g3
    have fA : A.filter (fun z => kd z == kd a) = [] := by
      rw [List.filter_eq_nil_iff]
      intro b hb
      have := k3 b hb
      simp; omega
    have h0 := he (kd a)
    rw [e1, List.filter_cons, if_pos (by simp; omega), List.filter_append, fA, List.nil_append, List.filter_cons, if_pos (by simp)] at h0
    injection h0 with h1 h2
    subst h1
    refine ⟨hx, ?_⟩
    rw [hr, e2]
    intro v
    by_cases hv : kd h = v
    · subst hv
      rw [List.filter_append, fA, List.nil_append]; exact h2
    · have h3 := he v
      rw [e1, List.filter_cons, if_neg (by simpa using hv), List.filter_append, List.filter_cons, if_neg (by simpa using hv), ← List.filter_append] at h3
      exact h3
end Go.DL
