/- DL, part 17: a nil slice as an object that is appended to. Own work; no condition. -/
import Derived.Test.YtdadnjhfennenaaDl15
set_option linter.unusedVariables false
set_option linter.unusedSimpArgs false
namespace Go.DL
open Go.RowKit

section
variable {P : Program} {T : Tab P} {m N : Nat} {σ : St} {Q : Exit → St → Prop}
theorem obAt_app : ∀ (l : List Ob) (x : Ob) (p : Nat), obAt (l ++ [x]) p = if p = l.length then x else obAt l p
  | [], x, 0 => rfl
  | [], x, p + 1 => by simp [obAt]
  | y :: l, x, 0 => by simp [obAt]
  | y :: l, x, p + 1 => by simp [obAt, obAt_app l x p]
theorem Step.null {X : Nat → Prop} {ρ : Nat → Slot} {w : World} (mm : Mem X ρ w) {p : Nat} (hp : ρ p = .hole) : Step (fun q => q = p) X ρ w X (setSlot ρ p .null) w := by
  refine ⟨rfl, rfl, rfl, Nat.le_refl _, fun _ _ _ => rfl, fun q => ?_, fun q hq => by simp [setSlot, hq], fun _ h => .inl h, fun _ h => .inl h, fun q b sz cap h => ?_, ⟨mm.lt, fun q b sz cap h => ?_, fun q r b sz cap sz' cap' h h' => ?_⟩⟩
  · by_cases h : q = p
    · subst h; exact .inl hp
    · exact .inr (.inl (by simp [setSlot, h]))
  · unfold setSlot at h; split at h
    · cases h
    · exact .inl ⟨q, sz, cap, h⟩
  · unfold setSlot at h; split at h
    · cases h
    · exact mm.live q b sz cap h
  · unfold setSlot at h h'
    split at h
    · cases h
    · split at h'
      · cases h'
      · exact mm.inj q r b sz cap sz' cap' h h'
attribute [local semireducible] WpD in
/-- A nil slice is an object without rows. -/
theorem WpD.nil {c : Code} (t sz p : Nat) (hz : Nat.blt 0 sz = true) (hp : σ.heap.length = p) (hm : Nat.ble m p = true) (ht : look σ.env t = some (.v (.sl sz true [])))
    (h : WpD T m N c ⟨(t, .arr p 0 0) :: σ.env, σ.heap ++ [.arr sz []], σ.dec⟩ Q) : WpD T m N c σ Q := by
  subst hp
  have hm := Nat.le_of_ble_eq_true hm
  intro C hN hmm a w k
  obtain ⟨X, ρ, r, s, hh⟩ := k.real
  have hp : ρ σ.heap.length = .hole := hh _ (Nat.le_refl _)
  have st := Step.null (w := w) r.mem hp
  refine h C hN hmm a w ⟨k.size, k.defers, k.dec, X, setSlot ρ σ.heap.length .null, ⟨fun g cs hg => VCell.keep (st.keeps r.mem) _ _ (r.glob g cs hg), st.mem, fun u d hu => ?_, fun q => ?_⟩, ?_, fun q hq => ?_⟩
  · simp only [look] at hu
    cases hb : Nat.beq t u with
    | true =>
      have := Nat.eq_of_beq_eq_true hb
      subst this
      simp only [hb, cond_true] at hu
      injection hu with hu; subst hu
      obtain ⟨v, hv, hd⟩ := r.env t _ ht
      unfold DCell VCell at hd
      obtain ⟨A, hA⟩ := hd.2.2.2.1 rfl
      refine ⟨v, hv, ?_⟩
      unfold DCell
      simp only [setSlot, if_true]
      exact ⟨⟨A, hA⟩, by simp⟩
    | false =>
      simp only [hb, cond_false] at hu
      obtain ⟨v, hv, hd⟩ := r.env u d hu
      exact ⟨v, hv, DCell.keep (st.keeps r.mem) st.slots _ _ hd⟩
  · show ObOK _ _ _ _ (obAt (σ.heap ++ [.arr sz []]) q)
    rw [obAt_app]
    split
    · rename_i e; subst e
      exact ⟨Nat.le_of_ble_eq_true hz, by simp, by simp, by simp [setSlot]⟩
    · rename_i e
      exact (r.obs q).keep st r.mem e
  · refine ⟨s.os, s.tape, s.output, s.size, fun b hb hn => s.block b hb hn, fun q => ?_, fun q h => absurd trivial h, s.xin, s.xout, fun q b z cap hq => ?_, st.mem⟩
    · by_cases e : q = σ.heap.length
      · subst e; exact .inl (hmm _ hm)
      · rcases s.slots q with g | g | g
        · exact .inl g
        · exact .inr (.inl (by simp [setSlot, e, g]))
        · exact .inr (.inr (by simp [setSlot, e, g]))
    · unfold setSlot at hq
      split at hq
      · cases hq
      · exact s.src q b z cap hq
  · simp only [List.length_append, List.length_singleton] at hq
    have e : q ≠ σ.heap.length := by omega
    simp only [setSlot, if_neg e]
    exact hh q (by omega)
end
theorem renDs_map_v (th : List Nat) : ∀ r : List V, renDs (th.getD · 0) (r.map D.v) = r.map D.v
  | [] => rfl
  | x :: r => by simp only [List.map_cons, renDs, renD, renDs_map_v th r]
theorem refsLts_map_v (n : Nat) : ∀ r : List V, refsLts n (r.map D.v) = true
  | [] => rfl
  | x :: r => by simp only [List.map_cons, refsLts, refsLt, refsLts_map_v n r, Bool.and_self]
abbrev vrows (xs : List (List V)) : List (List D) := xs.map fun r => r.map D.v
/-- An object whose rows are closed data, behind a renaming. -/
theorem obLe_v {th : List Nat} {sz : Nat} {rows : List (List D)} {xs : List (List V)} (h : rows = vrows xs) : obLe th (.arr sz rows) (.arr sz (vrows xs)) := by
  refine ⟨rfl, ?_, ?_⟩
  · rw [h, vrows, List.map_map]
    apply List.map_congr_left
    intro x _
    simp only [Function.comp, renDs_map_v]
  · rw [List.all_eq_true]
    intro r hr
    obtain ⟨x, _, rfl⟩ := List.mem_map.1 hr
    exact refsLts_map_v _ _
theorem vrows_length (xs : List (List V)) : (vrows xs).length = xs.length := by simp [vrows]
theorem vrows_append (xs ys : List (List V)) : vrows (xs ++ ys) = vrows xs ++ vrows ys := by simp [vrows]
theorem vrows_take (n : Nat) (xs : List (List V)) : vrows (xs.take n) = (vrows xs).take n := by simp [vrows, List.map_take]
theorem vrows_drop (n : Nat) (xs : List (List V)) : vrows (xs.drop n) = (vrows xs).drop n := by simp [vrows, List.map_drop]
theorem vrows_get {xs : List (List V)} {i : Nat} {r : List V} (h : xs[i]? = some r) : (vrows xs)[i]? = some (r.map D.v) := by simp [vrows, h]
end Go.DL
