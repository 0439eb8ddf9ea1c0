/- DL, part 30: a nil slice that lies in an object as an object that is appended to. Own work; no condition. -/
import Derived.Test.YtdadnjhfennenaaDl17
set_option linter.unusedVariables false
set_option linter.unusedSimpArgs false
namespace Go.DL
open Go.RowKit

section
variable {X : Nat → Prop} {ρ : Nat → Slot} {w : World} {p sz : Nat}
theorem DCells.nilAt (hp : ρ p = .null) : ∀ {ds : List D} {vs : List Value} {j : Nat}, DCells X ρ w ds vs → ds[j]? = some (.v (.sl sz true [])) → DCells X ρ w (ds.set j (.arr p 0 0)) vs
  | [], _, _, _, h => by simp at h
  | d :: ds, [], _, h, _ => absurd h (by simp [DCells])
  | d :: ds, v :: vs, 0, h, hj => by
    simp only [List.getElem?_cons_zero, Option.some.injEq] at hj
    subst hj
    refine ⟨?_, h.2⟩
    have hd := h.1
    unfold DCell VCell at hd
    obtain ⟨A, hA⟩ := hd.2.2.2.1 rfl
    unfold DCell
    rw [hp]
    exact ⟨⟨A, hA⟩, rfl, rfl⟩
  | d :: ds, v :: vs, j + 1, h, hj => ⟨h.1, DCells.nilAt hp h.2 (by simpa using hj)⟩
theorem DRows.nilAt (hp : ρ p = .null) : ∀ {rs : List (List D)} {vs : List Value} {i j : Nat} {r : List D}, DRows X ρ w rs vs → rs[i]? = some r → r[j]? = some (.v (.sl sz true [])) → DRows X ρ w (rs.set i (r.set j (.arr p 0 0))) vs
  | [], _, _, _, _, _, h, _ => by simp at h
  | x :: rs, vs, 0, j, r, h, hi, hj => by
    simp only [List.getElem?_cons_zero, Option.some.injEq] at hi
    subst hi
    refine ⟨DCells.nilAt hp h.1 hj, ?_⟩
    simpa using h.2
  | x :: rs, vs, i + 1, j, r, h, hi, hj => ⟨h.1, DRows.nilAt hp h.2 (by simpa using hi) hj⟩
end
section
variable {P : Program} {T : Tab P} {m N : Nat} {σ : St} {Q : Exit → St → Prop}
theorem setOb_len : ∀ {l : List Ob} {x : Ob} {q : Nat}, q < l.length → (setOb l q x).length = l.length
  | [], _, _, h => absurd h (Nat.not_lt_zero _)
  | y :: l, x, 0, _ => by simp [setOb]
  | y :: l, x, q + 1, h => by simp [setOb, setOb_len (l := l) (x := x) (q := q) (by simpa using h)]
attribute [local semireducible] WpD in
/-- A nil slice in a row of an object is an object without rows. -/
theorem WpD.nilH {c : Code} (q i j sz p : Nat) {sz0 : Nat} {rows : List (List D)} {r : List D} (hz : Nat.blt 0 sz = true) (hp : σ.heap.length = p) (hm : Nat.ble m p = true) (hl : Nat.blt q p = true) (hq : obAt σ.heap q = .arr sz0 rows) (hi : rows[i]? = some r) (hj : r[j]? = some (.v (.sl sz true [])))
    (h : WpD T m N c ⟨σ.env, setOb σ.heap q (.arr sz0 (rows.set i (r.set j (.arr p 0 0)))) ++ [.arr sz []], σ.dec⟩ Q) : WpD T m N c σ Q := by
  subst hp
  have hm := Nat.le_of_ble_eq_true hm
  have hl : q < σ.heap.length := by unfold Nat.blt at hl; exact Nat.le_of_ble_eq_true hl
  intro C hN hmm a w k
  obtain ⟨X, ρ, rr, s, hh⟩ := k.real
  have hp : ρ σ.heap.length = .hole := hh _ (Nat.le_refl _)
  have st := Step.null (w := w) rr.mem hp
  refine h C hN hmm a w ⟨k.size, k.defers, k.dec, X, setSlot ρ σ.heap.length .null, ⟨fun g cs hg => VCell.keep (st.keeps rr.mem) _ _ (rr.glob g cs hg), st.mem, fun u d hu => ?_, fun u => ?_⟩, ?_, fun u hu => ?_⟩
  · obtain ⟨v, hv, hd⟩ := rr.env u d hu
    exact ⟨v, hv, DCell.keep (st.keeps rr.mem) st.slots _ _ hd⟩
  · show ObOK _ _ _ _ (obAt (setOb σ.heap q _ ++ [.arr sz []]) u)
    rw [obAt_app, setOb_len hl]
    split
    · rename_i e; subst e
      exact ⟨Nat.le_of_ble_eq_true hz, by simp, by simp, by simp [setSlot]⟩
    · rename_i e
      rw [obAt_set]
      split
      · rename_i e2; subst e2
        have ho := (rr.obs u).keep st rr.mem e
        rw [hq] at ho
        unfold ObOK at ho ⊢
        obtain ⟨h0, h1, h2, h3⟩ := ho
        have hnul : setSlot ρ σ.heap.length .null σ.heap.length = .null := by simp [setSlot]
        refine ⟨h0, fun x hx => ?_, by simpa using h2, ?_⟩
        · rcases List.mem_or_eq_of_mem_set hx with hx | rfl
          · exact h1 x hx
          · obtain ⟨a1, a2⟩ := h1 r (List.mem_of_getElem? hi)
            refine ⟨by simpa using a1, ?_⟩
            rw [List.all_eq_true] at a2 ⊢
            intro y hy
            rcases List.mem_or_eq_of_mem_set hy with hy | rfl
            · exact a2 y hy
            · rfl
        · split at h3
          · rename_i b s' cap hb
            obtain ⟨e1, e2, e3, cs, t, fr, g1, g2, g3, g4⟩ := h3
            exact ⟨e1, by simpa using e2, e3, cs, t, fr, g1, g2, g3, DRows.nilAt hnul g4 hi hj⟩
          · rw [h3] at hi; simp at hi
          · exact h3
      · rename_i e2
        exact (rr.obs u).keep st rr.mem e
  · refine ⟨s.os, s.tape, s.output, s.size, fun b hb hn => s.block b hb hn, fun u => ?_, fun u h => absurd trivial h, s.xin, s.xout, fun u b z cap hu => ?_, st.mem⟩
    · by_cases e : u = σ.heap.length
      · subst e; exact .inl (hmm _ hm)
      · rcases s.slots u with g | g | g
        · exact .inl g
        · exact .inr (.inl (by simp [setSlot, e, g]))
        · exact .inr (.inr (by simp [setSlot, e, g]))
    · unfold setSlot at hu
      split at hu
      · cases hu
      · exact s.src u b z cap hu
  · simp only [List.length_append, setOb_len hl, List.length_singleton] at hu
    have e : u ≠ σ.heap.length := by omega
    simp only [setSlot, if_neg e]
    exact hh u (by omega)
end
end Go.DL
