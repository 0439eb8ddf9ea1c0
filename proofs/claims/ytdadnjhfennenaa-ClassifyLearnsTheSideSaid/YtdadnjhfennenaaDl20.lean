/- DL, part 20: the first fault of a list; helpers for lists. Own work; no condition. -/
import Derived.Test.YtdadnjhfennenaaDl18
set_option linter.unusedVariables false
set_option linter.unusedSimpArgs false
namespace Go.DL

theorem lt_get {α : Type} {l : List α} {k : Nat} {x : α} (h : l[k]? = some x) : k < l.length := (List.getElem?_eq_some_iff.1 h).1
theorem drop_get' {α : Type} {l : List α} {k : Nat} {x : α} (h : l[k]? = some x) : l.drop k = x :: l.drop (k + 1) := by
  have hk := lt_get h
  rw [List.drop_eq_getElem_cons hk]; congr 1; exact (List.getElem?_eq_some_iff.1 h).2
theorem take_get {α : Type} {l : List α} {k : Nat} {x : α} (h : l[k]? = some x) : l.take (k + 1) = l.take k ++ [x] := by
  rw [List.take_add_one, h]; rfl
/-- The one before. -/
def prevL {α : Type} (l : List α) (k : Nat) : Option α := if k = 0 then none else l[((k : Int) - 1).toNat]?
/-- The first element that a test finds fault with, from position i on, behind p. -/
def vfl {α : Type} (chk : Option α → α → Int) : Nat → Option α → List α → Int × Int
  | _, _, [] => (0, 0)
  | i, p, x :: r => if chk p x ≠ 0 then (chk p x, i) else vfl chk (i + 1) (some x) r
section
variable {α : Type} {chk : Option α → α → Int} {l : List α} {k : Nat} {x y : α} {f : Int × Int} {c : Int}
theorem prevL_0 (h : ¬ 0 < (k : Int)) : prevL l k = none := by unfold prevL; rw [if_pos (by omega)]
theorem prevL_s (h : 0 < (k : Int)) (hy : l[((k : Int) - 1).toNat]? = some y) : prevL l k = some y := by unfold prevL; rw [if_neg (by omega), hy]
theorem prevL_next (h : l[k]? = some x) : prevL l (k + 1) = some x := by
  unfold prevL; rw [if_neg (by omega), show ((k + 1 : Nat) : Int) - 1 = k by omega, Int.toNat_natCast, h]
theorem vfl_ret (hi : f = vfl chk k (prevL l k) (l.drop k)) (hx : l[k]? = some x) (hc : chk (prevL l k) x = c) (h0 : c ≠ 0) : f = (c, (k : Int)) := by
  rw [hi, drop_get' hx, vfl, hc, if_pos h0]
theorem vfl_next (hi : f = vfl chk k (prevL l k) (l.drop k)) (hx : l[k]? = some x) (hc : chk (prevL l k) x = 0) : f = vfl chk (k + 1) (prevL l (k + 1)) (l.drop (k + 1)) := by
  rw [hi, drop_get' hx, vfl, hc, if_neg (by simp), prevL_next hx]
theorem vfl_end (hi : f = vfl chk k (prevL l k) (l.drop k)) (h : l.length ≤ k) : f = (0, 0) := by
  rw [hi, List.drop_eq_nil_of_le h]; rfl
theorem vfl_ne : ∀ (l : List α) (k : Nat) (p : Option α), (vfl chk k p l).1 = 0 → vfl chk k p l = (0, 0)
  | [], k, p, _ => rfl
  | x :: r, k, p, h => by
    simp only [vfl] at h ⊢
    split
    · rename_i h1; rw [if_pos h1] at h; exact absurd h h1
    · rename_i h1; rw [if_neg h1] at h; exact vfl_ne r _ _ h
/-- No fault: each element passes behind the one before. -/
theorem vfl_ok : ∀ {l : List α} {k : Nat} {p : Option α}, vfl chk k p l = (0, 0) ↔ ∀ (i : Nat) x, l[i]? = some x → chk (if i = 0 then p else l[i - 1]?) x = 0
  | [], k, p => by simp [vfl]
  | x :: r, k, p => by
    simp only [vfl]
    by_cases h1 : chk p x = 0
    · rw [if_neg (by simpa using h1), vfl_ok]
      constructor
      · intro h i y hy
        cases i with
        | zero => simp at hy; subst hy; simpa using h1
        | succ i =>
          have := h i y (by simpa using hy)
          cases i with
          | zero => simpa using this
          | succ i => simpa using this
      · intro h i y hy
        have := h (i + 1) y (by simpa using hy)
        cases i with
        | zero => simpa using this
        | succ i => simpa using this
    · rw [if_pos h1]
      constructor
      · intro h; injection h with h; exact absurd h h1
      · intro h
        have := h 0 x rfl
        simp at this; exact absurd this h1
end
/-- A pair as the two numbers of a fault. -/
def fv (f : Int × Int) : V := .agg [.int .i64 f.1, .int .i64 f.2]
theorem fvEq {f : Int × Int} {a b : Int} (h : f = (a, b)) : V.agg [.int .i64 a, .int .i64 b] = fv f := by rw [h]; rfl
end Go.DL
