/- DL, part 27: of a result it need not be known whether it is nil. Own work; no condition. -/
import Derived.Test.YtdadnjhfennenaaDl26
set_option linter.unusedVariables false
set_option linter.unusedSimpArgs false
namespace Go.DL
open Go.RowKit
section
variable {P : Program} {T : Tab P} {f : FuncId} {args : List V}
theorem VCell.weak {X : Nat → Prop} {w : World} {sz : Nat} {z : Bool} {xs : List (List V)} {v : Value} (h : VCell X w (.sl sz z xs) v) : VCell X w (.sl sz false xs) v := by
  unfold VCell at h ⊢
  obtain ⟨h0, h1, h2, h3, h4⟩ := h
  exact ⟨h0, h1, h2, (fun h => by cases h), h4⟩
attribute [local semireducible] CallV in
theorem CallV.weak {sz : Nat} {xs : List (List V)} (h : CallV T f args (fun r => ∃ z, r = .sl sz z xs)) : CallV T f args (· = .sl sz false xs) := by
  refine ⟨h.1, fun X w vs hX hg hv hl => (h.2 X w vs hX hg hv hl).mono ?_⟩
  rintro e w' ⟨r, v, he, ⟨z, rfl⟩, hc, hb⟩
  exact ⟨_, v, he, rfl, VCell.weak hc, hb⟩
end
end Go.DL
