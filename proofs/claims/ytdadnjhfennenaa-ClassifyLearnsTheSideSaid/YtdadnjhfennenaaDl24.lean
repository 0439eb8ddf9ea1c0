/- DL, part 24: a struct as argument. Own work; no condition. -/
import Derived.Test.YtdadnjhfennenaaDl23
set_option linter.unusedVariables false
set_option linter.unusedSimpArgs false
namespace Go.DL
open Go.RowKit
section
variable {P : Program} {T : Tab P} {f : FuncId}
theorem agg_cell {X : Nat → Prop} {ρ : Nat → Slot} {w : World} {cs : List V} {v : Value} (h : DCell X ρ w (.agg (cs.map .v)) v) : DCell X ρ w (.v (.agg cs)) v := by
  obtain ⟨vs, hv, hl, hc⟩ := h
  exact ⟨vs, hv, by simpa using hl, DCells.toV hc⟩
attribute [local semireducible] CallD in
theorem CallD.agg1 {cs : List V} {ds : List D} {L : List Ob} {Q : D → List Ob → Prop} (h : CallD T f (.v (.agg cs) :: ds) L Q) : CallD T f (.agg (cs.map .v) :: ds) L Q := by
  refine ⟨h.1, fun X ρ w vs hm hg hc hl hob hh => h.2 X ρ w vs hm hg ?_ hl hob hh⟩
  cases vs with
  | nil => exact hc.elim
  | cons v vs => exact ⟨agg_cell hc.1, hc.2⟩
theorem CallE.agg1 {cs : List V} {ds : List D} {L : List Ob} {sz : Nat} {Q : List (List V) → Prop} (h : CallE T f (.v (.agg cs) :: ds) L sz Q) : CallE T f (.agg (cs.map .v) :: ds) L sz Q := CallD.agg1 h
end
end Go.DL
