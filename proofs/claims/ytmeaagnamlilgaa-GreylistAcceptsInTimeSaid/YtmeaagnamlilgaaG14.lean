/- What comes in from a row: lists of entries. No condition. -/
import Derived.Test.YtmeaagnamlilgaaG12
import Derived.Test.YtmeaagnamlilgaaDl16
import Derived.Test.YtmeaagnamlilgaaRows
import Derived.WalkKit
import Derived.ProofKit
import Derived.OpenShut
import Derived.ShutString
import Derived.ChangeOld
import Derived.Below
import Derived.SizedLaws
set_option linter.unusedVariables false
set_option linter.unusedSimpArgs false
set_option maxHeartbeats 4000000
namespace Go.DL
open Go.Proofs Go.RowKit
attribute [local semireducible] CallV in
theorem CallV.use {P : Program} {T : Tab P} {f : FuncId} {args : List V} {r0 : V} (h : CallV T f args (· = r0)) (hg : ∀ g, T.glob g = none) {w : World} {vs : List Value} (hc : VCells noX w args vs) (hl : vs.length = args.length) :
    Calls P f vs.toArray w fun e w' => ∃ v, e = .returned v ∧ VCell noX w' r0 v ∧ Below w.heap.size w w' :=
  (h.2 noX w vs (fun b hb => hb.elim) (fun g cs h => by rw [hg] at h; cases h) hc hl).mono fun e w' ⟨r, v, he, hq, hcell, hb⟩ => ⟨v, he, by rw [← hq]; exact hcell, hb⟩
theorem shGe : shOf Try.prog 3 22 = some [.sl [.str, .str, .str, .int .i64, .int .i64, .bool]] := by kernel_rfl
theorem shGe1 : shOf Try.prog 3 33 = some [.str, .str, .str, .int .i64, .int .i64, .bool] := by kernel_rfl
theorem fits_ge1 {r : List V} (h : FitsL [.str, .str, .str, .int .i64, .int .i64, .bool] r) : ∃ x : Ge, r = x.row := by
  match r, h with
  | [.str a, .str b, .str c, .int k x, .int k2 y, .bool z], h =>
    obtain ⟨_, _, _, ⟨rfl, _⟩, ⟨rfl, _⟩, _⟩ := h
    exact ⟨⟨a, b, c, x, y, z⟩, rfl⟩
theorem rows_ge : ∀ xs : List (List V), (∀ r ∈ xs, FitsL [.str, .str, .str, .int .i64, .int .i64, .bool] r) → ∃ l : List Ge, xs = l.map Ge.row
  | [], _ => ⟨[], rfl⟩
  | r :: xs, h => by
    obtain ⟨l, rfl⟩ := rows_ge xs (fun r hr => h r (List.mem_cons_of_mem _ hr))
    obtain ⟨x, rfl⟩ := fits_ge1 (h r List.mem_cons_self)
    exact ⟨x :: l, rfl⟩
theorem fits_ge {vs : List V} (h : FitsL [.sl [.str, .str, .str, .int .i64, .int .i64, .bool]] vs) : ∃ l : List Ge, vs = [ges false l] := by
  match vs, h with
  | [.sl sz z xs], h =>
    obtain ⟨⟨rfl, rfl, hr⟩, _⟩ := h
    obtain ⟨l, rfl⟩ := rows_ge xs hr
    exact ⟨l, rfl⟩
end Go.DL
