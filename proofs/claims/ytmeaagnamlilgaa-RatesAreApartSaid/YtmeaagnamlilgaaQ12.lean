/- What comes in from a row: rate limits, uses. No condition. -/
import Derived.Test.YtmeaagnamlilgaaQ11
import Derived.Test.YtmeaagnamlilgaaDl16
import Derived.Test.YtmeaagnamlilgaaRows
import Derived.WalkKit
import Derived.ProofKit
import Derived.OpenShut
import Derived.ShutString
import Derived.ChangeOld
import Derived.Below
import Derived.SizedLaws
set_option linter.unusedVariables false
set_option linter.unusedSimpArgs false
set_option maxHeartbeats 4000000
namespace Go.DL
open Go.Proofs Go.RowKit
attribute [local semireducible] CallV in
theorem CallV.use {P : Program} {T : Tab P} {f : FuncId} {args : List V} {r0 : V} (h : CallV T f args (· = r0)) (hg : ∀ g, T.glob g = none) {w : World} {vs : List Value} (hc : VCells noX w args vs) (hl : vs.length = args.length) :
    Calls P f vs.toArray w fun e w' => ∃ v, e = .returned v ∧ VCell noX w' r0 v ∧ Below w.heap.size w w' :=
  (h.2 noX w vs (fun b hb => hb.elim) (fun g cs h => by rw [hg] at h; cases h) hc hl).mono fun e w' ⟨r, v, he, hq, hcell, hb⟩ => ⟨v, he, by rw [← hq]; exact hcell, hb⟩
theorem shUs : shOf Try.prog 3 45 = some [.sl [.int .i64, .int .i64]] := by kernel_rfl
theorem shRt : shOf Try.prog 6 39 = some [.int .i64, .int .i64, .sl [.str, .sl [.int .i64, .int .i64]]] := by kernel_rfl
theorem fits_us1 {r : List V} (h : FitsL [.int .i64, .int .i64] r) : ∃ x : Us, r = x.row := by
  match r, h with
  | [.int k a, .int k2 n], h =>
    obtain ⟨⟨rfl, _⟩, ⟨rfl, _⟩, _⟩ := h
    exact ⟨⟨a, n⟩, rfl⟩
theorem rows_us : ∀ xs : List (List V), (∀ r ∈ xs, FitsL [.int .i64, .int .i64] r) → ∃ l : List Us, xs = l.map Us.row
  | [], _ => ⟨[], rfl⟩
  | r :: xs, h => by
    obtain ⟨l, rfl⟩ := rows_us xs (fun r hr => h r (List.mem_cons_of_mem _ hr))
    obtain ⟨x, rfl⟩ := fits_us1 (h r List.mem_cons_self)
    exact ⟨x :: l, rfl⟩
theorem fits_rk1 {r : List V} (h : FitsL [.str, .sl [.int .i64, .int .i64]] r) : ∃ x : Rk, r = x.row := by
  match r, h with
  | [.str a, .sl sz z xs], h =>
    obtain ⟨_, ⟨rfl, rfl, hr⟩, _⟩ := h
    obtain ⟨l, rfl⟩ := rows_us xs hr
    exact ⟨⟨a, false, l⟩, rfl⟩
theorem rows_rk : ∀ xs : List (List V), (∀ r ∈ xs, FitsL [.str, .sl [.int .i64, .int .i64]] r) → ∃ l : List Rk, xs = l.map Rk.row
  | [], _ => ⟨[], rfl⟩
  | r :: xs, h => by
    obtain ⟨l, rfl⟩ := rows_rk xs (fun r hr => h r (List.mem_cons_of_mem _ hr))
    obtain ⟨x, rfl⟩ := fits_rk1 (h r List.mem_cons_self)
    exact ⟨x :: l, rfl⟩
theorem fits_rt {vs : List V} (h : FitsL [.int .i64, .int .i64, .sl [.str, .sl [.int .i64, .int .i64]]] vs) : ∃ r : Rt, vs = r.row := by
  match vs, h with
  | [.int k a, .int k2 b, .sl sz z xs], h =>
    obtain ⟨⟨rfl, _⟩, ⟨rfl, _⟩, ⟨rfl, rfl, hr⟩, _⟩ := h
    obtain ⟨l, rfl⟩ := rows_rk xs hr
    exact ⟨⟨a, b, false, l⟩, rfl⟩
theorem fits_uss {vs : List V} (h : FitsL [.sl [.int .i64, .int .i64]] vs) : ∃ l : List Us, vs = [uss false l] := by
  match vs, h with
  | [.sl sz z xs], h =>
    obtain ⟨⟨rfl, rfl, hr⟩, _⟩ := h
    obtain ⟨l, rfl⟩ := rows_us xs hr
    exact ⟨l, rfl⟩
end Go.DL
