/- What comes in from a row: words, tokens of a message. No condition. -/
import Derived.Test.YtdadnjhfennenaaC16
import Derived.Test.YtdadnjhfennenaaDB
import Derived.Test.YtdadnjhfennenaaRows
import Derived.WalkKit
import Derived.ProofKit
import Derived.OpenShut
import Derived.ShutString
import Derived.ChangeOld
import Derived.Below
import Derived.SizedLaws
set_option linter.unusedVariables false
set_option linter.unusedSimpArgs false
set_option maxHeartbeats 4000000
namespace Go.DL
open Go.Proofs Go.RowKit
attribute [local semireducible] CallV in
theorem CallV.use {P : Program} {T : Tab P} {f : FuncId} {args : List V} {r0 : V} (h : CallV T f args (· = r0)) (hg : ∀ g, T.glob g = none) {w : World} {vs : List Value} (hc : VCells noX w args vs) (hl : vs.length = args.length) :
    Calls P f vs.toArray w fun e w' => ∃ v, e = .returned v ∧ VCell noX w' r0 v ∧ Below w.heap.size w w' :=
  (h.2 noX w vs (fun b hb => hb.elim) (fun g cs h => by rw [hg] at h; cases h) hc hl).mono fun e w' ⟨r, v, he, hq, hcell, hb⟩ => ⟨v, he, by rw [← hq]; exact hcell, hb⟩
theorem shSs : shOf Try.prog 3 46 = some [.sl [.str]] := by kernel_rfl
theorem shWd : shOf Try.prog 6 45 = some [.int .i64, .int .i64, .sl [.str, .int .i64, .int .i64]] := by kernel_rfl
theorem fits_tk1 {r : List V} (h : FitsL [.str, .int .i64, .int .i64] r) : ∃ x : Tk, r = x.row := by
  match r, h with
  | [.str s, .int k a, .int k2 n], h =>
    obtain ⟨_, ⟨rfl, _⟩, ⟨rfl, _⟩, _⟩ := h
    exact ⟨⟨s, a, n⟩, rfl⟩
theorem rows_tk : ∀ xs : List (List V), (∀ r ∈ xs, FitsL [.str, .int .i64, .int .i64] r) → ∃ l : List Tk, xs = l.map Tk.row
  | [], _ => ⟨[], rfl⟩
  | r :: xs, h => by
    obtain ⟨l, rfl⟩ := rows_tk xs (fun r hr => h r (List.mem_cons_of_mem _ hr))
    obtain ⟨x, rfl⟩ := fits_tk1 (h r List.mem_cons_self)
    exact ⟨x :: l, rfl⟩
theorem fits_wd {vs : List V} (h : FitsL [.int .i64, .int .i64, .sl [.str, .int .i64, .int .i64]] vs) : ∃ r : Wd, vs = r.row := by
  match vs, h with
  | [.int k a, .int k2 b, .sl sz z xs], h =>
    obtain ⟨⟨rfl, _⟩, ⟨rfl, _⟩, ⟨rfl, rfl, hr⟩, _⟩ := h
    obtain ⟨l, rfl⟩ := rows_tk xs hr
    exact ⟨⟨a, b, false, l⟩, rfl⟩
theorem fits_s1 {r : List V} (h : FitsL [.str] r) : ∃ x : ByteArray, r = sV x := by
  match r, h with
  | [.str s], h => exact ⟨s, rfl⟩
theorem rows_s : ∀ xs : List (List V), (∀ r ∈ xs, FitsL [.str] r) → ∃ l : List ByteArray, xs = l.map sV
  | [], _ => ⟨[], rfl⟩
  | r :: xs, h => by
    obtain ⟨l, rfl⟩ := rows_s xs (fun r hr => h r (List.mem_cons_of_mem _ hr))
    obtain ⟨x, rfl⟩ := fits_s1 (h r List.mem_cons_self)
    exact ⟨x :: l, rfl⟩
theorem fits_ss {vs : List V} (h : FitsL [.sl [.str]] vs) : ∃ l : List ByteArray, vs = [strs false l] := by
  match vs, h with
  | [.sl sz z xs], h =>
    obtain ⟨⟨rfl, rfl, hr⟩, _⟩ := h
    obtain ⟨l, rfl⟩ := rows_s xs hr
    exact ⟨l, rfl⟩
theorem c_law9 (w : Wd) (a b : List ByteArray) (x y : Bool) : CallV tab 9 [.agg w.row, strs false a, strs false b, .bool x, .bool y] (· = .bool true) := c_AnyOrder w false false a b x y
theorem c_law10 (w : Wd) (l : List ByteArray) : CallV tab 10 [.agg w.row, strs false l] (· = .bool true) := c_Side w false l
theorem c_law11 (w : Wd) (l : List ByteArray) (j : Bool) : CallV tab 11 [.agg w.row, strs false l, .bool j] (· = .bool true) := c_MatchesSpec w false l j
theorem c_law12 (w : Wd) (l : List ByteArray) (j : Bool) : CallV tab 12 [.agg w.row, strs false l, .bool j] (· = .bool true) := c_Forgets w false l j
end Go.DL
