/- What comes in from a row: results; the listed variable. No condition. -/
import Derived.Test.YtmeaagnamlilgaaDoorV8
import Derived.Test.YtmeaagnamlilgaaDoorDl16
import Derived.Test.YtmeaagnamlilgaaDoorRows
import Derived.WalkKit
import Derived.ProofKit
import Derived.OpenShut
import Derived.ShutString
import Derived.ChangeOld
import Derived.Below
import Derived.SizedLaws
import Derived.LaidMore
import Derived.Lay
import Derived.Handy
set_option linter.unusedVariables false
set_option linter.unusedSimpArgs false
set_option maxHeartbeats 4000000
namespace Go.DL
open Go.Proofs Go.RowKit
attribute [local semireducible] CallV in
theorem CallV.useG {P : Program} {T : Tab P} {f : FuncId} {args : List V} {r0 : V} (h : CallV T f args (· = r0)) {w : World} (hg : ∀ g cs, T.glob g = some cs → VCell noX w (.iptr cs) (.pointer (some ⟨g, 0, none⟩))) {vs : List Value} (hc : VCells noX w args vs) (hl : vs.length = args.length) :
    Calls P f vs.toArray w fun e w' => ∃ v, e = .returned v ∧ VCell noX w' r0 v ∧ Below w.heap.size w w' :=
  (h.2 noX w vs (fun b hb => hb.elim) hg hc hl).mono fun e w' ⟨r, v, he, hq, hcell, hb⟩ => ⟨v, he, by rw [← hq]; exact hcell, hb⟩
theorem shRs : shOf Tryd.prog 4 24 = some [.int .i64, .sl [.str, .int .i64], .int .i64, .int .i64, .int .i64, .bool, .bool] := by kernel_rfl
theorem fits_vd1 {r : List V} (h : FitsL [.str, .int .i64] r) : ∃ x : Vd, r = x.row := by
  match r, h with
  | [.str a, .int k x], h =>
    obtain ⟨_, ⟨rfl, _⟩, _⟩ := h
    exact ⟨⟨a, x⟩, rfl⟩
theorem rows_vd : ∀ xs : List (List V), (∀ r ∈ xs, FitsL [.str, .int .i64] r) → ∃ l : List Vd, xs = l.map Vd.row
  | [], _ => ⟨[], rfl⟩
  | r :: xs, h => by
    obtain ⟨l, rfl⟩ := rows_vd xs (fun r hr => h r (List.mem_cons_of_mem _ hr))
    obtain ⟨x, rfl⟩ := fits_vd1 (h r List.mem_cons_self)
    exact ⟨x :: l, rfl⟩
theorem fits_rs {vs : List V} (h : FitsL [.int .i64, .sl [.str, .int .i64], .int .i64, .int .i64, .int .i64, .bool, .bool] vs) : ∃ r : Rs, vs = r.row := by
  match vs, h with
  | [.int k1 a, .sl sz z xs, .int k2 c, .int k3 p, .int k4 j, .bool g, .bool t], h =>
    obtain ⟨⟨rfl, _⟩, ⟨rfl, rfl, hr⟩, ⟨rfl, _⟩, ⟨rfl, _⟩, ⟨rfl, _⟩, _⟩ := h
    obtain ⟨l, rfl⟩ := rows_vd xs hr
    exact ⟨⟨a, false, l, c, p, j, g, t⟩, rfl⟩
def laidL : List (String × DataW Unit) := [("posthouse/verdict.hosts", YtmeaagnamlilgaaDoor.Rows.laid_posthouse_verdict_hosts)]
theorem hostsVar {W : World} (h : laidMetH Tryd.prog laidL W) : W.var? Tryd.prog "posthouse/verdict.hosts" = some #[.int .i64 5, .int .i64 0, .int .i64 40, .int .i64 20, .int .i64 5, .int .i64 10] := by
  rw [MakeChecks.laidMetH_plain _ _ _ (by kernel_rfl)] at h
  obtain ⟨ps, ⟨g, t, cs, fuel, p, q, hg, ht, hv, hd, _, _⟩, _, _⟩ := h
  obtain rfl := Option.some.inj ((show Tryd.prog.globalNamed "posthouse/verdict.hosts" = some 0 by kernel_rfl).symm.trans hg)
  obtain rfl := Option.some.inj ((show (Tryd.prog.globals[0]?).map (·.type) = some 44 by kernel_rfl).symm.trans ht)
  have c3 : Tryd.prog.cellsOf 3 = 1 := by kernel_rfl
  have c44 : Tryd.prog.cellsOf 44 = 6 := by kernel_rfl
  obtain ⟨xs, m, _, ex, hlen, hl, hel⟩ := DataW.trod_array Tryd.underlying44 hd
  rw [c44] at hlen
  obtain ⟨l⟩ := cs
  match l, hlen with
  | [a, b, c, d, e, f], _ =>
    match xs, hl with
    | [x0, x1, x2, x3, x4, x5], _ =>
      have e3 := (DataW.agg.inj (Prod.mk.inj ex).1)
      simp only [List.map_cons, List.map_nil, List.cons.injEq, and_true] at e3
      have k0 := hel 0 (by omega); have k1 := hel 1 (by omega); have k2 := hel 2 (by omega); have k3 := hel 3 (by omega); have k4 := hel 4 (by omega); have k5 := hel 5 (by omega)
      rw [c3] at k0 k1 k2 k3 k4 k5
      obtain ⟨z0, a0, b0, _⟩ := DataW.trod_int Tryd.underlying3 k0
      obtain ⟨z1, a1, b1, _⟩ := DataW.trod_int Tryd.underlying3 k1
      obtain ⟨z2, a2, b2, _⟩ := DataW.trod_int Tryd.underlying3 k2
      obtain ⟨z3, a3, b3, _⟩ := DataW.trod_int Tryd.underlying3 k3
      obtain ⟨z4, a4, b4, _⟩ := DataW.trod_int Tryd.underlying3 k4
      obtain ⟨z5, a5, b5, _⟩ := DataW.trod_int Tryd.underlying3 k5
      rw [hv]
      simp_all
      omega
theorem laid_glob {W : World} (h : laidMetH Tryd.prog laidL W) : ∀ g cs, tab.glob g = some cs → VCell noX W (.iptr cs) (.pointer (some ⟨g, 0, none⟩)) := by
  have hv := hostsVar h
  unfold World.var? at hv
  rw [show Tryd.prog.globalNamed "posthouse/verdict.hosts" = some 0 by kernel_rfl] at hv
  simp only [Option.bind_some] at hv
  intro g cs hg
  match g, hg with
  | 0, hg =>
    injection hg with hg; subst hg
    split at hv
    · rename_i arr t fr hh
      injection hv with hv; subst hv
      exact ⟨0, 0, _, t, fr, rfl, fun h => h, hh, ⟨rfl, rfl, rfl, rfl, rfl, rfl, trivial⟩⟩
    · cases hv
end Go.DL
