/- Hosts: what comes in from a row: policies, texts; the listed variable. No condition. -/
import Derived.Test.YtacpahgoomdfaaaDoorH18
import Derived.Test.YtacpahgoomdfaaaDoorDB
import Derived.Test.YtacpahgoomdfaaaDoorRows
import Derived.WalkKit
import Derived.ProofKit
import Derived.OpenShut
import Derived.ShutString
import Derived.ChangeArms
import Derived.ChangeOld
import Derived.Below
import Derived.SizedLaws
import Derived.LaidMore
import Derived.Lay
import Derived.Handy
set_option linter.unusedVariables false
set_option linter.unusedSimpArgs false
set_option maxHeartbeats 4000000
namespace Go.DL
open Go.Proofs Go.RowKit
attribute [local semireducible] CallV in
theorem CallV.useG {P : Program} {T : Tab P} {f : FuncId} {args : List V} {r0 : V} (h : CallV T f args (· = r0)) {w : World} (hg : ∀ g cs, T.glob g = some cs → VCell noX w (.iptr cs) (.pointer (some ⟨g, 0, none⟩))) {vs : List Value} (hc : VCells noX w args vs) (hl : vs.length = args.length) :
    Calls P f vs.toArray w fun e w' => ∃ v, e = .returned v ∧ VCell noX w' r0 v ∧ Below w.heap.size w w' :=
  (h.2 noX w vs (fun b hb => hb.elim) hg hc hl).mono fun e w' ⟨r, v, he, hq, hcell, hb⟩ => ⟨v, he, by rw [← hq]; exact hcell, hb⟩
abbrev shR : List Sh := [.int .i64, .int .i64, .str]
abbrev shP : List Sh := [.str, .sl shR]
theorem shPl : shOf Tryd.prog 6 24 = some shP := by kernel_rfl
theorem shPls : shOf Tryd.prog 8 32 = some [.sl shP] := by kernel_rfl
theorem shStrs : shOf Tryd.prog 4 39 = some [.sl [.str]] := by kernel_rfl
theorem maxLen_le : maxLen ≤ 9223372036854775807 := by decide
theorem fits_rl {r : List V} (h : FitsL shR r) : ∃ x : Rl, r = x.row ∧ bS x.n := by
  match r, h with
  | [.int k1 a, .int k2 b, .str s], h =>
    obtain ⟨⟨rfl, _⟩, ⟨rfl, _⟩, hs, _⟩ := h
    exact ⟨⟨a, b, s⟩, rfl, Nat.le_trans hs maxLen_le⟩
theorem fits_rls : ∀ xs : List (List V), (∀ r ∈ xs, FitsL shR r) → ∃ l : List Rl, xs = l.map Rl.row ∧ ∀ x ∈ l, bS x.n
  | [], _ => ⟨[], rfl, fun x h => by cases h⟩
  | r :: xs, h => by
    obtain ⟨l, rfl, hl⟩ := fits_rls xs (fun r hr => h r (List.mem_cons_of_mem _ hr))
    obtain ⟨x, rfl, hx⟩ := fits_rl (h r List.mem_cons_self)
    exact ⟨x :: l, rfl, fun y hy => by rcases List.mem_cons.1 hy with rfl | hy; exact hx; exact hl y hy⟩
theorem fits_pl {r : List V} (h : FitsL shP r) : ∃ p : Pl, r = p.row ∧ bP p := by
  match r, h with
  | [.str d, .sl sz z xs], h =>
    obtain ⟨hd, ⟨rfl, rfl, hr⟩, _⟩ := h
    obtain ⟨l, rfl, hl⟩ := fits_rls xs hr
    exact ⟨⟨d, false, l⟩, rfl, Nat.le_trans hd maxLen_le, hl⟩
theorem fits_plR : ∀ xs : List (List V), (∀ r ∈ xs, FitsL shP r) → ∃ l : List Pl, xs = l.map Pl.row ∧ ∀ p ∈ l, bP p
  | [], _ => ⟨[], rfl, fun x h => by cases h⟩
  | r :: xs, h => by
    obtain ⟨l, rfl, hl⟩ := fits_plR xs (fun r hr => h r (List.mem_cons_of_mem _ hr))
    obtain ⟨x, rfl, hx⟩ := fits_pl (h r List.mem_cons_self)
    exact ⟨x :: l, rfl, fun y hy => by rcases List.mem_cons.1 hy with rfl | hy; exact hx; exact hl y hy⟩
structure PlB where
  p : Pl
  b : bP p
structure PlsB where
  l : List Pl
  b : ∀ p ∈ l, bP p
structure StrsB where
  l : List ByteArray
  b : ∀ p ∈ l, bS p
theorem fits_plB {vs : List V} (h : FitsL shP vs) : ∃ p : PlB, vs = p.p.row := by
  obtain ⟨p, h1, h2⟩ := fits_pl h
  exact ⟨⟨p, h2⟩, h1⟩
theorem fits_plsB {vs : List V} (h : FitsL [.sl shP] vs) : ∃ p : PlsB, vs = [pls false p.l] := by
  match vs, h with
  | [.sl sz z xs], h =>
    obtain ⟨⟨rfl, rfl, hr⟩, _⟩ := h
    obtain ⟨l, rfl, hl⟩ := fits_plR xs hr
    exact ⟨⟨l, hl⟩, rfl⟩
theorem fits_strR : ∀ xs : List (List V), (∀ r ∈ xs, FitsL [.str] r) → ∃ l : List ByteArray, xs = l.map sV ∧ ∀ p ∈ l, bS p
  | [], _ => ⟨[], rfl, fun x h => by cases h⟩
  | r :: xs, h => by
    obtain ⟨l, rfl, hl⟩ := fits_strR xs (fun r hr => h r (List.mem_cons_of_mem _ hr))
    match r, h r List.mem_cons_self with
    | [.str s], hs => exact ⟨s :: l, rfl, fun y hy => by rcases List.mem_cons.1 hy with rfl | hy; exact Nat.le_trans hs.1 maxLen_le; exact hl y hy⟩
theorem fits_strsB {vs : List V} (h : FitsL [.sl [.str]] vs) : ∃ p : StrsB, vs = [strs false p.l] := by
  match vs, h with
  | [.sl sz z xs], h =>
    obtain ⟨⟨rfl, rfl, hr⟩, _⟩ := h
    obtain ⟨l, rfl, hl⟩ := fits_strR xs hr
    exact ⟨⟨l, hl⟩, rfl⟩
def laidL : List (String × DataW Unit) := [("unicode/utf8.acceptRanges", YtacpahgoomdfaaaDoor.Rows.laid_unicode_utf8_acceptRanges), ("posthouse/hosts.words", YtacpahgoomdfaaaDoor.Rows.laid_posthouse_hosts_words), ("unicode/utf8.first", YtacpahgoomdfaaaDoor.Rows.laid_unicode_utf8_first)]
theorem strL {l : List UInt8} {z : ByteArray} {q : List MemPlace} (h : (DataW.lit (Lit.string l) : DataW Unit) = (DataW.lit (Lit.string z.data.toList), q).1) : z = ⟨l.toArray⟩ := by
  injection h with h
  injection h with h
  rw [h]
abbrev wordsA : Array Value := #[.string ⟨#[]⟩, .string ⟨#[97, 108, 108]⟩, .string ⟨#[105, 115, 58]⟩, .string ⟨#[117, 110, 100, 101, 114, 58]⟩, .string ⟨#[105, 110, 99, 108, 117, 100, 101, 58]⟩]
theorem wordsVar {W : World} (h : laidMetH Tryd.prog laidL W) : W.var? Tryd.prog "posthouse/hosts.words" = some wordsA := by
  rw [MakeChecks.laidMetH_plain _ _ _ (by kernel_rfl)] at h
  obtain ⟨ps, ⟨_, _, _, _, _, _, _, _, _, _, ⟨g, t, cs, fuel, p, q, hg, ht, hv, hd, _, _⟩, _⟩, _, _⟩ := h
  obtain rfl := Option.some.inj ((show Tryd.prog.globalNamed "posthouse/hosts.words" = some 0 by kernel_rfl).symm.trans hg)
  obtain rfl := Option.some.inj ((show (Tryd.prog.globals[0]?).map (·.type) = some 61 by kernel_rfl).symm.trans ht)
  have c3 : Tryd.prog.cellsOf 9 = 1 := by kernel_rfl
  have c44 : Tryd.prog.cellsOf 61 = 5 := by kernel_rfl
  obtain ⟨xs, m, _, ex, hlen, hl, hel⟩ := DataW.trod_array Tryd.underlying61 hd
  rw [c44] at hlen
  obtain ⟨l⟩ := cs
  match l, hlen with
  | [a, b, c, d, e], _ =>
    match xs, hl with
    | [x0, x1, x2, x3, x4], _ =>
      have e3 := (DataW.agg.inj (Prod.mk.inj ex).1)
      simp only [List.map_cons, List.map_nil, List.cons.injEq, and_true] at e3
      obtain ⟨e0, e1, e2, e3, e4⟩ := e3
      have k0 := hel 0 (by omega); have k1 := hel 1 (by omega); have k2 := hel 2 (by omega); have k3 := hel 3 (by omega); have k4 := hel 4 (by omega)
      rw [c3] at k0 k1 k2 k3 k4
      obtain ⟨z0, a0, b0, _⟩ := DataW.trod_string Tryd.underlying9 k0
      obtain ⟨z1, a1, b1, _⟩ := DataW.trod_string Tryd.underlying9 k1
      obtain ⟨z2, a2, b2, _⟩ := DataW.trod_string Tryd.underlying9 k2
      obtain ⟨z3, a3, b3, _⟩ := DataW.trod_string Tryd.underlying9 k3
      obtain ⟨z4, a4, b4, _⟩ := DataW.trod_string Tryd.underlying9 k4
      rw [hv]
      subst b0 b1 b2 b3 b4
      have f0 := strL e0; have f1 := strL e1; have f2 := strL e2; have f3 := strL e3; have f4 := strL e4
      simp only [List.drop, List.take, Nat.zero_mul, Nat.one_mul, Nat.reduceMul, List.cons.injEq, and_true] at a0 a1 a2 a3 a4
      rw [a0, a1, a2, a3, a4, f0, f1, f2, f3, f4]
theorem laid_glob {W : World} (h : laidMetH Tryd.prog laidL W) : ∀ g cs, tab.glob g = some cs → VCell noX W (.iptr cs) (.pointer (some ⟨g, 0, none⟩)) := by
  have hv := wordsVar h
  unfold World.var? at hv
  rw [show Tryd.prog.globalNamed "posthouse/hosts.words" = some 0 by kernel_rfl] at hv
  simp only [Option.bind_some] at hv
  intro g cs hg
  match g, hg with
  | 0, hg =>
    injection hg with hg; subst hg
    split at hv
    · rename_i arr t fr hh
      injection hv with hv; subst hv
      exact ⟨0, 0, _, t, fr, rfl, fun h => h, hh, ⟨rfl, rfl, rfl, rfl, rfl, trivial⟩⟩
    · cases hv
end Go.DL
