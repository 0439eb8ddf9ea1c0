/- ReputationScoreMatchesSpec returns true for all senders, names and instants; no condition. -/
import Derived.Test.YtdadnjhfennenaaB10
import Derived.Test.YtdadnjhfennenaaDl16
import Derived.Test.YtdadnjhfennenaaRows
import Derived.WalkKit
import Derived.ProofKit
import Derived.OpenShut
import Derived.ShutString
import Derived.ChangeOld
import Derived.Below
import Derived.SizedLaws
set_option linter.unusedVariables false
set_option linter.unusedSimpArgs false
set_option maxHeartbeats 4000000
namespace Go.DL
open Go.Proofs Go.RowKit
attribute [local semireducible] CallV in
theorem CallV.use {P : Program} {T : Tab P} {f : FuncId} {args : List V} {r0 : V} (h : CallV T f args (· = r0)) (hg : ∀ g, T.glob g = none) {w : World} {vs : List Value} (hc : VCells noX w args vs) (hl : vs.length = args.length) :
    Calls P f vs.toArray w fun e w' => ∃ v, e = .returned v ∧ VCell noX w' r0 v ∧ Below w.heap.size w w' :=
  (h.2 noX w vs (fun b hb => hb.elim) (fun g cs h => by rw [hg] at h; cases h) hc hl).mono fun e w' ⟨r, v, he, hq, hcell, hb⟩ => ⟨v, he, by rw [← hq]; exact hcell, hb⟩
theorem shSd : shOf Try.prog 3 22 = some [.sl [.str, .int .i64, .int .i64, .int .i64]] := by kernel_rfl
theorem rows_sd : ∀ xs : List (List V), (∀ r ∈ xs, FitsL [.str, .int .i64, .int .i64, .int .i64] r) → ∃ l : List Sd, xs = l.map Sd.row
  | [], _ => ⟨[], rfl⟩
  | r :: xs, h => by
    obtain ⟨l, rfl⟩ := rows_sd xs (fun r hr => h r (List.mem_cons_of_mem _ hr))
    have h0 := h r List.mem_cons_self
    match r, h0 with
    | [.str s, .int .i64 g, .int .i64 b, .int .i64 d], _ => exact ⟨⟨s, g, b, d⟩ :: l, rfl⟩
    | [.str s, .int k g, .int k2 b, .int k3 d], h0 =>
      obtain ⟨_, ⟨rfl, _⟩, ⟨rfl, _⟩, ⟨rfl, _⟩, _⟩ := h0
      exact ⟨⟨s, g, b, d⟩ :: l, rfl⟩
theorem fits_sd {vs : List V} (h : FitsL [.sl [.str, .int .i64, .int .i64, .int .i64]] vs) : ∃ l : List Sd, vs = [sds false l] := by
  match vs, h with
  | [.sl sz z xs], h =>
    obtain ⟨⟨rfl, rfl, hr⟩, _⟩ := h
    obtain ⟨l, rfl⟩ := rows_sd xs hr
    exact ⟨l, rfl⟩
end Go.DL
namespace Go.Proofs.Ytdadnjhfennenaa.Law4
open Go.ChangeShapes Go.WideShapes Go.ChangeAt Go.RowKit
open Go.ChangeMaps (open_string shut_string)
open Go.DL
theorem own : ownKnob Try.prog.godebug = none := by kernel_rfl
theorem laidOut : laidOutB Try.prog = true := by kernel_rfl
set_option maxRecDepth 100000 in
theorem lifted (os : Os) (started : os.Started) (H : Type) (enc : TypeId × Value → H) :
    ReturnsInHanded {} Try.checked os 4 .any (Rows.reputationScoreMatchesSpecSpec.pre6 enc Try.prog Try.f4 Rows.reputationScoreMatchesSpecRow.domain false) (Rows.reputationScoreMatchesSpecSpec.post enc Try.prog Try.f4 false true false false) := by
  refine returnsInHanded_of_change_sized (C := Try.checked) own started (by kernel_rfl) Try.func4
    (ChangeSpec.witness6 (enc := enc) (C := Try.checked) false ⟨#[], #[.slice none 0 0, .string ByteArray.empty, .int .i64 0], []⟩ 8 (by kernel_rfl) (by kernel_rfl) (by kernel_rfl) (by kernel_rfl)) ?_
  intro W base args ds gs before hval0 hW hcnd hsz0 _
  have hsz : (DataW.weightsEach Try.prog (Try.f4.params.toList ++ Rows.reputationScoreMatchesSpecSpec.plain.varTypes Try.prog) (ds ++ gs)).all (· ≤ reachBytes) = true := hsz0
  have hval : ∀ (j : Nat) t v, Try.f4.params[j]? = some t → args[j]? = some v → Value.okWide Try.prog W .any base t v := hval0
  have hW' := hW
  obtain ⟨p, q, hA0, hV, rfl, hfz, hnd⟩ := hW
  have hA : DataW.TrodAll enc Try.prog W 0 (fun _ => true) true Try.f4.params.toList args.toList ds p := hA0
  rw [Try.params4] at hA hval hsz
  obtain ⟨v0, vs0, d0, ds0, p0, q0, hargs, rfl, rfl, h0, r0⟩ := trodAll_cons hA
  obtain ⟨v1, vs1, d1, ds1, p1, q1, rfl, rfl, rfl, h1, r1⟩ := trodAll_cons r0
  obtain ⟨v2, vs2, d2, ds2, p2, q2, rfl, rfl, rfl, h2, r2⟩ := trodAll_cons r1
  obtain ⟨rfl, rfl, rfl⟩ := trodAll_nil r2
  obtain rfl : args = #[v0, v1, v2] := by cases args; simp_all
  obtain ⟨rfl, rfl⟩ := trodVars_none hV
  obtain ⟨a0, len0, cap0, rfl⟩ := okWide_slice Try.underlying22 (hval 0 22 v0 rfl rfl)
  have k0 := h0
  have lt0 : ∀ x ∈ p0, x.block < W.heap.size := by obtain ⟨m, hm⟩ := k0; exact DataW.trod_lt m _ _ _ hm
  obtain ⟨fuel0, hf0⟩ := h0
  obtain ⟨us, e1, e2, e3⟩ := trod_sh 3 shSd hf0 (fun n hn => by
    have := List.all_eq_true.1 hsz n (DataW.weights_mem_each (j := 0) rfl rfl n hn)
    simpa using this)
  obtain ⟨l, rfl⟩ := fits_sd e3
  obtain ⟨a1, rfl, rfl, rfl, y1⟩ := open_string Try.underlying9 (hval 1 9 v1 rfl rfl) h1
  obtain ⟨a2, rfl, rfl, rfl, w2⟩ := open_int Try.underlying3 (hval 2 3 v2 rfl rfl) h2
  clear hA0 hval0 hsz0 hsz
  refine ((c_law4 false l a1 a2).use (fun _ => rfl) (w := W) (vs := [.slice a0 len0 cap0, .string a1, .int .i64 a2]) ⟨e1.1, rfl, rfl, trivial⟩ rfl).mono fun e W' ⟨v, he, hv, bel⟩ => ?_
  subst he
  have hv' : v = .bool true := hv
  subst hv'
  exact ⟨_, rfl, _, _, _, [], _, [], hW', trodAll_mk1 (shut_bool Try.underlying4 _), (trodAll_cons_mk (Below.trod laidOut (by kernel_rfl) (of_decide_eq_true (by kernel_rfl)) k0 bel lt0) (trodAll_cons_mk (shut_string Try.underlying9 y1) (trodAll_cons_mk (shut_int Try.underlying3 w2) trodAll_mk0))), rfl, bel.frame _, fun h => by cases h⟩
theorem over : Rows.reputationScoreMatchesSpecRow.holds Try.pinned (OpenSpec.ofChange Rows.reputationScoreMatchesSpecSpec) :=
  OpenClaim.holds_of_wide 4 Try.f4 rfl rfl rfl rfl rfl rfl rfl ⟨rfl, rfl, rfl, rfl, rfl⟩ rfl rfl rfl rfl rfl (by kernel_rfl) Try.func4 (by kernel_rfl)
    (of_decide_eq_true (by kernel_rfl)) (by unfold Func.isWrapper; first | (rw [if_pos (by decide +kernel)]; kernel_rfl) | (rw [if_neg (by decide +kernel)]; exact ⟨rfl, rfl⟩))
    (fun os started H enc _ => lifted os started H enc)
theorem proved : Rows.ReputationScoreMatchesSpecSaid := over
#print axioms proved
end Go.Proofs.Ytdadnjhfennenaa.Law4
namespace Go.Proofs.Ytdadnjhfennenaa
theorem reputationScoreMatchesSpec_holds : Rows.ReputationScoreMatchesSpecSaid := Law4.proved
end Go.Proofs.Ytdadnjhfennenaa
