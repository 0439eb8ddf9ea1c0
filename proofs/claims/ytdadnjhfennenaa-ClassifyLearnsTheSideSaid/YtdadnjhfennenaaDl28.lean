/- DL, part 28: an object of which one row holds a reference; forgetting objects. Own work; no condition. -/
import Derived.Test.YtdadnjhfennenaaDl27
set_option linter.unusedVariables false
set_option linter.unusedSimpArgs false
namespace Go.DL
open Go.RowKit
theorem vrows_set (xs : List (List V)) (i : Nat) (r : List V) : vrows (xs.set i r) = (vrows xs).set i (r.map D.v) := by simp [vrows, List.map_set]
theorem obLe_set {th : List Nat} {sz i : Nat} {rows : List (List D)} {xs : List (List V)} {row : List D} (h : rows = (vrows xs).set i (renDs (th.getD · 0) row)) (hr : refsLts th.length row = true) : obLe th (.arr sz rows) (.arr sz ((vrows xs).set i row)) := by
  refine ⟨rfl, ?_, ?_⟩
  · rw [h, List.map_set]
    congr 1
    rw [vrows, List.map_map]
    apply List.map_congr_left
    intro x _
    simp only [Function.comp, renDs_map_v]
  · rw [List.all_eq_true]
    intro r hr'
    rcases List.mem_or_eq_of_mem_set hr' with h1 | h1
    · obtain ⟨x, _, rfl⟩ := List.mem_map.1 h1
      exact refsLts_map_v _ _
    · rw [h1]; exact hr
theorem rowSetNe {rows : List (List D)} {i k : Nat} {r : List D} {K : List D → Prop} (h : i ≠ k) (hk : rowK rows[k]? K) : rowK (rows.set i r)[k]? K := by
  rw [List.getElem?_set_ne h]; exact hk
theorem renDs_v (g : Nat → Nat) : ∀ r : List V, renDs g (r.map D.v) = r.map D.v
  | [] => rfl
  | x :: r => by simp only [List.map_cons, renDs, renD, renDs_v g r]
theorem renRows_v (g : Nat → Nat) (xs : List (List V)) : (vrows xs).map (renDs g) = vrows xs := by
  rw [vrows, List.map_map]
  apply List.map_congr_left
  intro x _
  simp only [Function.comp, renDs_v]
theorem renRows_set (g : Nat → Nat) (xs : List (List V)) (i : Nat) (row : List D) : ((vrows xs).set i row).map (renDs g) = (vrows xs).set i (renDs g row) := by
  rw [List.map_set, renRows_v]
theorem DVs_v (H : Nat → Ob) : ∀ r : List V, DVs H (r.map D.v) r
  | [] => trivial
  | x :: r => ⟨rfl, DVs_v H r⟩
theorem RowsV_v (H : Nat → Ob) : ∀ A : List (List V), RowsV H (vrows A) A
  | [] => trivial
  | r :: A => ⟨DVs_v H r, RowsV_v H A⟩
theorem RowsV_set {H : Nat → Ob} {row : List D} {vrow : List V} (h : DVs H row vrow) : ∀ (A : List (List V)) (i : Nat), RowsV H ((vrows A).set i row) (A.set i vrow)
  | [], i => trivial
  | r :: A, 0 => ⟨h, RowsV_v H A⟩
  | r :: A, i + 1 => ⟨DVs_v H r, RowsV_set h A i⟩
theorem DW_set {H : Nat → Ob} {p n sz i : Nat} {A : List (List V)} {row : List D} {vrow : List V} (hp : H p = .arr sz ((vrows A).set i row)) (hn : n = A.length) (h : DVs H row vrow) : DW H (.arr p 0 n) (.sl sz false (A.set i vrow)) := by
  subst hn
  refine ⟨rfl, by simp, _, hp, ?_⟩
  rw [List.drop_zero, List.take_of_length_le (by simp)]
  exact RowsV_set h A i
section
variable {P : Program} {T : Tab P} {f : FuncId} {args : List V}
attribute [local semireducible] CallD in
theorem CallD.weak {ds : List D} {L : List Ob} {d0 : D} {L0 L1 : List Ob} (h : CallD T f ds L fun d L' => d = d0 ∧ L' = L0) (hl : L1.length = L0.length) (ho : ∀ i, obAt L1 i = .gone ∨ obAt L1 i = obAt L0 i) : CallD T f ds L fun d L' => d = d0 ∧ L' = L1 := by
  refine ⟨h.1, fun X ρ w vs hm hg hc hlen hob hh => (h.2 X ρ w vs hm hg hc hlen hob hh).mono ?_⟩
  rintro e w' ⟨v, d, L', X', ρ', he, ⟨rfl, rfl⟩, st, hd, hob', hh'⟩
  refine ⟨v, _, L1, X', ρ', he, ⟨rfl, rfl⟩, st, hd, fun p => ?_, fun p hp => hh' p (by omega)⟩
  rcases ho p with e | e
  · rw [e]; trivial
  · rw [e]; exact hob' p
theorem call_newE {o : Oper} {E : Nat → Option D} {H : Nat → Ob} {nx : Nat} {K : KT} {c : Call} {x : Operand} {ds caps : List D} {vargs : List V} {d0 d1 : D} {L0 : List Ob} {U1 : List (Nat × Ob)} (hC : CallN T f vargs d0 L0) (ho : o.op = .call c) (hc : c.callee = .value x) (hx : callee (ev T E 0 x) = some (f, caps)) (hargs : evL T E c.args.toList c.argTypes.toList = some ds) (hv : D.toVs (ds ++ caps) = some vargs)
    (e1 : renD (· + nx) d0 = d1) (e2 : upsN nx 0 L0 = U1) (hK : K d1 U1 (nwN nx L0.length)) : CallOp T o E H nx K := by
  subst e1 e2; exact call_new hC ho hc hx hargs hv hK
theorem call_newED {o : Oper} {E : Nat → Option D} {H : Nat → Ob} {nx : Nat} {K : KT} {c : Call} {x : Operand} {ds caps : List D} {vargs : List V} {d0 d1 : D} {L0 : List Ob} {U1 : List (Nat × Ob)} (hC : CallN T f vargs d0 L0) (ho : o.op = .call c) (hc : c.callee = .value x) (hx : callee (ev T E 0 x) = some (f, caps)) (hargs : evL T E c.args.toList c.argTypes.toList = some ds) (hv : D.toVs (ds ++ caps) = some vargs)
    (e1 : renD (· + nx) d0 = d1) (e2 : upsN nx 0 L0 = U1) (hK : K d1 U1 (nwN nx L0.length)) : CallDet T o E H nx K := by
  subst e1 e2; exact call_newD hC ho hc hx hargs hv hK
theorem CallN.weak {d0 : D} {L0 L1 : List Ob} (h : CallN T f args d0 L0) (hl : L1.length = L0.length) (ho : ∀ i, obAt L1 i = .gone ∨ obAt L1 i = obAt L0 i) : CallN T f args d0 L1 := CallD.weak h hl ho
end
end Go.DL
