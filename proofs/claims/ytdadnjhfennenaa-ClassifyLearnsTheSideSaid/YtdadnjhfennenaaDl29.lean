/- DL, part 29: a function that answers with one of its arguments. Own work; no condition. -/
import Derived.Test.YtdadnjhfennenaaDl28
set_option linter.unusedVariables false
set_option linter.unusedSimpArgs false
namespace Go.DL
open Go.RowKit
section
variable {P : Program} {T : Tab P} {o : Oper} {E : Nat → Option D} {H : Nat → Ob} {nx : Nat} {K : KT} {c : Call} {f : FuncId} {x : Operand} {d1 d2 : D} {b : Bool}
attribute [local semireducible] CallV in
theorem call_sel_does (hC : ∀ u1 u2 : Value, CallV T f [.raw u1, .raw u2, .bool b] (· = .raw (if b then u2 else u1))) (ho : o.op = .call c) (hc : c.callee = .value x) (hx : callee (ev T E 0 x) = some (f, [])) (hargs : evL T E c.args.toList c.argTypes.toList = some [d1, d2, .v (.bool b)]) :
    Does T o E H [] (fun d ups => ups = [] ∧ d = if b then d2 else d1) := by
  intro X ρ w a Q' K' r _ hK'
  cases hx' : ev T E 0 x with
  | none => rw [hx'] at hx; simp [callee] at hx
  | some dx =>
    rw [hx'] at hx
    obtain ⟨us, hv1, hc1, hl1⟩ := callee_val hx (ev_cell r hx')
    have hus : us = [] := List.length_eq_zero_iff.1 (by simpa using hl1)
    subst hus
    obtain ⟨hc2, hl2⟩ := evL_cells r hargs
    match hvs : c.args.toList.map a.eval, hl2 with
    | [v1, v2, v3], _ =>
      rw [hvs] at hc2
      obtain ⟨k1, k2, k3, _⟩ := hc2
      obtain ⟨⟨fn, hf, hb, hn⟩, hC'⟩ := hC v1 v2
      unfold Oper.wp
      rw [run_enter ho hc hv1 hf hb hn, hvs]
      refine (hC' X w [v1, v2, v3] r.mem.lt r.glob ⟨rfl, rfl, k3, trivial⟩ rfl).mono ?_
      rintro e w' ⟨q, v, rfl, rfl, hcell, hbel⟩
      have hv : v = if b then v2 else v1 := hcell
      refine hK' (if b then d2 else d1) [] v w' X ρ ⟨rfl, rfl⟩ (below_step r.mem hbel) ?_ (by simp)
      have st := below_step r.mem hbel
      rw [hv]
      cases b with
      | true => exact DCell.keep (st.keeps r.mem) st.slots _ _ k2
      | false => exact DCell.keep (st.keeps r.mem) st.slots _ _ k1
theorem call_sel (hC : ∀ u1 u2 : Value, CallV T f [.raw u1, .raw u2, .bool b] (· = .raw (if b then u2 else u1))) (ho : o.op = .call c) (hc : c.callee = .value x) (hx : callee (ev T E 0 x) = some (f, [])) (hargs : evL T E c.args.toList c.argTypes.toList = some [d1, d2, .v (.bool b)])
    (hK : K (if b then d2 else d1) [] []) : CallOp T o E H nx K :=
  CallOp.mk (nw := []) (by simp) (call_sel_does hC ho hc hx hargs) (fun d ups ⟨e1, e2⟩ => by subst e1 e2; exact hK)
theorem call_selD (hC : ∀ u1 u2 : Value, CallV T f [.raw u1, .raw u2, .bool b] (· = .raw (if b then u2 else u1))) (ho : o.op = .call c) (hc : c.callee = .value x) (hx : callee (ev T E 0 x) = some (f, [])) (hargs : evL T E c.args.toList c.argTypes.toList = some [d1, d2, .v (.bool b)])
    (hK : K (if b then d2 else d1) [] []) : CallDet T o E H nx K := by
  refine CallDet.mk (nw := []) (d := if b then d2 else d1) (ups := []) (by simp) ?_ hK
  intro X ρ w a Q' K' r hn hK'
  refine call_sel_does hC ho hc hx hargs X ρ w a Q' K' r hn ?_
  rintro d ups v w' X' ρ' ⟨e1, e2⟩ st hcell hobs
  exact hK' d ups v w' X' ρ' ⟨e2, e1⟩ st hcell hobs
end
end Go.DL
