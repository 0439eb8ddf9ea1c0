/- DL, part 38: a call that reads objects whose rows hold objects. Own work; no condition. -/
import Derived.Test.YtacpahgoomdfaaaDoorDC
set_option linter.unusedVariables false
set_option linter.unusedSimpArgs false
namespace Go.DL
open Go.RowKit
section
variable {P : Program} {T : Tab P} {o : Oper} {E : Nat → Option D} {H : Nat → Ob} {nx : Nat} {K : KT} {c : Call} {f : FuncId} {x : Operand} {ds caps args : List D} {L : List Ob} {sz : Nat} {Q : List (List V) → Prop}
attribute [local semireducible] CallV in
theorem call_rw_does {vargs : List V} {r0 : V} (hC : CallV T f vargs (· = r0)) (ho : o.op = .call c) (hc : c.callee = .value x) (hx : callee (ev T E 0 x) = some (f, caps)) (hargs : evL T E c.args.toList c.argTypes.toList = some ds) (hv : DWs H (ds ++ caps) vargs)
    (hflat : r0.safe = true) : Does T o E H [] (fun d ups => ups = [] ∧ d = .v r0) := by
  intro X ρ w a Q' K' r _ hK'
  obtain ⟨⟨fn, hf, hb, hn⟩, hC⟩ := hC
  cases hx' : ev T E 0 x with
  | none => rw [hx'] at hx; simp [callee] at hx
  | some dx =>
    rw [hx'] at hx
    obtain ⟨us, hv1, hc1, hl1⟩ := callee_val hx (ev_cell r hx')
    obtain ⟨hc2, hl2⟩ := evL_cells r hargs
    have happ : DCells X ρ w (ds ++ caps) (c.args.toList.map a.eval ++ us) := DCells.append (DCells.more hc2) (by rw [← hl2, List.drop_left]; exact hc1)
    obtain ⟨h1, h2⟩ := DWs_cell (Y := fun _ => False) r.obs (fun _ h => h.elim) (fun _ _ _ _ _ h => h) _ _ _ hv happ
    unfold Oper.wp
    rw [run_enter ho hc hv1 hf hb hn]
    refine (hC (fun _ => False) w _ (fun _ h => h.elim) (fun g cs h => VCell.keep ⟨fun _ _ _ h => h, fun _ _ _ => rfl⟩ _ _ (r.glob g cs h)) h1 (by rw [← h2]; simp [hl2, hl1])).mono ?_
    rintro e w' ⟨q, v, rfl, rfl, hcell, hbel⟩
    exact hK' (.v q) [] v w' X ρ ⟨rfl, rfl⟩ (below_step r.mem hbel) (V.safe_cell hflat hcell) (by simp)
theorem call_rw {vargs : List V} {r0 : V} (hC : CallV T f vargs (· = r0)) (ho : o.op = .call c) (hc : c.callee = .value x) (hx : callee (ev T E 0 x) = some (f, caps)) (hargs : evL T E c.args.toList c.argTypes.toList = some ds) (hv : DWs H (ds ++ caps) vargs)
    (hflat : r0.safe = true) (hK : K (.v r0) [] []) : CallOp T o E H nx K :=
  CallOp.mk (nw := []) (by simp) (call_rw_does hC ho hc hx hargs hv hflat) (fun d ups ⟨e1, e2⟩ => by subst e1 e2; exact hK)
theorem call_rwD {vargs : List V} {r0 : V} (hC : CallV T f vargs (· = r0)) (ho : o.op = .call c) (hc : c.callee = .value x) (hx : callee (ev T E 0 x) = some (f, caps)) (hargs : evL T E c.args.toList c.argTypes.toList = some ds) (hv : DWs H (ds ++ caps) vargs)
    (hflat : r0.safe = true) (hK : K (.v r0) [] []) : CallDet T o E H nx K := by
  refine CallDet.mk (nw := []) (d := .v r0) (ups := []) (by simp) ?_ hK
  intro X ρ w a Q' K' r hn hK'
  refine call_rw_does hC ho hc hx hargs hv hflat X ρ w a Q' K' r hn ?_
  rintro d ups v w' X' ρ' ⟨e1, e2⟩ st hcell hobs
  exact hK' d ups v w' X' ρ' ⟨e2, e1⟩ st hcell hobs
end
end Go.DL
