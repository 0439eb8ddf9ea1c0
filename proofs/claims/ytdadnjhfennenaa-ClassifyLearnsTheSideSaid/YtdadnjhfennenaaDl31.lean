/- DL, part 31: a call that works on one object in place. Own work; no condition. -/
import Derived.Test.YtdadnjhfennenaaDl26
set_option linter.unusedVariables false
set_option linter.unusedSimpArgs false
namespace Go.DL
open Go.RowKit
section
variable {P : Program} {T : Tab P} {f : FuncId} {o : Oper} {E : Nat → Option D} {H : Nat → Ob} {nx : Nat} {K : KT} {c : Call} {x : Operand} {ds caps args : List D} {sz : Nat} {xs : List (List V)} {Q : List (List V) → Prop}
/-- The call turns the rows of object 0 into others, and answers nothing. -/
def CallI (T : Tab P) (f : FuncId) (args : List D) (sz : Nat) (xs : List (List V)) (Q : List (List V) → Prop) : Prop :=
  CallD T f args [.arr sz (vrows xs)] fun d L' => d = .tup [] ∧ ∃ ys, Q ys ∧ obAt L' 0 = .arr sz (vrows ys)
attribute [local semireducible] CallD in
theorem call_inp_does (p : Nat) (hC : CallI T f args sz xs Q) (ho : o.op = .call c) (hc : c.callee = .value x) (hx : callee (ev T E 0 x) = some (f, caps)) (hargs : evL T E c.args.toList c.argTypes.toList = some ds)
    (hren : ds ++ caps = renDs ([p].getD · 0) args) (hlt : refsLts 1 args = true) (hob : obLe [p] (H p) (.arr sz (vrows xs))) :
    Does T o E H [] (fun d ups => d = .tup [] ∧ ∃ ys, Q ys ∧ ups = [(p, .arr sz (vrows ys))]) := by
  intro X ρ w a Q' K' r hn hK'
  obtain ⟨⟨fn, hf, hb, hname⟩, hC⟩ := hC
  cases hx' : ev T E 0 x with
  | none => rw [hx'] at hx; simp [callee] at hx
  | some dx =>
    rw [hx'] at hx
    obtain ⟨us, hv1, hc1, hl1⟩ := callee_val hx (ev_cell r hx')
    obtain ⟨hc2, hl2⟩ := evL_cells r hargs
    have happ : DCells X ρ w (ds ++ caps) (c.args.toList.map a.eval ++ us) := DCells.append (DCells.more hc2) (by rw [← hl2, List.drop_left]; exact hc1)
    rw [hren] at happ
    obtain ⟨h1, h2⟩ := renDs_cell [p] args hlt happ
    have s0 : slotsBy [p] ρ 0 = ρ p := rfl
    have s1 : ∀ q, slotsBy [p] ρ (q + 1) = .hole := fun q => rfl
    have live1 : ∀ q b s k, slotsBy [p] ρ q = .live b s k → q = 0 ∧ ρ p = .live b s k := by
      intro q b s k h
      cases q with
      | zero => exact ⟨rfl, h⟩
      | succ q => rw [s1] at h; cases h
    have hm1 : Mem X (slotsBy [p] ρ) w := by
      refine ⟨r.mem.lt, fun q b s k h => ?_, fun q q' b s k s' k' h h' => ?_⟩
      · obtain ⟨_, h⟩ := live1 q b s k h; exact r.mem.live p b s k h
      · rw [(live1 q b s k h).1, (live1 q' b s' k' h').1]
    have hob0 : ObOK X (slotsBy [p] ρ) w 0 (.arr sz (vrows xs)) := ob_ren rfl hob (r.obs p)
    unfold Oper.wp
    rw [run_enter ho hc hv1 hf hb hname]
    refine (hC X (slotsBy [p] ρ) w _ hm1 r.glob h1 ?_ ?_ ?_).mono ?_
    · rw [← h2, ← hren]; simp [hl2, hl1]
    · intro q
      cases q with
      | zero => exact hob0
      | succ q => trivial
    · intro q hq
      cases q with
      | zero => simp at hq
      | succ q => rfl
    · rintro e w' ⟨v, d, L', X', ρ1', rfl, ⟨rfl, ys, hQ, hL⟩, st, hd, hob', hh'⟩
      have h0 := hob' 0
      rw [hL] at h0
      have hsame : ρ1' 0 = ρ p := by
        rcases st.slots 0 with h | h | h
        · obtain ⟨_, _, _, h3⟩ := hob0
          rw [h] at h3; exact h3.elim
        · exact h
        · obtain ⟨_, _, _, h3⟩ := h0
          rw [h] at h3; exact h3.elim
      refine hK' _ _ v w' X' ρ ⟨rfl, ys, hQ, rfl⟩ ?_ ?_ ?_
      · refine ⟨st.os, st.tape, st.output, st.size, ?_, fun q => .inr (.inl rfl), fun q _ => rfl, ?_, st.xout, fun q b z k h => .inl ⟨q, z, k, h⟩, ⟨st.mem.lt, ?_, r.mem.inj⟩⟩
        · intro b hb hno
          refine st.block b hb fun q z k _ e => ?_
          obtain ⟨_, hq'⟩ := live1 _ _ _ _ e
          exact hno p z k (by simp) hq'
        · intro b hX
          rcases st.xin b hX with h | ⟨q, z, k, _, h⟩
          · exact .inl h
          · obtain ⟨_, hq'⟩ := live1 _ _ _ _ h
            exact .inr ⟨p, z, k, by simp, hq'⟩
        · intro q b z k h
          rcases st.xin b (r.mem.live q b z k h) with g | ⟨q', z', k', _, g⟩
          · exact g
          · obtain ⟨_, hu'⟩ := live1 _ _ _ _ g
            have := r.mem.inj _ _ b _ _ _ _ h hu'
            subst this
            exact st.mem.live 0 b z k (by rw [hsame]; exact h)
      · unfold DCell at hd ⊢
        obtain ⟨vs, e1, e2, e3⟩ := hd
        refine ⟨vs, e1, e2, ?_⟩
        cases vs with
        | nil => exact e3
        | cons => simp at e2
      · intro y hy
        simp at hy
        subst hy
        obtain ⟨z0, z1, z2, z3⟩ := h0
        refine ⟨z0, z1, z2, ?_⟩
        rw [hsame] at z3
        cases hq : ρ p with
        | live b z k =>
          simp only [hq] at z3 ⊢
          obtain ⟨a1, a2, a3, cs, t, fr, b1, b2, b3, b4⟩ := z3
          exact ⟨a1, a2, a3, cs, t, fr, b1, b2, b3, VRows.toD (sz := sz) (fun q hq => by
            have := (z1 _ (List.mem_map.2 ⟨q, hq, rfl⟩)).1
            simpa using this) (DRows.toV b4)⟩
        | null => simp only [hq] at z3 ⊢; exact z3
        | hole => simp only [hq] at z3
        | dead => simp only [hq] at z3
theorem call_inp (p : Nat) (hC : CallI T f args sz xs Q) (ho : o.op = .call c) (hc : c.callee = .value x) (hx : callee (ev T E 0 x) = some (f, caps)) (hargs : evL T E c.args.toList c.argTypes.toList = some ds)
    (hren : ds ++ caps = renDs ([p].getD · 0) args) (hlt : refsLts 1 args = true) (hob : obLe [p] (H p) (.arr sz (vrows xs)))
    (hK : ∀ ys, Q ys → K (.tup []) [(p, .arr sz (vrows ys))] []) : CallOp T o E H nx K :=
  CallOp.mk (nw := []) (by simp) (call_inp_does p hC ho hc hx hargs hren hlt hob) (fun d ups ⟨e1, ys, q, e2⟩ => by subst e1 e2; exact hK ys q)
theorem call_inpD (p : Nat) {ys : List (List V)} (hC : CallI T f args sz xs (· = ys)) (ho : o.op = .call c) (hc : c.callee = .value x) (hx : callee (ev T E 0 x) = some (f, caps)) (hargs : evL T E c.args.toList c.argTypes.toList = some ds)
    (hren : ds ++ caps = renDs ([p].getD · 0) args) (hlt : refsLts 1 args = true) (hob : obLe [p] (H p) (.arr sz (vrows xs)))
    (hK : K (.tup []) [(p, .arr sz (vrows ys))] []) : CallDet T o E H nx K := by
  refine CallDet.mk (nw := []) (by simp) ?_ hK
  intro X ρ w a Q' K' r hn hK'
  refine call_inp_does (Q := (· = ys)) p hC ho hc hx hargs hren hlt hob X ρ w a Q' K' r hn ?_
  rintro d ups v w' X' ρ' ⟨e1, y, rfl, e2⟩ st hcell hobs
  exact hK' d ups v w' X' ρ' ⟨e1, e2⟩ st hcell hobs
end
end Go.DL
