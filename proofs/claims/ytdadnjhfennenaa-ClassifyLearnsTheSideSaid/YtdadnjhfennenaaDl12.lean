/- DL, part 12: calls that take objects and give a fresh slice; further built-in operations. Own work; no condition. -/
import Derived.Test.YtdadnjhfennenaaDl11
set_option linter.unusedVariables false
set_option linter.unusedSimpArgs false
namespace Go.DL
open Go.RowKit

section
variable {P : Program} {T : Tab P}

attribute [local semireducible] CallOp in
theorem CallOp.std {o : Oper} {E : Nat → Option D} {H : Nat → Ob} {nx : Nat} {K : KT} (h : opD T E H nx o K) : CallOp T o E H nx K := by
  obtain ⟨d, ups, nw, hJ, hnw, hdoes⟩ := opD_does h
  exact ⟨nw, Just d ups, fun p hp => by rw [hnw p hp]; exact Nat.le_refl _, hdoes, fun d' u' ⟨e1, e2⟩ => by subst e1 e2; exact hJ⟩
attribute [local semireducible] CallDet in
theorem CallDet.std {o : Oper} {E : Nat → Option D} {H : Nat → Ob} {nx : Nat} {K : KT} (h : opD T E H nx o fun d ups nw => nwIn nw ups (K d ups nw)) : CallDet T o E H nx K := by
  obtain ⟨d, ups, nw, hJ, hnw, hdoes⟩ := opD_does h
  obtain ⟨hK, hin⟩ := nwIn_out hJ
  exact ⟨d, ups, nw, fun p hp => ⟨by rw [hnw p hp]; exact Nat.le_refl _, hin p hp⟩, hdoes, hK⟩
attribute [local semireducible] CallOp in
theorem CallOp.mk {o : Oper} {E : Nat → Option D} {H : Nat → Ob} {nx : Nat} {K : KT} {nw : List Nat} {R : D → List (Nat × Ob) → Prop} (hn : ∀ p ∈ nw, nx ≤ p) (h : Does T o E H nw R) (hK : ∀ d ups, R d ups → K d ups nw) : CallOp T o E H nx K :=
  ⟨nw, R, hn, h, hK⟩
attribute [local semireducible] CallDet in
theorem CallDet.mk {o : Oper} {E : Nat → Option D} {H : Nat → Ob} {nx : Nat} {K : KT} {nw : List Nat} {d : D} {ups : List (Nat × Ob)} (hn : ∀ p ∈ nw, nx ≤ p ∧ p ∈ ups.map (·.1)) (h : Does T o E H nw (Just d ups)) (hK : K d ups nw) : CallDet T o E H nx K :=
  ⟨d, ups, nw, hn, h, hK⟩

/-! ##### a fresh slice from a call -/
def CallE (T : Tab P) (f : FuncId) (args : List D) (L : List Ob) (sz : Nat) (Q : List (List V) → Prop) : Prop :=
  CallD T f args L fun d L' => ∃ xs, Q xs ∧ ((∃ p rows, d = .arr p 0 xs.length ∧ obAt L' p = .arr sz rows ∧ rows.take xs.length = xs.map fun r => r.map .v) ∨ (xs = [] ∧ d = .v (.sl sz true [])))
theorem ob_ren {X : Nat → Prop} {ρ : Nat → Slot} {w : World} {th : List Nat} {p q : Nat} {x y : Ob} (hp : th[p]? = some q) (hx : obLe th x y) (h : ObOK X ρ w q x) : ObOK X (slotsBy th ρ) w p y := by
  have hs : slotsBy th ρ p = ρ q := by simp [slotsBy, hp]
  cases y with
  | gone => trivial
  | cap q' c' =>
    cases x with
    | gone => exact hx.elim
    | arr sz rows => exact hx.elim
    | cap q1 c1 =>
      obtain ⟨h1, rfl, rfl⟩ := hx
      show slotsBy th ρ q' ≠ .hole ∧ (slotsBy th ρ q' = .null → c1 = 0) ∧ ∀ b s k, slotsBy th ρ q' = .live b s k → k = c1
      rw [slotsBy_lt h1]
      exact h
  | arr sz rows =>
    cases x with
    | gone => exact hx.elim
    | cap q1 c1 => exact hx.elim
    | arr sz' rows' =>
      obtain ⟨rfl, rfl, hall⟩ := hx
      obtain ⟨h0, h1, h2, h3⟩ := h
      have hlenr : ∀ {r : List D}, (renDs (th.getD · 0) r).length = r.length := by
        intro r; induction r with
        | nil => rfl
        | cons d ds ih => simp only [renDs, List.length_cons, ih]
      have hone : ∀ {d : D}, (renD (th.getD · 0) d).one = d.one := by intro d; cases d <;> rfl
      have hones : ∀ {r : List D}, (renDs (th.getD · 0) r).all D.one = r.all D.one := by
        intro r; induction r with
        | nil => rfl
        | cons d ds ih => simp only [renDs, List.all_cons, hone, ih]
      have hrows : ∀ {rows : List (List D)} {vs : List Value}, rows.all (refsLts th.length) = true → DRows X ρ w (rows.map (renDs (th.getD · 0))) vs → DRows X (slotsBy th ρ) w rows vs := by
        intro rows
        induction rows with
        | nil => intro vs _ _; trivial
        | cons r rs ih =>
          intro vs ha hr
          simp only [List.all_cons, Bool.and_eq_true] at ha
          obtain ⟨h1, h2⟩ := renDs_cell th r ha.1 hr.1
          refine ⟨h1, ih ha.2 ?_⟩
          have := hr.2
          rwa [h2] at this
      refine ⟨h0, ?_, by simpa using h2, ?_⟩
      · intro r hr
        have := h1 _ (List.mem_map.2 ⟨r, hr, rfl⟩)
        rw [hlenr, hones] at this
        exact this
      · rw [hs]
        cases hq : ρ q with
        | live b s cap =>
          simp only [hq] at h3 ⊢
          obtain ⟨a1, a2, a3, cs, t, fr, b1, b2, b3, b4⟩ := h3
          exact ⟨a1, by simpa using a2, a3, cs, t, fr, b1, b2, b3, hrows hall b4⟩
        | null => simp only [hq] at h3 ⊢; simpa using h3
        | hole => simp only [hq] at h3
        | dead => simp only [hq] at h3
section
variable {o : Oper} {E : Nat → Option D} {H : Nat → Ob} {nx : Nat} {K : KT} {c : Call} {x : Operand} {f : FuncId} {ds caps args : List D} {L : List Ob} {sz : Nat} {Q : List (List V) → Prop}
attribute [local semireducible] CallD in
theorem call_eat_does (φ : List Nat) (hC : CallE T f args L sz Q) (ho : o.op = .call c) (hc : c.callee = .value x) (hx : callee (ev T E 0 x) = some (f, caps)) (hargs : evL T E c.args.toList c.argTypes.toList = some ds)
    (hren : ds ++ caps = renDs (φ.getD · 0) args) (hlt : refsLts φ.length args = true) (hnd : φ.Nodup) (hlen : φ.length = L.length) (hnx : nx ∉ φ) (hob : ∀ (i : Nat) p, φ[i]? = some p → obLe φ (H p) (obAt L i)) :
    Does T o E H [nx] (fun d ups => ∃ xs, Q xs ∧ d = .arr nx 0 xs.length ∧ ups = φ.map (fun p => (p, Ob.gone)) ++ [(nx, .arr sz (xs.map fun r => r.map .v))]) := by
  intro X ρ w a Q' K' r hn hK'
  have hnx0 : ρ nx = .hole := hn nx (by simp)
  obtain ⟨⟨fn, hf, hb, hname⟩, hC⟩ := hC
  cases hx' : ev T E 0 x with
  | none => rw [hx'] at hx; simp [callee] at hx
  | some dx =>
    rw [hx'] at hx
    obtain ⟨us, hv1, hc1, hl1⟩ := callee_val hx (ev_cell r hx')
    obtain ⟨hc2, hl2⟩ := evL_cells r hargs
    have happ : DCells X ρ w (ds ++ caps) (c.args.toList.map a.eval ++ us) := DCells.append (DCells.more hc2) (by rw [← hl2, List.drop_left]; exact hc1)
    rw [hren] at happ
    obtain ⟨h1, h2⟩ := renDs_cell φ args hlt happ
    have live1 : ∀ p b s k, slotsBy φ ρ p = .live b s k → ∃ q, φ[p]? = some q ∧ ρ q = .live b s k := by
      intro p b s k h
      unfold slotsBy at h
      split at h
      · rename_i q hq; exact ⟨q, hq, h⟩
      · cases h
    have hm1 : Mem X (slotsBy φ ρ) w := by
      refine ⟨r.mem.lt, fun p b s k h => ?_, fun p q b s k s' k' h h' => ?_⟩
      · obtain ⟨q, _, h⟩ := live1 p b s k h; exact r.mem.live q b s k h
      · obtain ⟨u, hu, h⟩ := live1 p b s k h
        obtain ⟨v, hv, h'⟩ := live1 q b s' k' h'
        have := r.mem.inj _ _ b _ _ _ _ h h'
        subst this
        have hp : p < φ.length := (List.getElem?_eq_some_iff.1 hu).1
        exact (List.getElem?_inj hp hnd).1 (hu.trans hv.symm)
    unfold Oper.wp
    rw [run_enter ho hc hv1 hf hb hname]
    refine (hC X (slotsBy φ ρ) w _ hm1 r.glob h1 ?_ ?_ ?_).mono ?_
    · rw [← h2, ← hren]; simp [hl2, hl1]
    · intro p
      cases hp : φ[p]? with
      | none =>
        have : L.length ≤ p := by rw [← hlen]; exact List.getElem?_eq_none_iff.1 hp
        rw [obAt_ge this]; trivial
      | some q => exact ob_ren hp (hob p q hp) (r.obs q)
    · intro p hp
      have : φ[p]? = none := List.getElem?_eq_none (by omega)
      simp [slotsBy, this]
    · rintro e w' ⟨v, d, L', X', ρ1', rfl, ⟨xs, hQ, hres⟩, st, hd, hob', hh'⟩
      -- where the result lies
      obtain ⟨s, hs1, hs2, hs3⟩ : ∃ s : Slot, (∀ b z k, s = .live b z k → ∃ p, ρ1' p = .live b z k) ∧ (∀ ρ' : Nat → Slot, ρ' nx = s → DCell X' ρ' w' (.arr nx 0 xs.length) v) ∧ (∀ ρ' : Nat → Slot, ρ' nx = s → ObOK X' ρ' w' nx (.arr sz (xs.map fun r => r.map .v))) := by
        rcases hres with ⟨p, rows, rfl, hLp, htake⟩ | ⟨rfl, rfl⟩
        · have hobp := hob' p
          rw [hLp] at hobp
          obtain ⟨z0, z1, z2, z3⟩ := hobp
          have hrow : ∀ q ∈ xs.map (fun q => q.map D.v), q.length = sz ∧ q.all D.one = true := by
            intro q hq
            rw [← htake] at hq
            exact z1 q (List.mem_of_mem_take hq)
          have hlx : xs.length ≤ rows.length := by
            have := congrArg List.length htake
            simp at this; omega
          refine ⟨ρ1' p, fun b z k e => ⟨p, e⟩, fun ρ' e => ?_, fun ρ' e => ?_⟩
          · unfold DCell at hd ⊢
            rw [e]; exact hd
          · refine ⟨z0, hrow, by simp; omega, ?_⟩
            rw [e]
            cases hq : ρ1' p with
            | live b z k =>
              simp only [hq] at z3 ⊢
              obtain ⟨a1, a2, a3, cs, t, fr, b1, b2, b3, b4⟩ := z3
              refine ⟨a1, by simp; omega, a3, cs, t, fr, b1, b2, b3, ?_⟩
              have := DRows.take xs.length b4
              rw [htake] at this
              exact VRows.toD (sz := sz) (fun q hq => by
                have := (hrow _ (List.mem_map.2 ⟨q, hq, rfl⟩)).1
                simpa using this) (DRows.toV this)
            | null =>
              simp only [hq] at z3 ⊢
              subst z3
              simp at hlx
              simp [hlx]
            | hole => simp only [hq] at z3
            | dead => simp only [hq] at z3
        · refine ⟨.null, by simp, fun ρ' e => ?_, fun ρ' e => ?_⟩
          · unfold DCell VCell at hd
            obtain ⟨z0, _, _, hz, _⟩ := hd
            obtain ⟨A, hA⟩ := hz rfl
            unfold DCell
            rw [e]
            exact ⟨⟨A, hA⟩, rfl, rfl⟩
          · unfold DCell VCell at hd
            obtain ⟨z0, _⟩ := hd
            refine ⟨z0, by simp, by simp, ?_⟩
            rw [e]; rfl
      let ρ' : Nat → Slot := fun q => if q = nx then s else if q ∈ φ then .dead else ρ q
      have hrn : ρ' nx = s := by simp [ρ']
      have out : ∀ q, q ≠ nx → q ∉ φ → ρ' q = ρ q := fun q h1 h2 => by simp [ρ', h1, h2]
      have dd : ∀ q, q ≠ nx → q ∈ φ → ρ' q = .dead := fun q h1 h2 => by simp [ρ', h1, h2]
      have inφ : ∀ {p b z k}, slotsBy φ ρ p = .live b z k → ∃ q ∈ φ, ρ q = .live b z k := fun h => by
        obtain ⟨q, hq, h⟩ := live1 _ _ _ _ h
        exact ⟨q, List.mem_of_getElem? hq, h⟩
      have src' : ∀ {b z k}, s = .live b z k → (∃ q ∈ φ, ∃ z' k', ρ q = .live b z' k') ∨ w.heap.size ≤ b := by
        intro b z k h
        obtain ⟨p, hp⟩ := hs1 b z k h
        rcases st.src p b z k hp with ⟨q, z', k', hq⟩ | h
        · obtain ⟨u, hu, hu'⟩ := inφ hq
          exact .inl ⟨u, hu, z', k', hu'⟩
        · exact .inr h
      have ups_mem : ∀ q, (q ∈ (φ.map (fun p => (p, Ob.gone)) ++ [(nx, Ob.arr sz (xs.map fun r => r.map .v))]).map (·.1)) ↔ (q ∈ φ ∨ q = nx) := by
        intro q; simp
      refine hK' _ _ v w' X' ρ' ⟨xs, hQ, rfl, rfl⟩ ?_ (hs2 ρ' hrn) ?_
      · refine ⟨st.os, st.tape, st.output, st.size, ?_, ?_, ?_, ?_, st.xout, ?_, ⟨st.mem.lt, ?_, ?_⟩⟩
        · intro b hb hno
          refine st.block b hb fun p z k _ e => ?_
          obtain ⟨q, hq, hq'⟩ := inφ e
          exact hno q z k ((ups_mem q).2 (.inl hq)) hq'
        · intro q
          by_cases h1 : q = nx
          · subst h1; exact .inl hnx0
          · by_cases h2 : q ∈ φ
            · exact .inr (.inr (dd q h1 h2))
            · exact .inr (.inl (out q h1 h2))
        · intro q hq
          rw [ups_mem] at hq
          exact out q (fun e => hq (.inr e)) (fun e => hq (.inl e))
        · intro b hX
          rcases st.xin b hX with h | ⟨p, z, k, _, h⟩
          · exact .inl h
          · obtain ⟨q, hq, hq'⟩ := inφ h
            exact .inr ⟨q, z, k, (ups_mem q).2 (.inl hq), hq'⟩
        · intro q b z k h
          by_cases h1 : q = nx
          · subst h1
            rw [hrn] at h
            rcases src' h with ⟨u, _, z', k', hu⟩ | h
            · exact .inl ⟨u, z', k', hu⟩
            · exact .inr h
          · by_cases h2 : q ∈ φ
            · rw [dd q h1 h2] at h; cases h
            · rw [out q h1 h2] at h; exact .inl ⟨q, z, k, h⟩
        · intro q b z k h
          by_cases h1 : q = nx
          · subst h1
            rw [hrn] at h
            obtain ⟨p, hp⟩ := hs1 b z k h
            exact st.mem.live p b z k hp
          · by_cases h2 : q ∈ φ
            · rw [dd q h1 h2] at h; cases h
            · rw [out q h1 h2] at h
              rcases st.xin b (r.mem.live q b z k h) with g | ⟨p, z', k', _, g⟩
              · exact g
              · obtain ⟨u, hu, hu'⟩ := inφ g
                exact absurd (r.mem.inj _ _ b _ _ _ _ h hu' ▸ hu) h2
        · have one : ∀ q b z k z' k', q ≠ nx → ρ' q = .live b z k → s = .live b z' k' → False := by
            intro q b z k z' k' h1 h hs
            by_cases h2 : q ∈ φ
            · rw [dd q h1 h2] at h; cases h
            · rw [out q h1 h2] at h
              rcases src' hs with ⟨u, hu, z2, k2, hu'⟩ | g
              · exact h2 (r.mem.inj _ _ b _ _ _ _ h hu' ▸ hu)
              · have := r.mem.lt b (r.mem.live q b z k h); omega
          intro p q b z k z' k' h h'
          by_cases hp : p = nx
          · by_cases hq : q = nx
            · rw [hp, hq]
            · subst hp; rw [hrn] at h; exact (one q b z' k' z k hq h' h).elim
          · by_cases hq : q = nx
            · subst hq; rw [hrn] at h'; exact (one p b z k z' k' hp h h').elim
            · have g : ∀ u z k, u ≠ nx → ρ' u = .live b z k → ρ u = .live b z k := by
                intro u z k hu h
                by_cases h2 : u ∈ φ
                · rw [dd u hu h2] at h; cases h
                · rwa [out u hu h2] at h
              exact r.mem.inj _ _ b _ _ _ _ (g p z k hp h) (g q z' k' hq h')
      · intro y hy
        rcases List.mem_append.1 hy with hy | hy
        · obtain ⟨p, _, rfl⟩ := List.mem_map.1 hy; trivial
        · simp at hy; subst hy; exact hs3 ρ' hrn
theorem call_eat (φ : List Nat) (hC : CallE T f args L sz Q) (ho : o.op = .call c) (hc : c.callee = .value x) (hx : callee (ev T E 0 x) = some (f, caps)) (hargs : evL T E c.args.toList c.argTypes.toList = some ds)
    (hren : ds ++ caps = renDs (φ.getD · 0) args) (hlt : refsLts φ.length args = true) (hnd : φ.Nodup) (hlen : φ.length = L.length) (hnx : nx ∉ φ) (hob : ∀ (i : Nat) p, φ[i]? = some p → obLe φ (H p) (obAt L i))
    (hK : ∀ xs, Q xs → K (.arr nx 0 xs.length) (φ.map (fun p => (p, Ob.gone)) ++ [(nx, .arr sz (xs.map fun r => r.map .v))]) [nx]) : CallOp T o E H nx K :=
  CallOp.mk (nw := [nx]) (by simp) (call_eat_does φ hC ho hc hx hargs hren hlt hnd hlen hnx hob) (fun d ups ⟨xs, q, e1, e2⟩ => by subst e1 e2; exact hK xs q)
theorem call_eatD (φ : List Nat) {xs0 : List (List V)} (hC : CallE T f args L sz (· = xs0)) (ho : o.op = .call c) (hc : c.callee = .value x) (hx : callee (ev T E 0 x) = some (f, caps)) (hargs : evL T E c.args.toList c.argTypes.toList = some ds)
    (hren : ds ++ caps = renDs (φ.getD · 0) args) (hlt : refsLts φ.length args = true) (hnd : φ.Nodup) (hlen : φ.length = L.length) (hnx : nx ∉ φ) (hob : ∀ (i : Nat) p, φ[i]? = some p → obLe φ (H p) (obAt L i))
    (hK : K (.arr nx 0 xs0.length) (φ.map (fun p => (p, Ob.gone)) ++ [(nx, .arr sz (xs0.map fun r => r.map .v))]) [nx]) : CallDet T o E H nx K := by
  refine CallDet.mk (nw := [nx]) (by simp) ?_ hK
  intro X ρ w a Q' K' r hn hK'
  refine call_eat_does φ hC ho hc hx hargs hren hlt hnd hlen hnx hob X ρ w a Q' K' r hn ?_
  rintro d ups v w' X' ρ' ⟨xs, rfl, e1, e2⟩ st hcell hobs
  exact hK' d ups v w' X' ρ' ⟨e1, e2⟩ st hcell hobs

end
end
end Go.DL
