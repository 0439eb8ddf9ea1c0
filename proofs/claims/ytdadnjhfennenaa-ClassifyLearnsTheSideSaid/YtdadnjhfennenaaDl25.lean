/- DL, part 25: a call that reads objects which nobody writes any more: they become closed data. Own work; no condition. -/
import Derived.Test.YtdadnjhfennenaaDl24
set_option linter.unusedVariables false
set_option linter.unusedSimpArgs false
namespace Go.DL
open Go.RowKit
section
variable {P : Program} {T : Tab P} {f : FuncId} {o : Oper} {E : Nat → Option D} {H : Nat → Ob} {nx : Nat} {K : KT} {c : Call} {x : Operand} {ds caps args : List D} {L : List Ob} {Q : V → Prop} {vargs : List V}
theorem obAt_gone : ∀ (n p : Nat), obAt (List.replicate n .gone) p = .gone
  | 0, p => rfl
  | n + 1, 0 => rfl
  | n + 1, p + 1 => obAt_gone n p
attribute [local semireducible] CallV CallD in
theorem callD_of_callV (hC : CallV T f vargs Q) (hV : DVs (obAt L) args vargs) : CallD T f args L (fun d _ => ∃ r, d = .v r ∧ Q r) := by
  refine ⟨hC.1, fun X ρ w vs hm hg hc hl hob hh => ?_⟩
  let Y : Nat → Prop := fun b => X b ∧ ∀ p s k, ρ p ≠ .live b s k
  have hY : ∀ b, Y b → X b := fun b h => h.1
  obtain ⟨h1, h2⟩ := DVs_cell (Y := Y) hob hY (fun p b s k h hy => hy.2 p s k h) _ _ _ hV hc
  refine (hC.2 Y w vs (fun b hb => hm.lt b hb.1) (fun g cs h => VCell.keep ⟨fun b _ hX hYb => hX (hY b hYb), fun b _ _ => rfl⟩ _ _ (hg g cs h)) h1 (hl.trans h2)).mono ?_
  rintro e w' ⟨r, v, he, hq, hcell, hb⟩
  refine ⟨v, .v r, List.replicate L.length .gone, Y, (fun p => if p < L.length then .dead else .hole), he, ⟨r, rfl, hq⟩, ⟨hb.os, hb.tape, hb.output, hb.size, fun b hlt _ => hb.block b hlt, ?_, fun p h => absurd trivial h, ?_, fun b h => .inl h.1, ?_, ⟨fun b hy => Nat.lt_of_lt_of_le (hm.lt b hy.1) hb.size, ?_, ?_⟩⟩, hcell, (fun p => by rw [obAt_gone]; trivial), ?_⟩
  · intro p
    by_cases hp : p < L.length
    · exact .inr (.inr (by simp [hp]))
    · exact .inl (hh p (by omega))
  · intro b hX
    by_cases hy : ∀ p s k, ρ p ≠ .live b s k
    · exact .inl ⟨hX, hy⟩
    · have : ∃ p s k, ρ p = .live b s k := by
        rcases Classical.em (∃ p s k, ρ p = .live b s k) with h | h
        · exact h
        · exact absurd (fun p s k e => h ⟨p, s, k, e⟩) hy
      obtain ⟨p, s, k, h⟩ := this
      exact .inr ⟨p, s, k, trivial, h⟩
  · intro p b s k h
    split at h <;> cases h
  · intro p b s k h
    split at h <;> cases h
  · intro p q b s k s' k' h
    split at h <;> cases h
  · intro p hp
    simp at hp
    exact if_neg (by omega)
attribute [local semireducible] CallD in
theorem call_eatV_does (φ : List Nat) (hC : CallD T f args L (fun d _ => ∃ r, d = .v r ∧ Q r)) (ho : o.op = .call c) (hc : c.callee = .value x) (hx : callee (ev T E 0 x) = some (f, caps)) (hargs : evL T E c.args.toList c.argTypes.toList = some ds)
    (hren : ds ++ caps = renDs (φ.getD · 0) args) (hlt : refsLts φ.length args = true) (hnd : φ.Nodup) (hlen : φ.length = L.length) (hob : ∀ (i : Nat) p, φ[i]? = some p → obLe φ (H p) (obAt L i)) :
    Does T o E H [] (fun d ups => ∃ r, Q r ∧ d = .v r ∧ ups = φ.map (fun p => (p, Ob.gone))) := by
  intro X ρ w a Q' K' r hn hK'
  obtain ⟨⟨fn, hf, hb, hname⟩, hC⟩ := hC
  cases hx' : ev T E 0 x with
  | none => rw [hx'] at hx; simp [callee] at hx
  | some dx =>
    rw [hx'] at hx
    obtain ⟨us, hv1, hc1, hl1⟩ := callee_val hx (ev_cell r hx')
    obtain ⟨hc2, hl2⟩ := evL_cells r hargs
    have happ : DCells X ρ w (ds ++ caps) (c.args.toList.map a.eval ++ us) := DCells.append (DCells.more hc2) (by rw [← hl2, List.drop_left]; exact hc1)
    rw [hren] at happ
    obtain ⟨h1, h2⟩ := renDs_cell φ args hlt happ
    have live1 : ∀ p b s k, slotsBy φ ρ p = .live b s k → ∃ q, φ[p]? = some q ∧ ρ q = .live b s k := by
      intro p b s k h
      unfold slotsBy at h
      split at h
      · rename_i q hq; exact ⟨q, hq, h⟩
      · cases h
    have hm1 : Mem X (slotsBy φ ρ) w := by
      refine ⟨r.mem.lt, fun p b s k h => ?_, fun p q b s k s' k' h h' => ?_⟩
      · obtain ⟨q, _, h⟩ := live1 p b s k h; exact r.mem.live q b s k h
      · obtain ⟨u, hu, h⟩ := live1 p b s k h
        obtain ⟨v, hv, h'⟩ := live1 q b s' k' h'
        have := r.mem.inj _ _ b _ _ _ _ h h'
        subst this
        have hp : p < φ.length := (List.getElem?_eq_some_iff.1 hu).1
        exact (List.getElem?_inj hp hnd).1 (hu.trans hv.symm)
    unfold Oper.wp
    rw [run_enter ho hc hv1 hf hb hname]
    refine (hC X (slotsBy φ ρ) w _ hm1 r.glob h1 ?_ ?_ ?_).mono ?_
    · rw [← h2, ← hren]; simp [hl2, hl1]
    · intro p
      cases hp : φ[p]? with
      | none =>
        have : L.length ≤ p := by rw [← hlen]; exact List.getElem?_eq_none_iff.1 hp
        rw [obAt_ge this]; trivial
      | some q => exact ob_ren hp (hob p q hp) (r.obs q)
    · intro p hp
      have : φ[p]? = none := List.getElem?_eq_none (by omega)
      simp [slotsBy, this]
    · rintro e w' ⟨v, d, L', X', ρ1', rfl, ⟨y, rfl, hQ⟩, st, hd, hob', hh'⟩
      let ρ' : Nat → Slot := fun q => if q ∈ φ then .dead else ρ q
      have out : ∀ q, q ∉ φ → ρ' q = ρ q := fun q h2 => by simp [ρ', h2]
      have dd : ∀ q, q ∈ φ → ρ' q = .dead := fun q h2 => by simp [ρ', h2]
      have inφ : ∀ {p b z k}, slotsBy φ ρ p = .live b z k → ∃ q ∈ φ, ρ q = .live b z k := fun h => by
        obtain ⟨q, hq, h⟩ := live1 _ _ _ _ h
        exact ⟨q, List.mem_of_getElem? hq, h⟩
      have ups_mem : ∀ q, (q ∈ (φ.map (fun p => (p, Ob.gone))).map (·.1)) ↔ q ∈ φ := by intro q; simp
      have live' : ∀ q b z k, ρ' q = .live b z k → q ∉ φ ∧ ρ q = .live b z k := fun q b z k h => by
        by_cases h2 : q ∈ φ
        · rw [dd q h2] at h; cases h
        · rw [out q h2] at h; exact ⟨h2, h⟩
      refine hK' _ _ v w' X' ρ' ⟨y, hQ, rfl, rfl⟩ ?_ hd ?_
      · refine ⟨st.os, st.tape, st.output, st.size, ?_, ?_, ?_, ?_, st.xout, ?_, ⟨st.mem.lt, ?_, ?_⟩⟩
        · intro b hb hno
          refine st.block b hb fun p z k _ e => ?_
          obtain ⟨q, hq, hq'⟩ := inφ e
          exact hno q z k ((ups_mem q).2 hq) hq'
        · intro q
          by_cases h2 : q ∈ φ
          · exact .inr (.inr (dd q h2))
          · exact .inr (.inl (out q h2))
        · intro q hq
          rw [ups_mem] at hq
          exact out q hq
        · intro b hX
          rcases st.xin b hX with h | ⟨p, z, k, _, h⟩
          · exact .inl h
          · obtain ⟨q, hq, hq'⟩ := inφ h
            exact .inr ⟨q, z, k, (ups_mem q).2 hq, hq'⟩
        · intro q b z k h
          exact .inl ⟨q, z, k, (live' q b z k h).2⟩
        · intro q b z k h
          obtain ⟨h2, h⟩ := live' q b z k h
          rcases st.xin b (r.mem.live q b z k h) with g | ⟨p, z', k', _, g⟩
          · exact g
          · obtain ⟨u, hu, hu'⟩ := inφ g
            exact absurd (r.mem.inj _ _ b _ _ _ _ h hu' ▸ hu) h2
        · intro p q b z k z' k' h h'
          exact r.mem.inj _ _ b _ _ _ _ (live' p b z k h).2 (live' q b z' k' h').2
      · intro y hy
        obtain ⟨p, _, rfl⟩ := List.mem_map.1 hy; trivial
theorem call_eatV (φ : List Nat) (hC : CallD T f args L (fun d _ => ∃ r, d = .v r ∧ Q r)) (ho : o.op = .call c) (hc : c.callee = .value x) (hx : callee (ev T E 0 x) = some (f, caps)) (hargs : evL T E c.args.toList c.argTypes.toList = some ds)
    (hren : ds ++ caps = renDs (φ.getD · 0) args) (hlt : refsLts φ.length args = true) (hnd : φ.Nodup) (hlen : φ.length = L.length) (hob : ∀ (i : Nat) p, φ[i]? = some p → obLe φ (H p) (obAt L i))
    (hK : ∀ r, Q r → K (.v r) (φ.map (fun p => (p, Ob.gone))) []) : CallOp T o E H nx K :=
  CallOp.mk (nw := []) (by simp) (call_eatV_does φ hC ho hc hx hargs hren hlt hnd hlen hob) (fun d ups ⟨r, q, e1, e2⟩ => by subst e1 e2; exact hK r q)
theorem call_eatVD (φ : List Nat) {r0 : V} (hC : CallD T f args L (fun d _ => ∃ r, d = .v r ∧ r = r0)) (ho : o.op = .call c) (hc : c.callee = .value x) (hx : callee (ev T E 0 x) = some (f, caps)) (hargs : evL T E c.args.toList c.argTypes.toList = some ds)
    (hren : ds ++ caps = renDs (φ.getD · 0) args) (hlt : refsLts φ.length args = true) (hnd : φ.Nodup) (hlen : φ.length = L.length) (hob : ∀ (i : Nat) p, φ[i]? = some p → obLe φ (H p) (obAt L i))
    (hK : K (.v r0) (φ.map (fun p => (p, Ob.gone))) []) : CallDet T o E H nx K := by
  refine CallDet.mk (nw := []) (by simp) ?_ hK
  intro X ρ w a Q' K' r hn hK'
  refine call_eatV_does (Q := (· = r0)) φ hC ho hc hx hargs hren hlt hnd hlen hob X ρ w a Q' K' r hn ?_
  rintro d ups v w' X' ρ' ⟨y, rfl, e1, e2⟩ st hcell hobs
  exact hK' d ups v w' X' ρ' ⟨e1, e2⟩ st hcell hobs
end
end Go.DL
