/- DL, part 26: a call that owns some objects and reads others, which stay as they are. Own work; no condition. -/
import Derived.Test.YtdadnjhfennenaaDl25
import Derived.Test.YtdadnjhfennenaaDl22
set_option linter.unusedVariables false
set_option linter.unusedSimpArgs false
namespace Go.DL
open Go.RowKit

mutual
/-- Reading a D as closed data; of what a pointer points to, a first part. -/
def DP (H : Nat → Ob) : D → V → Prop
  | .v x, y => x = y
  | .arr p o n, .sl sz z xs => z = false ∧ ∃ rows, H p = .arr sz rows ∧ (rows.drop o).take n = xs.map (fun r => r.map .v) ∧ xs.length = n
  | .ptr p i j, .iptr cs => ∃ sz rows row rest, H p = .arr sz rows ∧ rows[i]? = some row ∧ row.drop j = cs.map .v ++ rest
  | .agg ds, .agg cs => DPs H ds cs
  | .tup ds, .tup cs => DPs H ds cs
  | .fn f ds, .fn g cs => f = g ∧ DPs H ds cs
  | _, _ => False
def DPs (H : Nat → Ob) : List D → List V → Prop
  | [], [] => True
  | d :: ds, x :: xs => DP H d x ∧ DPs H ds xs
  | _, _ => False
end
theorem DCells.pre {X : Nat → Prop} {ρ : Nat → Slot} {w : World} : ∀ {ds es : List D} {vs : List Value}, DCells X ρ w (ds ++ es) vs → DCells X ρ w ds vs
  | [], _, _, _ => trivial
  | _ :: _, _, [], h => h.elim
  | d :: ds, es, v :: vs, h => ⟨h.1, DCells.pre h.2⟩
mutual
theorem DP_cell {X Y : Nat → Prop} {ρ : Nat → Slot} {w : World} {H : Nat → Ob} (hob : ∀ p, ObOK X ρ w p (H p)) (hY : ∀ b, Y b → X b) (hl : ∀ p b sz cap, H p ≠ .gone → ρ p = .live b sz cap → ¬ Y b) : ∀ (d : D) (x : V) (u : Value), DP H d x → DCell X ρ w d u → VCell Y w x u
  | .v y, x, u, h, c => by
    unfold DP at h; subst h
    exact VCell.keep ⟨fun b _ hX hYb => hX (hY b hYb), fun b _ _ => rfl⟩ _ _ c
  | .arr p o n, .sl sz z xs, u, h, c => by
    unfold DP at h
    obtain ⟨rfl, rows, hp, hx, hn⟩ := h
    have hne : H p ≠ .gone := by rw [hp]; simp
    have ho := hob p
    rw [hp] at ho
    obtain ⟨h0, hr, hm, ho⟩ := ho
    have hone : ∀ r ∈ xs, r.length = sz ∧ r.all V.one = true := by
      intro r hr'
      have : r.map D.v ∈ (rows.drop o).take n := by rw [hx]; exact List.mem_map.2 ⟨r, hr', rfl⟩
      have := hr _ (List.mem_of_mem_drop (List.mem_of_mem_take this))
      exact ⟨by simpa using this.1, all_d this.2⟩
    have hlen : xs.length ≤ rows.length := by
      have := congrArg List.length hx
      simp at this; omega
    unfold DCell at c
    cases hq : ρ p with
    | hole => simp only [hq] at c
    | dead => simp only [hq] at ho
    | null =>
      simp only [hq] at c ho
      obtain ⟨⟨A, rfl⟩, rfl, rfl⟩ := c
      have : xs = [] := List.length_eq_zero_iff.1 hn
      subst this
      exact ⟨h0, by simp, by simp, (fun h => by cases h), A, 0, rfl, by simp, by simp, fun h => absurd rfl h⟩
    | live b s cap =>
      simp only [hq] at c ho
      obtain ⟨rfl, h2, h3, cs, t, fr, hh, hcs, hf, hrr⟩ := ho
      obtain ⟨h4, h5, h6⟩ := c
      by_cases hc : o < cap
      · refine ⟨h0, hone, by omega, (fun h => by cases h), some ⟨b, o * s, none⟩, cap - o, by rw [h5 hc, hn], by omega, by omega, fun _ => ⟨b, o * s, cs, t, fr, rfl, hl p b s cap hne hq, hh, ?_⟩⟩
        have := DRows.take n (DRows.drop o (fun r hr' => (hr r hr').1) hrr)
        rw [hx] at this
        exact VRows.keep ⟨fun b _ hX hYb => hX (hY b hYb), fun b _ _ => rfl⟩ _ _ (DRows.toV this)
      · obtain ⟨A, hA⟩ := h6 (by omega)
        have hn0 : n = 0 := by omega
        have : xs = [] := List.length_eq_zero_iff.1 (by omega)
        subst this
        exact ⟨h0, by simp, by simp, (fun h => by cases h), some A, 0, by rw [hA]; rfl, by simp, by simp, fun h => absurd rfl h⟩
  | .ptr p i j, .iptr cs, u, h, c => by
    unfold DP at h
    obtain ⟨sz, rows, row, rest, hp, hi, hrow⟩ := h
    have hne : H p ≠ .gone := by rw [hp]; simp
    have ho := hob p
    rw [hp] at ho
    obtain ⟨h0, hr, hm, ho⟩ := ho
    unfold DCell at c
    cases hq : ρ p with
    | hole => simp only [hq] at c
    | dead => simp only [hq] at ho
    | null => simp only [hq] at c
    | live b s cap =>
      simp only [hq] at c ho
      obtain ⟨rfl, h2, h3, arr, t, fr, hh, hcs, hf, hrr⟩ := ho
      refine ⟨b, i * s + j, arr, t, fr, c, hl p b s cap hne hq, hh, ?_⟩
      have := DCells.drop j (DRows.get (fun r hr' => (hr r hr').1) hrr hi)
      rw [hrow, List.drop_drop] at this
      exact VCells.keep ⟨fun b _ hX hYb => hX (hY b hYb), fun b _ _ => rfl⟩ _ _ (DCells.toV (DCells.pre this))
  | .agg ds, .agg cs, u, h, c => by
    unfold DP at h
    obtain ⟨vs, hv, hlen, hc⟩ := c
    obtain ⟨h1, h2⟩ := DPs_cell hob hY hl ds cs vs h hc
    exact ⟨vs, hv, hlen.trans h2, h1⟩
  | .tup ds, .tup cs, u, h, c => by
    unfold DP at h
    obtain ⟨vs, hv, hlen, hc⟩ := c
    obtain ⟨h1, h2⟩ := DPs_cell hob hY hl ds cs vs h hc
    exact ⟨vs, hv, hlen.trans h2, h1⟩
  | .fn f ds, .fn g cs, u, h, c => by
    unfold DP at h
    obtain ⟨rfl, h⟩ := h
    obtain ⟨vs, hv, hlen, hc⟩ := c
    obtain ⟨h1, h2⟩ := DPs_cell hob hY hl ds cs vs h hc
    exact ⟨vs, hv, hlen.trans h2, h1⟩
theorem DPs_cell {X Y : Nat → Prop} {ρ : Nat → Slot} {w : World} {H : Nat → Ob} (hob : ∀ p, ObOK X ρ w p (H p)) (hY : ∀ b, Y b → X b) (hl : ∀ p b sz cap, H p ≠ .gone → ρ p = .live b sz cap → ¬ Y b) : ∀ (ds : List D) (xs : List V) (us : List Value), DPs H ds xs → DCells X ρ w ds us → VCells Y w xs us ∧ ds.length = xs.length
  | [], [], us, _, _ => ⟨trivial, rfl⟩
  | [], _ :: _, us, h, _ => by unfold DPs at h; exact h.elim
  | _ :: _, [], us, h, _ => by unfold DPs at h; exact h.elim
  | d :: ds, x :: xs, [], _, c => c.elim
  | d :: ds, x :: xs, u :: us, h, c => by
    unfold DPs at h
    obtain ⟨h1, h2⟩ := DPs_cell hob hY hl ds xs us h.2 c.2
    exact ⟨⟨DP_cell hob hY hl d x u h.1 c.1, h1⟩, by simp [h2]⟩
end
/-- The objects that are read. -/
def HX (H : Nat → Ob) (φ : List Nat) (p : Nat) : Ob := if p ∈ φ then .gone else H p
/-- What is handed over: with references to the objects that are given away, or read as closed data. -/
def Mx (H : Nat → Ob) (φ : List Nat) (d a : D) : Prop := (refsLt φ.length a = true ∧ d = renD (φ.getD · 0) a) ∨ (∃ x, a = .v x ∧ DP (HX H φ) d x)
def MxL (H : Nat → Ob) (φ : List Nat) : List D → List D → Prop
  | [], [] => True
  | d :: ds, a :: as => Mx H φ d a ∧ MxL H φ ds as
  | _, _ => False
theorem MxL_cell {X Y : Nat → Prop} {ρ : Nat → Slot} {w : World} {H : Nat → Ob} {φ : List Nat} (hob : ∀ p, ObOK X ρ w p (H p)) (hY : ∀ b, Y b → X b) (hl : ∀ p b sz cap, p ∉ φ → ρ p = .live b sz cap → ¬ Y b) :
    ∀ (ds as : List D) (us : List Value), MxL H φ ds as → DCells X ρ w ds us → DCells Y (slotsBy φ ρ) w as us ∧ ds.length = as.length
  | [], [], us, _, _ => ⟨trivial, rfl⟩
  | [], _ :: _, us, h, _ => h.elim
  | _ :: _, [], us, h, _ => h.elim
  | d :: ds, a :: as, [], _, c => c.elim
  | d :: ds, a :: as, u :: us, h, c => by
    obtain ⟨h1, h2⟩ := MxL_cell hob hY hl ds as us h.2 c.2
    refine ⟨⟨?_, h1⟩, by simp [h2]⟩
    rcases h.1 with ⟨hlt, rfl⟩ | ⟨x, rfl, hx⟩
    · exact DCell.keep ⟨fun b _ hX hYb => hX (hY b hYb), fun b _ _ => rfl⟩ (Slots.refl _) _ _ (renD_cell φ a hlt c.1)
    · refine DP_cell (H := HX H φ) (fun p => ?_) hY (fun p b sz cap hne hp => ?_) d x u hx c.1
      · unfold HX; split
        · trivial
        · exact hob p
      · unfold HX at hne
        split at hne
        · exact absurd rfl hne
        · exact hl p b sz cap ‹_› hp
theorem ObOK.less {X Y : Nat → Prop} {ρ : Nat → Slot} {w : World} (hY : ∀ b, Y b → X b) {p : Nat} : ∀ {x : Ob}, ObOK X ρ w p x → ObOK Y ρ w p x
  | .gone, _ => trivial
  | .cap .., h => h
  | .arr sz rows, h => by
    obtain ⟨h0, h1, h2, h3⟩ := h
    refine ⟨h0, h1, h2, ?_⟩
    cases hq : ρ p with
    | live b s cap =>
      simp only [hq] at h3 ⊢
      obtain ⟨a1, a2, a3, cs, t, fr, b1, b2, b3, b4⟩ := h3
      exact ⟨a1, a2, a3, cs, t, fr, b1, b2, b3, DRows.keep ⟨fun b _ hX hYb => hX (hY b hYb), fun b _ _ => rfl⟩ (Slots.refl _) _ _ b4⟩
    | null => simp only [hq] at h3 ⊢; exact h3
    | hole => simp only [hq] at h3
    | dead => simp only [hq] at h3
theorem VRows.flat {X X' : Nat → Prop} {w w' : World} : ∀ {xs : List (List V)} {vs : List Value}, (∀ r ∈ xs, V.flats r = true) → VRows X w xs vs → VRows X' w' xs vs
  | [], _, _, _ => trivial
  | r :: rs, vs, h, k => ⟨V.flats_cell r (h r List.mem_cons_self) k.1, VRows.flat (fun x hx => h x (List.mem_cons_of_mem _ hx)) k.2⟩
section
variable {P : Program} {T : Tab P} {o : Oper} {E : Nat → Option D} {H : Nat → Ob} {nx : Nat} {K : KT} {c : Call} {f : FuncId} {x : Operand} {ds caps args : List D} {L : List Ob} {sz : Nat} {Q : List (List V) → Prop}
attribute [local semireducible] CallD in
theorem call_fr_does (φ : List Nat) (hC : CallE T f args L sz Q) (ho : o.op = .call c) (hc : c.callee = .value x) (hx : callee (ev T E 0 x) = some (f, caps)) (hargs : evL T E c.args.toList c.argTypes.toList = some ds)
    (hmx : MxL H φ (ds ++ caps) args) (hfl : ∀ xs, Q xs → ∀ r ∈ xs, V.flats r = true) (hnd : φ.Nodup) (hlen : φ.length = L.length) (hnx : nx ∉ φ) (hob : ∀ (i : Nat) p, φ[i]? = some p → obLe φ (H p) (obAt L i)) :
    Does T o E H [nx] (fun d ups => ∃ xs, Q xs ∧ d = .arr nx 0 xs.length ∧ ups = φ.map (fun p => (p, Ob.gone)) ++ [(nx, .arr sz (xs.map fun r => r.map .v))]) := by
  intro X ρ w a Q' K' r hn hK'
  have hnx0 : ρ nx = .hole := hn nx (by simp)
  obtain ⟨⟨fn, hf, hb, hname⟩, hC⟩ := hC
  cases hx' : ev T E 0 x with
  | none => rw [hx'] at hx; simp [callee] at hx
  | some dx =>
    rw [hx'] at hx
    obtain ⟨us, hv1, hc1, hl1⟩ := callee_val hx (ev_cell r hx')
    obtain ⟨hc2, hl2⟩ := evL_cells r hargs
    have happ : DCells X ρ w (ds ++ caps) (c.args.toList.map a.eval ++ us) := DCells.append (DCells.more hc2) (by rw [← hl2, List.drop_left]; exact hc1)
    let X0 : Nat → Prop := fun b => X b ∧ ∀ p s k, p ∉ φ → ρ p ≠ .live b s k
    have hY : ∀ b, X0 b → X b := fun b h => h.1
    obtain ⟨h1, h2⟩ := MxL_cell (Y := X0) r.obs hY (fun p b s k hp h hb => hb.2 p s k hp h) _ _ _ hmx happ
    have live1 : ∀ p b s k, slotsBy φ ρ p = .live b s k → ∃ q, φ[p]? = some q ∧ ρ q = .live b s k := by
      intro p b s k h
      unfold slotsBy at h
      split at h
      · rename_i q hq; exact ⟨q, hq, h⟩
      · cases h
    have hm1 : Mem X0 (slotsBy φ ρ) w := by
      refine ⟨fun b hb => r.mem.lt b hb.1, fun p b s k h => ?_, fun p q b s k s' k' h h' => ?_⟩
      · obtain ⟨q, hq, h⟩ := live1 p b s k h
        exact ⟨r.mem.live q b s k h, fun p' s' k' hp' h' => hp' (r.mem.inj _ _ b _ _ _ _ h h' ▸ List.mem_of_getElem? hq)⟩
      · obtain ⟨u, hu, h⟩ := live1 p b s k h
        obtain ⟨v, hv, h'⟩ := live1 q b s' k' h'
        have := r.mem.inj _ _ b _ _ _ _ h h'
        subst this
        have hp : p < φ.length := (List.getElem?_eq_some_iff.1 hu).1
        exact (List.getElem?_inj hp hnd).1 (hu.trans hv.symm)
    unfold Oper.wp
    rw [run_enter ho hc hv1 hf hb hname]
    refine (hC X0 (slotsBy φ ρ) w _ hm1 (fun g cs h => VCell.keep ⟨fun b _ hX hYb => hX (hY b hYb), fun b _ _ => rfl⟩ _ _ (r.glob g cs h)) h1 ?_ ?_ ?_).mono ?_
    · rw [← h2]; simp [hl2, hl1]
    · intro p
      cases hp : φ[p]? with
      | none =>
        have : L.length ≤ p := by rw [← hlen]; exact List.getElem?_eq_none_iff.1 hp
        rw [obAt_ge this]; trivial
      | some q => exact ob_ren hp (hob p q hp) (ObOK.less hY (r.obs q))
    · intro p hp
      have : φ[p]? = none := List.getElem?_eq_none (by omega)
      simp [slotsBy, this]
    · rintro e w' ⟨v, d, L', X1, ρ1', rfl, ⟨xs, hQ, hres⟩, st, hd, hob', hh'⟩
      have hflat := hfl xs hQ
      let X' : Nat → Prop := fun b => X1 b ∨ ∃ p s k, p ∉ φ ∧ ρ p = .live b s k
      -- where the result lies
      obtain ⟨s, hs1, hs2, hs3⟩ : ∃ s : Slot, (∀ b z k, s = .live b z k → ∃ p, ρ1' p = .live b z k) ∧ (∀ ρ' : Nat → Slot, ρ' nx = s → DCell X' ρ' w' (.arr nx 0 xs.length) v) ∧ (∀ ρ' : Nat → Slot, ρ' nx = s → ObOK X' ρ' w' nx (.arr sz (xs.map fun r => r.map .v))) := by
        rcases hres with ⟨p, rows, rfl, hLp, htake⟩ | ⟨rfl, rfl⟩
        · have hobp := hob' p
          rw [hLp] at hobp
          obtain ⟨z0, z1, z2, z3⟩ := hobp
          have hrow : ∀ q ∈ xs.map (fun q => q.map D.v), q.length = sz ∧ q.all D.one = true := by
            intro q hq
            rw [← htake] at hq
            exact z1 q (List.mem_of_mem_take hq)
          have hlx : xs.length ≤ rows.length := by
            have := congrArg List.length htake
            simp at this; omega
          refine ⟨ρ1' p, fun b z k e => ⟨p, e⟩, fun ρ' e => ?_, fun ρ' e => ?_⟩
          · unfold DCell at hd ⊢
            rw [e]; exact hd
          · refine ⟨z0, hrow, by simp; omega, ?_⟩
            rw [e]
            cases hq : ρ1' p with
            | live b z k =>
              simp only [hq] at z3 ⊢
              obtain ⟨a1, a2, a3, cs, t, fr, b1, b2, b3, b4⟩ := z3
              refine ⟨a1, by simp; omega, a3, cs, t, fr, b1, b2, b3, ?_⟩
              have := DRows.take xs.length b4
              rw [htake] at this
              exact VRows.toD (sz := sz) (fun q hq => by
                have := (hrow _ (List.mem_map.2 ⟨q, hq, rfl⟩)).1
                simpa using this) (VRows.flat hflat (DRows.toV this))
            | null =>
              simp only [hq] at z3 ⊢
              subst z3
              simp at hlx
              simp [hlx]
            | hole => simp only [hq] at z3
            | dead => simp only [hq] at z3
        · refine ⟨.null, by simp, fun ρ' e => ?_, fun ρ' e => ?_⟩
          · unfold DCell VCell at hd
            obtain ⟨z0, _, _, hz, _⟩ := hd
            obtain ⟨A, hA⟩ := hz rfl
            unfold DCell
            rw [e]
            exact ⟨⟨A, hA⟩, rfl, rfl⟩
          · unfold DCell VCell at hd
            obtain ⟨z0, _⟩ := hd
            refine ⟨z0, by simp, by simp, ?_⟩
            rw [e]; rfl
      let ρ' : Nat → Slot := fun q => if q = nx then s else if q ∈ φ then .dead else ρ q
      have hrn : ρ' nx = s := by simp [ρ']
      have out : ∀ q, q ≠ nx → q ∉ φ → ρ' q = ρ q := fun q h1 h2 => by simp [ρ', h1, h2]
      have dd : ∀ q, q ≠ nx → q ∈ φ → ρ' q = .dead := fun q h1 h2 => by simp [ρ', h1, h2]
      have inφ : ∀ {p b z k}, slotsBy φ ρ p = .live b z k → ∃ q ∈ φ, ρ q = .live b z k := fun h => by
        obtain ⟨q, hq, h⟩ := live1 _ _ _ _ h
        exact ⟨q, List.mem_of_getElem? hq, h⟩
      have src' : ∀ {b z k}, s = .live b z k → (∃ q ∈ φ, ∃ z' k', ρ q = .live b z' k') ∨ w.heap.size ≤ b := by
        intro b z k h
        obtain ⟨p, hp⟩ := hs1 b z k h
        rcases st.src p b z k hp with ⟨q, z', k', hq⟩ | h
        · obtain ⟨u, hu, hu'⟩ := inφ hq
          exact .inl ⟨u, hu, z', k', hu'⟩
        · exact .inr h
      have ups_mem : ∀ q, (q ∈ (φ.map (fun p => (p, Ob.gone)) ++ [(nx, Ob.arr sz (xs.map fun r => r.map .v))]).map (·.1)) ↔ (q ∈ φ ∨ q = nx) := by
        intro q; simp
      refine hK' _ _ v w' X' ρ' ⟨xs, hQ, rfl, rfl⟩ ?_ (hs2 ρ' hrn) ?_
      · refine ⟨st.os, st.tape, st.output, st.size, ?_, ?_, ?_, ?_, ?_, ?_, ⟨?_, ?_, ?_⟩⟩
        · intro b hb hno
          refine st.block b hb fun p z k _ e => ?_
          obtain ⟨q, hq, hq'⟩ := inφ e
          exact hno q z k ((ups_mem q).2 (.inl hq)) hq'
        · intro q
          by_cases h1 : q = nx
          · subst h1; exact .inl hnx0
          · by_cases h2 : q ∈ φ
            · exact .inr (.inr (dd q h1 h2))
            · exact .inr (.inl (out q h1 h2))
        · intro q hq
          rw [ups_mem] at hq
          exact out q (fun e => hq (.inr e)) (fun e => hq (.inl e))
        · intro b hX
          rcases Classical.em (∃ p s k, p ∉ φ ∧ ρ p = .live b s k) with h0 | h0
          · exact .inl (.inr h0)
          · rcases st.xin b ⟨hX, fun p s k hp e => h0 ⟨p, s, k, hp, e⟩⟩ with h | ⟨p, z, k, _, h⟩
            · exact .inl (.inl h)
            · obtain ⟨q, hq, hq'⟩ := inφ h
              exact .inr ⟨q, z, k, (ups_mem q).2 (.inl hq), hq'⟩
        · intro b hX
          rcases hX with hX | ⟨p, s, k, _, h⟩
          · rcases st.xout b hX with h | h
            · exact .inl h.1
            · exact .inr h
          · exact .inl (r.mem.live p b s k h)
        · intro q b z k h
          by_cases h1 : q = nx
          · subst h1
            rw [hrn] at h
            rcases src' h with ⟨u, _, z', k', hu⟩ | h
            · exact .inl ⟨u, z', k', hu⟩
            · exact .inr h
          · by_cases h2 : q ∈ φ
            · rw [dd q h1 h2] at h; cases h
            · rw [out q h1 h2] at h; exact .inl ⟨q, z, k, h⟩
        · intro b hX
          rcases hX with hX | ⟨p, s, k, _, h⟩
          · exact st.mem.lt b hX
          · exact Nat.lt_of_lt_of_le (r.mem.lt b (r.mem.live p b s k h)) st.size
        · intro q b z k h
          by_cases h1 : q = nx
          · subst h1
            rw [hrn] at h
            obtain ⟨p, hp⟩ := hs1 b z k h
            exact .inl (st.mem.live p b z k hp)
          · by_cases h2 : q ∈ φ
            · rw [dd q h1 h2] at h; cases h
            · rw [out q h1 h2] at h
              exact .inr ⟨q, z, k, h2, h⟩
        · have one : ∀ q b z k z' k', q ≠ nx → ρ' q = .live b z k → s = .live b z' k' → False := by
            intro q b z k z' k' h1 h hs
            by_cases h2 : q ∈ φ
            · rw [dd q h1 h2] at h; cases h
            · rw [out q h1 h2] at h
              rcases src' hs with ⟨u, hu, z2, k2, hu'⟩ | g
              · exact h2 (r.mem.inj _ _ b _ _ _ _ h hu' ▸ hu)
              · have := r.mem.lt b (r.mem.live q b z k h); omega
          intro p q b z k z' k' h h'
          by_cases hp : p = nx
          · by_cases hq : q = nx
            · rw [hp, hq]
            · subst hp; rw [hrn] at h; exact (one q b z' k' z k hq h' h).elim
          · by_cases hq : q = nx
            · subst hq; rw [hrn] at h'; exact (one p b z k z' k' hp h h').elim
            · have g : ∀ u z k, u ≠ nx → ρ' u = .live b z k → ρ u = .live b z k := by
                intro u z k hu h
                by_cases h2 : u ∈ φ
                · rw [dd u hu h2] at h; cases h
                · rwa [out u hu h2] at h
              exact r.mem.inj _ _ b _ _ _ _ (g p z k hp h) (g q z' k' hq h')
      · intro y hy
        rcases List.mem_append.1 hy with hy | hy
        · obtain ⟨p, _, rfl⟩ := List.mem_map.1 hy; trivial
        · simp at hy; subst hy; exact hs3 ρ' hrn
theorem call_fr (φ : List Nat) (hC : CallE T f args L sz Q) (ho : o.op = .call c) (hc : c.callee = .value x) (hx : callee (ev T E 0 x) = some (f, caps)) (hargs : evL T E c.args.toList c.argTypes.toList = some ds)
    (hmx : MxL H φ (ds ++ caps) args) (hfl : ∀ xs, Q xs → ∀ r ∈ xs, V.flats r = true) (hnd : φ.Nodup) (hlen : φ.length = L.length) (hnx : nx ∉ φ) (hob : ∀ (i : Nat) p, φ[i]? = some p → obLe φ (H p) (obAt L i))
    (hK : ∀ xs, Q xs → K (.arr nx 0 xs.length) (φ.map (fun p => (p, Ob.gone)) ++ [(nx, .arr sz (xs.map fun r => r.map .v))]) [nx]) : CallOp T o E H nx K :=
  CallOp.mk (nw := [nx]) (by simp) (call_fr_does φ hC ho hc hx hargs hmx hfl hnd hlen hnx hob) (fun d ups ⟨xs, q, e1, e2⟩ => by subst e1 e2; exact hK xs q)
theorem call_frD (φ : List Nat) {xs0 : List (List V)} (hC : CallE T f args L sz (· = xs0)) (ho : o.op = .call c) (hc : c.callee = .value x) (hx : callee (ev T E 0 x) = some (f, caps)) (hargs : evL T E c.args.toList c.argTypes.toList = some ds)
    (hmx : MxL H φ (ds ++ caps) args) (hfl : ∀ r ∈ xs0, V.flats r = true) (hnd : φ.Nodup) (hlen : φ.length = L.length) (hnx : nx ∉ φ) (hob : ∀ (i : Nat) p, φ[i]? = some p → obLe φ (H p) (obAt L i))
    (hK : K (.arr nx 0 xs0.length) (φ.map (fun p => (p, Ob.gone)) ++ [(nx, .arr sz (xs0.map fun r => r.map .v))]) [nx]) : CallDet T o E H nx K := by
  refine CallDet.mk (nw := [nx]) (by simp) ?_ hK
  intro X ρ w a Q' K' r hn hK'
  refine call_fr_does φ hC ho hc hx hargs hmx (fun xs e => by rw [e]; exact hfl) hnd hlen hnx hob X ρ w a Q' K' r hn ?_
  rintro d ups v w' X' ρ' ⟨xs, rfl, e1, e2⟩ st hcell hobs
  exact hK' d ups v w' X' ρ' ⟨e1, e2⟩ st hcell hobs
/-- Data of which nothing lies in memory. -/
def V.safe : V → Bool
  | .sl _ _ [] => true
  | x => x.flat
theorem V.safe_cell {X X' : Nat → Prop} {w w' : World} {x : V} {u : Value} (h : x.safe = true) (c : VCell X w x u) : VCell X' w' x u := by
  unfold V.safe at h
  split at h
  · unfold VCell at c ⊢
    obtain ⟨h0, h1, h2, h3, A, k, h4, h5, h6, h7⟩ := c
    exact ⟨h0, h1, h2, h3, A, k, h4, h5, h6, fun h => absurd rfl h⟩
  · exact V.flat_cell x h c
attribute [local semireducible] CallV in
theorem call_rp_does {vargs : List V} {r0 : V} (hC : CallV T f vargs (· = r0)) (ho : o.op = .call c) (hc : c.callee = .value x) (hx : callee (ev T E 0 x) = some (f, caps)) (hargs : evL T E c.args.toList c.argTypes.toList = some ds) (hv : DPs H (ds ++ caps) vargs)
    (hflat : r0.safe = true) : Does T o E H [] (fun d ups => ups = [] ∧ d = .v r0) := by
  intro X ρ w a Q' K' r _ hK'
  obtain ⟨⟨fn, hf, hb, hn⟩, hC⟩ := hC
  cases hx' : ev T E 0 x with
  | none => rw [hx'] at hx; simp [callee] at hx
  | some dx =>
    rw [hx'] at hx
    obtain ⟨us, hv1, hc1, hl1⟩ := callee_val hx (ev_cell r hx')
    obtain ⟨hc2, hl2⟩ := evL_cells r hargs
    have happ : DCells X ρ w (ds ++ caps) (c.args.toList.map a.eval ++ us) := DCells.append (DCells.more hc2) (by rw [← hl2, List.drop_left]; exact hc1)
    obtain ⟨h1, h2⟩ := DPs_cell (Y := fun _ => False) r.obs (fun _ h => h.elim) (fun _ _ _ _ _ _ h => h) _ _ _ hv happ
    unfold Oper.wp
    rw [run_enter ho hc hv1 hf hb hn]
    refine (hC (fun _ => False) w _ (fun _ h => h.elim) (fun g cs h => VCell.keep ⟨fun _ _ _ h => h, fun _ _ _ => rfl⟩ _ _ (r.glob g cs h)) h1 (by rw [← h2]; simp [hl2, hl1])).mono ?_
    rintro e w' ⟨q, v, rfl, rfl, hcell, hbel⟩
    exact hK' (.v q) [] v w' X ρ ⟨rfl, rfl⟩ (below_step r.mem hbel) (V.safe_cell hflat hcell) (by simp)
theorem call_rp {vargs : List V} {r0 : V} (hC : CallV T f vargs (· = r0)) (ho : o.op = .call c) (hc : c.callee = .value x) (hx : callee (ev T E 0 x) = some (f, caps)) (hargs : evL T E c.args.toList c.argTypes.toList = some ds) (hv : DPs H (ds ++ caps) vargs)
    (hflat : r0.safe = true) (hK : K (.v r0) [] []) : CallOp T o E H nx K :=
  CallOp.mk (nw := []) (by simp) (call_rp_does hC ho hc hx hargs hv hflat) (fun d ups ⟨e1, e2⟩ => by subst e1 e2; exact hK)
theorem call_rpD {vargs : List V} {r0 : V} (hC : CallV T f vargs (· = r0)) (ho : o.op = .call c) (hc : c.callee = .value x) (hx : callee (ev T E 0 x) = some (f, caps)) (hargs : evL T E c.args.toList c.argTypes.toList = some ds) (hv : DPs H (ds ++ caps) vargs)
    (hflat : r0.safe = true) (hK : K (.v r0) [] []) : CallDet T o E H nx K := by
  refine CallDet.mk (nw := []) (d := .v r0) (ups := []) (by simp) ?_ hK
  intro X ρ w a Q' K' r hn hK'
  refine call_rp_does hC ho hc hx hargs hv hflat X ρ w a Q' K' r hn ?_
  rintro d ups v w' X' ρ' ⟨e1, e2⟩ st hcell hobs
  exact hK' d ups v w' X' ρ' ⟨e2, e1⟩ st hcell hobs
end
end Go.DL
