/- DL, part 23: reading objects whose rows hold objects as closed data; a call that makes several objects. Own work; no condition. -/
import Derived.Test.YtdadnjhfennenaaDl22
import Derived.Test.YtdadnjhfennenaaDl12
set_option linter.unusedVariables false
set_option linter.unusedSimpArgs false
namespace Go.DL
open Go.RowKit

def RowsV (H : Nat → Ob) : List (List D) → List (List V) → Prop
  | [], [] => True
  | r :: rs, x :: xs => DVs H r x ∧ RowsV H rs xs
  | _, _ => False
mutual
def DW (H : Nat → Ob) : D → V → Prop
  | .v x, y => x = y
  | .arr p o n, .sl sz z xs => z = false ∧ xs.length = n ∧ ∃ rows, H p = .arr sz rows ∧ RowsV H ((rows.drop o).take n) xs
  | .agg ds, .agg cs => DWs H ds cs
  | .tup ds, .tup cs => DWs H ds cs
  | _, _ => False
def DWs (H : Nat → Ob) : List D → List V → Prop
  | [], [] => True
  | d :: ds, x :: xs => DW H d x ∧ DWs H ds xs
  | _, _ => False
end
theorem DV_one {H : Nat → Ob} : ∀ {d : D} {x : V}, DV H d x → d.one = true → x.one = true
  | .v y, x, h, k => by unfold DV at h; subst h; exact k
  | .arr .., .sl .., h, k => rfl
  | .ptr .., .iptr _, h, k => rfl
  | .fn .., .fn .., h, k => rfl
  | .agg _, _, h, k => by simp [D.one] at k
  | .tup _, _, h, k => by simp [D.one] at k
  | .any, _, h, k => by simp [D.one] at k
  | .arr .., .int .., h, k => by simp [DV] at h
  | .arr .., .bool .., h, k => by simp [DV] at h
  | .arr .., .str .., h, k => by simp [DV] at h
  | .arr .., .raw .., h, k => by simp [DV] at h
  | .arr .., .agg .., h, k => by simp [DV] at h
  | .arr .., .tup .., h, k => by simp [DV] at h
  | .arr .., .iptr .., h, k => by simp [DV] at h
  | .arr .., .fn .., h, k => by simp [DV] at h
  | .ptr .., .int .., h, k => by simp [DV] at h
  | .ptr .., .bool .., h, k => by simp [DV] at h
  | .ptr .., .str .., h, k => by simp [DV] at h
  | .ptr .., .raw .., h, k => by simp [DV] at h
  | .ptr .., .agg .., h, k => by simp [DV] at h
  | .ptr .., .tup .., h, k => by simp [DV] at h
  | .ptr .., .sl .., h, k => by simp [DV] at h
  | .ptr .., .fn .., h, k => by simp [DV] at h
  | .fn .., .int .., h, k => by simp [DV] at h
  | .fn .., .bool .., h, k => by simp [DV] at h
  | .fn .., .str .., h, k => by simp [DV] at h
  | .fn .., .raw .., h, k => by simp [DV] at h
  | .fn .., .agg .., h, k => by simp [DV] at h
  | .fn .., .tup .., h, k => by simp [DV] at h
  | .fn .., .sl .., h, k => by simp [DV] at h
  | .fn .., .iptr .., h, k => by simp [DV] at h
theorem DVs_one {H : Nat → Ob} : ∀ {ds : List D} {xs : List V}, DVs H ds xs → ds.all D.one = true → xs.all V.one = true ∧ xs.length = ds.length
  | [], [], _, _ => ⟨rfl, rfl⟩
  | [], _ :: _, h, _ => by unfold DVs at h; exact h.elim
  | _ :: _, [], h, _ => by unfold DVs at h; exact h.elim
  | d :: ds, x :: xs, h, k => by
    unfold DVs at h
    simp only [List.all_cons, Bool.and_eq_true] at k ⊢
    obtain ⟨h1, h2⟩ := DVs_one h.2 k.2
    exact ⟨⟨DV_one h.1 k.1, h1⟩, by simp [h2]⟩
theorem RowsV_len {H : Nat → Ob} : ∀ {rs : List (List D)} {xs : List (List V)}, RowsV H rs xs → xs.length = rs.length
  | [], [], _ => rfl
  | [], _ :: _, h => h.elim
  | _ :: _, [], h => h.elim
  | _ :: rs, _ :: xs, h => by simp [RowsV_len h.2]
theorem RowsV_one {H : Nat → Ob} {sz : Nat} : ∀ {rs : List (List D)} {xs : List (List V)}, RowsV H rs xs → (∀ r ∈ rs, r.length = sz ∧ r.all D.one = true) → ∀ x ∈ xs, x.length = sz ∧ x.all V.one = true
  | [], [], _, _, x, hx => by cases hx
  | [], _ :: _, h, _, _, _ => h.elim
  | _ :: _, [], h, _, _, _ => h.elim
  | r :: rs, y :: xs, h, k, x, hx => by
    rcases List.mem_cons.1 hx with rfl | hx
    · obtain ⟨h1, h2⟩ := DVs_one h.1 (k r List.mem_cons_self).2
      exact ⟨h2.trans (k r List.mem_cons_self).1, h1⟩
    · exact RowsV_one h.2 (fun r hr => k r (List.mem_cons_of_mem _ hr)) x hx
theorem RowsV_cell {X Y : Nat → Prop} {ρ : Nat → Slot} {w : World} {H : Nat → Ob} (hob : ∀ p, ObOK X ρ w p (H p)) (hY : ∀ b, Y b → X b) (hl : ∀ p b sz cap, ρ p = .live b sz cap → ¬ Y b) {sz : Nat} :
    ∀ {rs : List (List D)} {xs : List (List V)} {vs : List Value}, RowsV H rs xs → (∀ r ∈ rs, r.length = sz) → (∀ x ∈ xs, x.length = sz) → DRows X ρ w rs vs → VRows Y w xs vs
  | [], [], _, _, _, _, _ => trivial
  | [], _ :: _, _, h, _, _, _ => h.elim
  | _ :: _, [], _, h, _, _, _ => h.elim
  | r :: rs, x :: xs, vs, h, k, kx, c => by
    refine ⟨(DVs_cell hob hY hl r x vs h.1 c.1).1, ?_⟩
    rw [kx x List.mem_cons_self, ← k r List.mem_cons_self]
    exact RowsV_cell hob hY hl h.2 (fun r hr => k r (List.mem_cons_of_mem _ hr)) (fun r hr => kx r (List.mem_cons_of_mem _ hr)) c.2
mutual
theorem DW_cell {X Y : Nat → Prop} {ρ : Nat → Slot} {w : World} {H : Nat → Ob} (hob : ∀ p, ObOK X ρ w p (H p)) (hY : ∀ b, Y b → X b) (hl : ∀ p b sz cap, ρ p = .live b sz cap → ¬ Y b) : ∀ (d : D) (x : V) (u : Value), DW H d x → DCell X ρ w d u → VCell Y w x u
  | .v y, x, u, h, c => by
    unfold DW at h; subst h
    exact VCell.keep ⟨fun b _ hX hYb => hX (hY b hYb), fun b _ _ => rfl⟩ _ _ c
  | .arr p o n, .sl sz z xs, u, h, c => by
    unfold DW at h
    obtain ⟨rfl, hn, rows, hp, hx⟩ := h
    have ho := hob p
    rw [hp] at ho
    obtain ⟨h0, hr, hm, ho⟩ := ho
    have hrs : ∀ r ∈ (rows.drop o).take n, r.length = sz ∧ r.all D.one = true := fun r hr' => hr r (List.mem_of_mem_drop (List.mem_of_mem_take hr'))
    have hone := RowsV_one hx hrs
    have hlen : xs.length ≤ rows.length := by
      have := RowsV_len hx
      simp at this; omega
    unfold DCell at c
    cases hq : ρ p with
    | hole => simp only [hq] at c
    | dead => simp only [hq] at ho
    | null =>
      simp only [hq] at c ho
      obtain ⟨⟨A, rfl⟩, rfl, rfl⟩ := c
      have : xs = [] := List.length_eq_zero_iff.1 hn
      subst this
      exact ⟨h0, by simp, by simp, (fun h => by cases h), A, 0, rfl, by simp, by simp, fun h => absurd rfl h⟩
    | live b s cap =>
      simp only [hq] at c ho
      obtain ⟨rfl, h2, h3, cs, t, fr, hh, hcs, hf, hrr⟩ := ho
      obtain ⟨h4, h5, h6⟩ := c
      by_cases hc : o < cap
      · refine ⟨h0, hone, by omega, (fun h => by cases h), some ⟨b, o * s, none⟩, cap - o, by rw [h5 hc, hn], by omega, by omega, fun _ => ⟨b, o * s, cs, t, fr, rfl, hl p b s cap hq, hh, ?_⟩⟩
        have := DRows.take n (DRows.drop o (fun r hr' => (hr r hr').1) hrr)
        exact RowsV_cell hob hY hl hx (fun r hr => (hrs r hr).1) (fun x hx => (hone x hx).1) this
      · obtain ⟨A, hA⟩ := h6 (by omega)
        have hn0 : n = 0 := by omega
        have : xs = [] := List.length_eq_zero_iff.1 (by omega)
        subst this
        exact ⟨h0, by simp, by simp, (fun h => by cases h), some A, 0, by rw [hA]; rfl, by simp, by simp, fun h => absurd rfl h⟩
  | .agg ds, .agg cs, u, h, c => by
    unfold DW at h
    obtain ⟨vs, hv, hlen, hc⟩ := c
    obtain ⟨h1, h2⟩ := DWs_cell hob hY hl ds cs vs h hc
    exact ⟨vs, hv, hlen.trans h2, h1⟩
  | .tup ds, .tup cs, u, h, c => by
    unfold DW at h
    obtain ⟨vs, hv, hlen, hc⟩ := c
    obtain ⟨h1, h2⟩ := DWs_cell hob hY hl ds cs vs h hc
    exact ⟨vs, hv, hlen.trans h2, h1⟩
theorem DWs_cell {X Y : Nat → Prop} {ρ : Nat → Slot} {w : World} {H : Nat → Ob} (hob : ∀ p, ObOK X ρ w p (H p)) (hY : ∀ b, Y b → X b) (hl : ∀ p b sz cap, ρ p = .live b sz cap → ¬ Y b) : ∀ (ds : List D) (xs : List V) (us : List Value), DWs H ds xs → DCells X ρ w ds us → VCells Y w xs us ∧ ds.length = xs.length
  | [], [], us, _, _ => ⟨trivial, rfl⟩
  | [], _ :: _, us, h, _ => by unfold DWs at h; exact h.elim
  | _ :: _, [], us, h, _ => by unfold DWs at h; exact h.elim
  | d :: ds, x :: xs, [], _, c => c.elim
  | d :: ds, x :: xs, u :: us, h, c => by
    unfold DWs at h
    obtain ⟨h1, h2⟩ := DWs_cell hob hY hl ds xs us h.2 c.2
    exact ⟨⟨DW_cell hob hY hl d x u h.1 c.1, h1⟩, by simp [h2]⟩
end
section
variable {P : Program} {T : Tab P}
attribute [local semireducible] CallV CallD in
theorem callV_of_callD2 {f : FuncId} {args : List V} {Q : V → Prop} (h : CallD T f (args.map .v) [] fun d L => ∃ r, DW (obAt L) d r ∧ Q r) : CallV T f args Q := by
  refine ⟨h.1, ?_⟩
  intro X w vs hX hg hc hl
  have hm : Mem X (fun _ => .hole) w := ⟨hX, (fun p b sz cap h => by cases h), (fun p q b sz cap sz' cap' h => by cases h)⟩
  refine (h.2 X (fun _ => .hole) w vs hm hg (VCells.toD hc) (by simpa using hl) (fun p => trivial) (fun _ _ => rfl)).mono ?_
  rintro e w' ⟨v, d, L', X', ρ', he, ⟨r, hdv, q⟩, s, hd, hob, hh⟩
  have hin : ∀ b, X b → X' b := fun b hb => by
    rcases s.xin b hb with h | ⟨p, sz, cap, _, h⟩
    · exact h
    · cases h
  refine ⟨r, v, he, q, DW_cell hob hin (fun p b sz cap hp hXb => ?_) d r v hdv hd, ⟨s.os, s.tape, s.output, s.size, fun b hb => s.block b hb fun p sz cap _ h => by cases h⟩⟩
  rcases s.src p b sz cap hp with ⟨q', s', c', h⟩ | h
  · cases h
  · have := hX b hXb; omega
theorem callV_of2 {f : FuncId} {fn : Func} {code : Code} {args : List V} {Q : V → Prop} (hf : P.funcs[f]? = some fn) (hb : fn.body = some code) (hn : args.length ≤ fn.ntmps) (hname : (fn.name == "runtime.NumGoroutine") = false)
    (h : WpD T 0 fn.ntmps code ⟨argEnv 0 (args.map .v), [], []⟩ (retQ T fn fun d L => ∃ r, DW (obAt L) d r ∧ Q r)) : CallV T f args Q :=
  callV_of_callD2 (callD_of hf hb (by simpa using hn) hname h)

/-! ##### a call with closed data that returns new objects -/
mutual
theorem renD_up {X : Nat → Prop} {ρ ρ' : Nat → Slot} {w : World} {g : Nat → Nat} (hg : ∀ p, ρ' (g p) = ρ p) : ∀ (d : D) (v : Value), DCell X ρ w d v → DCell X ρ' w (renD g d) v
  | .any, v, h => trivial
  | .v x, v, h => h
  | .arr p o n, v, h => by unfold renD DCell; unfold DCell at h; rw [hg]; exact h
  | .ptr p i j, v, h => by unfold renD DCell; unfold DCell at h; rw [hg]; exact h
  | .agg ds, v, h => by
    obtain ⟨vs, hv, hl, hc⟩ := h
    obtain ⟨h1, h2⟩ := renDs_up hg ds vs hc
    unfold renD DCell
    exact ⟨vs, hv, by rw [hl, h2], h1⟩
  | .tup ds, v, h => by
    obtain ⟨vs, hv, hl, hc⟩ := h
    obtain ⟨h1, h2⟩ := renDs_up hg ds vs hc
    unfold renD DCell
    exact ⟨vs, hv, by rw [hl, h2], h1⟩
  | .fn f ds, v, h => by
    obtain ⟨vs, hv, hl, hc⟩ := h
    obtain ⟨h1, h2⟩ := renDs_up hg ds vs hc
    unfold renD DCell
    exact ⟨vs, hv, by rw [hl, h2], h1⟩
theorem renDs_up {X : Nat → Prop} {ρ ρ' : Nat → Slot} {w : World} {g : Nat → Nat} (hg : ∀ p, ρ' (g p) = ρ p) : ∀ (ds : List D) (vs : List Value), DCells X ρ w ds vs → DCells X ρ' w (renDs g ds) vs ∧ (renDs g ds).length = ds.length
  | [], vs, h => ⟨trivial, rfl⟩
  | _ :: _, [], h => h.elim
  | d :: ds, v :: vs, h => by
    obtain ⟨h1, h2⟩ := renDs_up hg ds vs h.2
    unfold renDs
    exact ⟨⟨renD_up hg d v h.1, h1⟩, by simp [h2]⟩
end
def renOb (g : Nat → Nat) : Ob → Ob
  | .gone => .gone
  | .cap p c => .gone
  | .arr sz rows => .arr sz (rows.map (renDs g))
theorem renDs_len {g : Nat → Nat} : ∀ (ds : List D), (renDs g ds).length = ds.length
  | [] => rfl
  | d :: ds => by unfold renDs; simp [renDs_len ds]
theorem renD_one {g : Nat → Nat} (d : D) : (renD g d).one = d.one := by cases d <;> simp [renD, D.one]
theorem renDs_one {g : Nat → Nat} : ∀ (ds : List D), (renDs g ds).all D.one = ds.all D.one
  | [] => rfl
  | d :: ds => by unfold renDs; simp [renDs_one ds, renD_one]
theorem renRows_up {X : Nat → Prop} {ρ ρ' : Nat → Slot} {w : World} {g : Nat → Nat} (hg : ∀ p, ρ' (g p) = ρ p) : ∀ (rs : List (List D)) (vs : List Value), DRows X ρ w rs vs → DRows X ρ' w (rs.map (renDs g)) vs
  | [], vs, h => trivial
  | r :: rs, vs, h => by
    refine ⟨(renDs_up hg r vs h.1).1, ?_⟩
    rw [renDs_len]
    exact renRows_up hg rs _ h.2
theorem renOb_up {X : Nat → Prop} {ρ ρ' : Nat → Slot} {w : World} {g : Nat → Nat} (hg : ∀ p, ρ' (g p) = ρ p) {p : Nat} : ∀ (x : Ob), ObOK X ρ w p x → ObOK X ρ' w (g p) (renOb g x)
  | .gone, h => trivial
  | .cap .., h => trivial
  | .arr sz rows, h => by
    obtain ⟨h0, h1, h2, h3⟩ := h
    refine ⟨h0, ?_, by simpa using h2, ?_⟩
    · intro r hr
      obtain ⟨r', hr', rfl⟩ := List.mem_map.1 hr
      rw [renDs_len, renDs_one]
      exact h1 r' hr'
    · rw [hg]
      cases hq : ρ p with
      | live b s cap =>
        simp only [hq] at h3 ⊢
        obtain ⟨a1, a2, a3, cs, t, fr, b1, b2, b3, b4⟩ := h3
        exact ⟨a1, by simpa using a2, a3, cs, t, fr, b1, b2, b3, renRows_up hg _ _ b4⟩
      | null => simp only [hq] at h3 ⊢; simp [h3]
      | hole => simp only [hq] at h3
      | dead => simp only [hq] at h3
def upsN (nx : Nat) : Nat → List Ob → List (Nat × Ob)
  | _, [] => []
  | k, x :: L => (nx + k, renOb (· + nx) x) :: upsN nx (k + 1) L
theorem upsN_mem {nx : Nat} : ∀ {L : List Ob} {k : Nat} {q : Nat} {y : Ob}, (q, y) ∈ upsN nx k L → ∃ i x, L[i]? = some x ∧ q = nx + (k + i) ∧ y = renOb (· + nx) x
  | [], k, q, y, h => by cases h
  | x :: L, k, q, y, h => by
    unfold upsN at h
    rcases List.mem_cons.1 h with h | h
    · injection h with h1 h2; exact ⟨0, x, rfl, h1, h2⟩
    · obtain ⟨i, z, h1, h2, h3⟩ := upsN_mem h
      exact ⟨i + 1, z, h1, by omega, h3⟩
theorem upsN_keys {nx : Nat} : ∀ {L : List Ob} {k : Nat} {q : Nat}, q ∈ (upsN nx k L).map (·.1) ↔ nx + k ≤ q ∧ q < nx + (k + L.length)
  | [], k, q => by simp [upsN]
  | x :: L, k, q => by
    unfold upsN
    simp only [List.map_cons, List.mem_cons, upsN_keys (L := L), List.length_cons]
    omega
theorem obAt_get : ∀ {L : List Ob} {i : Nat} {x : Ob}, L[i]? = some x → obAt L i = x
  | [], i, x, h => by simp at h
  | y :: L, 0, x, h => by simp at h; exact h
  | y :: L, i + 1, x, h => obAt_get (L := L) (by simpa using h)
/-- A call with closed data: the result d0 over the new objects L0. -/
def CallN (T : Tab P) (f : FuncId) (args : List V) (d0 : D) (L0 : List Ob) : Prop := CallD T f (args.map .v) [] fun d L' => d = d0 ∧ L' = L0
variable {o : Oper} {E : Nat → Option D} {H : Nat → Ob} {nx : Nat} {K : KT} {c : Call} {x : Operand} {f : FuncId} {ds caps : List D} {vargs : List V} {d0 : D} {L0 : List Ob}
def nwN (nx n : Nat) : List Nat := List.range' nx n
attribute [local semireducible] CallD in
theorem call_new_does (hC : CallN T f vargs d0 L0) (ho : o.op = .call c) (hc : c.callee = .value x) (hx : callee (ev T E 0 x) = some (f, caps)) (hargs : evL T E c.args.toList c.argTypes.toList = some ds) (hv : D.toVs (ds ++ caps) = some vargs) :
    Does T o E H (nwN nx L0.length) (fun d ups => d = renD (· + nx) d0 ∧ ups = upsN nx 0 L0) := by
  intro X ρ w a Q' K' r hn hK'
  have hhole : ∀ q, nx ≤ q → q < nx + L0.length → ρ q = .hole := fun q h1 h2 => hn q (by unfold nwN; rw [List.mem_range'_1]; omega)
  obtain ⟨⟨fn, hf, hb, hname⟩, hC⟩ := hC
  cases hx' : ev T E 0 x with
  | none => rw [hx'] at hx; simp [callee] at hx
  | some dx =>
    rw [hx'] at hx
    obtain ⟨us, hv1, hc1, hl1⟩ := callee_val hx (ev_cell r hx')
    obtain ⟨hc2, hl2⟩ := evL_cells r hargs
    have happ : DCells X ρ w (ds ++ caps) (c.args.toList.map a.eval ++ us) := DCells.append (DCells.more hc2) (by rw [← hl2, List.drop_left]; exact hc1)
    obtain ⟨h1, h2⟩ := D.toVs_cell _ hv happ
    unfold Oper.wp
    rw [run_enter ho hc hv1 hf hb hname]
    refine (hC X (fun _ => .hole) w _ ⟨r.mem.lt, (fun p b sz cap h => by cases h), (fun p q b sz cap sz' cap' h => by cases h)⟩ r.glob (VCells.toD h1) ?_ (fun p => trivial) (fun _ _ => rfl)).mono ?_
    · have : (c.args.toList.map a.eval ++ us).length = (ds ++ caps).length := by simp [hl2, hl1]
      simp [this, h2]
    · rintro e w' ⟨v, d, L', X', ρ1, rfl, ⟨rfl, rfl⟩, st, hd, hob', hh'⟩
      have new1 : ∀ p b z k, ρ1 p = .live b z k → w.heap.size ≤ b := fun p b z k h => by
        rcases st.src p b z k h with ⟨q, s', c', h⟩ | h
        · cases h
        · exact h
      have hin : ∀ b, X b → X' b := fun b hb => by
        rcases st.xin b hb with h | ⟨p, sz, cap, _, h⟩
        · exact h
        · cases h
      let ρ' : Nat → Slot := fun q => if nx ≤ q ∧ q < nx + L'.length then ρ1 (q - nx) else ρ q
      have inn : ∀ q, nx ≤ q → q < nx + L'.length → ρ' q = ρ1 (q - nx) := fun q h1 h2 => by simp [ρ', h1, h2]
      have out : ∀ q, ¬ (nx ≤ q ∧ q < nx + L'.length) → ρ' q = ρ q := fun q h => by simp only [ρ', if_neg h]
      -- the objects out of reach are holes on both sides
      let g : Nat → Nat := fun p => p + nx
      let ρ2 : Nat → Slot := fun q => if nx ≤ q then ρ1 (q - nx) else ρ q
      have hg2 : ∀ p, ρ2 (g p) = ρ1 p := fun p => by simp [ρ2, g]
      have keep2 : Keeps X' w' X' w' := ⟨fun b _ h => h, fun b _ _ => rfl⟩
      have slots2 : Slots ρ2 ρ' := fun q => by
        by_cases h1 : nx ≤ q
        · by_cases h2 : q < nx + L'.length
          · exact .inr (.inl (by rw [inn q h1 h2]; simp [ρ2, h1]))
          · refine .inl ?_
            simp only [ρ2, if_pos h1]
            exact hh' _ (by omega)
        · exact .inr (.inl (by rw [out q (by omega)]; simp [ρ2, h1]))
      have hcell : DCell X' ρ' w' (renD (· + nx) d) v := DCell.keep keep2 slots2 _ _ (renD_up hg2 d v hd)
      refine hK' _ _ v w' X' ρ' ⟨rfl, rfl⟩ ?_ hcell ?_
      · refine ⟨st.os, st.tape, st.output, st.size, (fun b hb _ => st.block b hb fun p sz cap _ h => by cases h), ?_, ?_, fun b hX => .inl (hin b hX), st.xout, ?_, ⟨st.mem.lt, ?_, ?_⟩⟩
        · intro q
          by_cases h : nx ≤ q ∧ q < nx + L'.length
          · exact .inl (hhole q h.1 h.2)
          · exact .inr (.inl (out q h))
        · intro q hq
          refine out q fun h => hq ?_
          rw [upsN_keys]; omega
        · intro q b z k h
          by_cases h1 : nx ≤ q ∧ q < nx + L'.length
          · rw [inn q h1.1 h1.2] at h; exact .inr (new1 _ b z k h)
          · rw [out q h1] at h; exact .inl ⟨q, z, k, h⟩
        · intro q b z k h
          by_cases h1 : nx ≤ q ∧ q < nx + L'.length
          · rw [inn q h1.1 h1.2] at h; exact st.mem.live _ b z k h
          · rw [out q h1] at h; exact hin b (r.mem.live q b z k h)
        · intro p q b z k z' k' h h'
          by_cases h1 : nx ≤ p ∧ p < nx + L'.length
          · rw [inn p h1.1 h1.2] at h
            by_cases h2 : nx ≤ q ∧ q < nx + L'.length
            · rw [inn q h2.1 h2.2] at h'
              have := st.mem.inj _ _ b _ _ _ _ h h'
              omega
            · rw [out q h2] at h'
              have := new1 _ b z k h
              have := r.mem.lt b (r.mem.live q b z' k' h'); omega
          · rw [out p h1] at h
            by_cases h2 : nx ≤ q ∧ q < nx + L'.length
            · rw [inn q h2.1 h2.2] at h'
              have := new1 _ b z' k' h'
              have := r.mem.lt b (r.mem.live p b z k h); omega
            · rw [out q h2] at h'
              exact r.mem.inj _ _ b _ _ _ _ h h'
      · rintro ⟨q, y⟩ hy
        obtain ⟨i, ob, hi, hq, rfl⟩ := upsN_mem hy
        simp only [Nat.zero_add] at hq
        subst hq
        have hlt : i < L'.length := (List.getElem?_eq_some_iff.1 hi).1
        have h0 := hob' i
        have e0 : obAt L' i = ob := obAt_get hi
        rw [e0] at h0
        have h1 := renOb_up (ρ' := ρ2) (g := g) hg2 ob h0
        have e1 : g i = nx + i := Nat.add_comm _ _
        rw [e1] at h1
        -- from ρ2 to ρ'
        have e2 : ρ' (nx + i) = ρ2 (nx + i) := by rw [inn _ (by omega) (by omega)]; simp [ρ2]
        cases ob with
        | gone => trivial
        | cap p c => trivial
        | arr sz rows =>
          obtain ⟨a0, a1, a2, a3⟩ := h1
          refine ⟨a0, a1, a2, ?_⟩
          rw [e2]
          cases hs : ρ2 (nx + i) with
          | live b s cap =>
            simp only [hs] at a3 ⊢
            obtain ⟨b1, b2, b3, cs, t, fr, c1, c2, c3, c4⟩ := a3
            exact ⟨b1, b2, b3, cs, t, fr, c1, c2, c3, DRows.keep keep2 slots2 _ _ c4⟩
          | null => simp only [hs] at a3 ⊢; exact a3
          | hole => simp only [hs] at a3
          | dead => simp only [hs] at a3
theorem call_new (hC : CallN T f vargs d0 L0) (ho : o.op = .call c) (hc : c.callee = .value x) (hx : callee (ev T E 0 x) = some (f, caps)) (hargs : evL T E c.args.toList c.argTypes.toList = some ds) (hv : D.toVs (ds ++ caps) = some vargs)
    (hK : K (renD (· + nx) d0) (upsN nx 0 L0) (nwN nx L0.length)) : CallOp T o E H nx K :=
  CallOp.mk (nw := nwN nx L0.length) (fun p hp => by unfold nwN at hp; rw [List.mem_range'_1] at hp; exact hp.1) (call_new_does hC ho hc hx hargs hv) (fun d ups ⟨e1, e2⟩ => by subst e1 e2; exact hK)
theorem call_newD (hC : CallN T f vargs d0 L0) (ho : o.op = .call c) (hc : c.callee = .value x) (hx : callee (ev T E 0 x) = some (f, caps)) (hargs : evL T E c.args.toList c.argTypes.toList = some ds) (hv : D.toVs (ds ++ caps) = some vargs)
    (hK : K (renD (· + nx) d0) (upsN nx 0 L0) (nwN nx L0.length)) : CallDet T o E H nx K := by
  refine CallDet.mk (nw := nwN nx L0.length) (fun p hp => ?_) ?_ hK
  · unfold nwN at hp; rw [List.mem_range'_1] at hp
    exact ⟨hp.1, upsN_keys.2 (by omega)⟩
  · intro X ρ w a Q' K' r hn hK'
    exact call_new_does hC ho hc hx hargs hv X ρ w a Q' K' r hn (fun d ups v w' X' ρ' ⟨e1, e2⟩ => hK' d ups v w' X' ρ' ⟨e1, e2⟩)
end
end Go.DL
