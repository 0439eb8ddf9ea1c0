/- DL, part 5: operations that make and write memory. Own work; no condition. -/
import Derived.Test.YtdadnjhfennenaaDl4
import Derived.Deep.AppendSrc
set_option linter.unusedVariables false
set_option linter.unusedSimpArgs false
namespace Go.DL
open Go.RowKit

section
variable {P : Program} {T : Tab P} {o : Oper} {E : Nat → Option D} {H : Nat → Ob}
variable {X X' : Nat → Prop} {ρ ρ' : Nat → Slot} {w w' : World}

/-! ##### steps -/
def setSlot (ρ : Nat → Slot) (p : Nat) (s : Slot) : Nat → Slot := fun q => if q = p then s else ρ q
theorem Step.new (m : Mem X ρ w) {p : Nat} (hp : ρ p = .hole) (sz cap : Nat) (x : Obj) (w1 : World) (hh : w1.heap = w.heap.push x) (ho : w1.os = w.os) (ht : w1.tape = w.tape) (hu : w1.output = w.output) :
    Step (fun q => q = p) X ρ w (fun b => X b ∨ b = w.heap.size) (setSlot ρ p (.live w.heap.size sz cap)) w1 := by
  refine ⟨ho, ht, hu, by rw [hh]; simp, ?_, ?_, ?_, fun b h => .inl (.inl h), ?_, ?_, ⟨?_, ?_, ?_⟩⟩
  · intro b hb _
    rw [hh, Array.getElem?_push, if_neg (by omega)]
  · intro q
    by_cases hq : q = p
    · subst hq; exact .inl hp
    · exact .inr (.inl (if_neg hq))
  · intro q hq; exact if_neg hq
  · rintro b (h | h)
    · exact .inl h
    · exact .inr (by omega)
  · intro q b s c h
    unfold setSlot at h
    split at h
    · injection h with h1 h2 h3; exact .inr (by omega)
    · exact .inl ⟨q, s, c, h⟩
  · rintro b (h | h)
    · have := m.lt b h; rw [hh]; simp; omega
    · rw [hh]; simp; omega
  · intro q b s c h
    unfold setSlot at h
    split at h
    · injection h with h1 h2 h3; exact .inr h1.symm
    · exact .inl (m.live q b s c h)
  · intro q q' b s c s' c' h h'
    unfold setSlot at h h'
    split at h <;> split at h'
    · subst_vars; rfl
    · injection h with h1 h2 h3
      have := m.lt b (m.live q' b s' c' h'); omega
    · injection h' with h1 h2 h3
      have := m.lt b (m.live q b s c h); omega
    · exact m.inj q q' b s c s' c' h h'
theorem Step.write (m : Mem X ρ w) {p b sz cap : Nat} (hp : ρ p = .live b sz cap) (cs : Array Value) : Step (fun q => q = p) X ρ w X ρ (w.setRow b cs) := by
  refine ⟨rfl, rfl, rfl, by simp, ?_, Slots.refl _, fun _ _ => rfl, fun _ h => .inl h, fun _ h => .inl h, fun q b s c h => .inl ⟨q, s, c, h⟩, ⟨fun b h => by simpa using m.lt b h, m.live, m.inj⟩⟩
  intro b' hb hn
  exact setRow_other w b b' cs (fun e => hn p sz cap rfl (e ▸ hp))

/-! ##### cells of a value -/
def D.cells1 : D → Option (List D)
  | .agg ds => some ds
  | .v (.agg cs) => some (cs.map .v)
  | d => bif d.one then some [d] else none
theorem cells_of_one {v : Value} (h : v.oneCell' = true) : v.cells = #[v] := by
  cases v <;> first | rfl | (simp [Value.oneCell'] at h)
theorem D.cells1_val {d : D} {cs : List D} (h : d.cells1 = some cs) {v : Value} (hv : DCell X ρ w d v) : DCells X ρ w cs v.cells.toList ∧ v.cells.size = cs.length := by
  unfold D.cells1 at h
  split at h
  · injection h with h; subst h
    obtain ⟨vs, rfl, hl, hc⟩ := hv
    exact ⟨by simpa [Value.cells] using hc, by simpa [Value.cells] using hl⟩
  · injection h with h; subst h
    obtain ⟨vs, rfl, hl, hc⟩ := hv
    exact ⟨by simpa [Value.cells] using VCells.toD hc, by simpa [Value.cells] using hl⟩
  · cases h1 : D.one d with
    | false => simp [h1] at h
    | true =>
      simp [h1] at h; subst h
      have := cells_of_one (DCell.one h1 hv)
      rw [this]
      exact ⟨⟨hv, trivial⟩, rfl⟩

/-! ##### fill -/
theorem foldl_splice (off : Nat) : ∀ (vs : List Value) (j : Nat) (cs : Array Value), off + j + vs.length ≤ cs.size →
    (((vs.zipIdx j).foldl (fun cs (x : Value × Nat) => cs.setIfInBounds (off + x.2) x.1) cs) : Array Value).toList = cs.toList.take (off + j) ++ vs ++ cs.toList.drop (off + j + vs.length)
  | [], j, cs, _ => by simp
  | v :: vs, j, cs, h => by
    simp only [List.zipIdx_cons, List.foldl_cons]
    have h0 : off + (j + 1) + vs.length ≤ (cs.setIfInBounds (off + j) v).size := by simp at h ⊢; omega
    rw [foldl_splice off vs (j + 1) _ h0]
    have hl : off + j < cs.toList.length := by simp at h ⊢; omega
    have e := list_seg_step cs.toList (off + j) v vs (by simp at h ⊢; omega)
    simpa [Array.toList_setIfInBounds, Nat.add_assoc, Nat.add_comm 1] using e
def fillD (place : Nat → Option (Nat × Nat)) : List D → List (Nat × Option D) → Option (List D)
  | cells, [] => some cells
  | cells, (i, some d) :: rest =>
    match place i, d.cells1 with
    | some (off, size), some cs => match Nat.beq cs.length size, Nat.ble (off + cs.length) cells.length with
      | true, true => fillD place (splice cells off cs) rest
      | _, _ => none
    | _, _ => none
  | _, (_, none) :: _ => none
theorem fillD_len {place : Nat → Option (Nat × Nat)} : ∀ {parts : List (Nat × Option D)} {cells r : List D}, fillD place cells parts = some r → r.length = cells.length
  | [], cells, r, h => by simp [fillD] at h; rw [h]
  | (i, none) :: rest, cells, r, h => by simp [fillD] at h
  | (i, some d) :: rest, cells, r, h => by
    simp only [fillD] at h
    split at h
    · split at h
      · rename_i h1 h2
        rw [fillD_len h, splice_length (Nat.le_of_ble_eq_true h2)]
      · cases h
    · cases h
theorem fillD_fill {place : Nat → Option (Nat × Nat)} : ∀ (parts : List (Nat × Option D)) (ps : List (Nat × Value)) (cells r : List D) (vs : Array Value), fillD place cells parts = some r →
    parts.length = ps.length → (∀ (k : Nat) (x : Nat × Option D) (y : Nat × Value), parts[k]? = some x → ps[k]? = some y → x.1 = y.1 ∧ ∀ d, x.2 = some d → DCell X ρ w d y.2) → DCells X ρ w cells vs.toList → vs.size = cells.length →
    ∃ us, Instr.fill place vs ps = some us ∧ DCells X ρ w r us.toList ∧ us.size = r.length
  | [], [], cells, r, vs, h, _, _, hc, hl => by simp [fillD] at h; subst h; exact ⟨vs, rfl, hc, hl⟩
  | [], _ :: _, cells, r, vs, h, hlen, _, hc, hl => by simp at hlen
  | _ :: _, [], cells, r, vs, h, hlen, _, hc, hl => by simp at hlen
  | (i, none) :: rest, _ :: _, cells, r, vs, h, hlen, _, hc, hl => by simp [fillD] at h
  | (i, some d) :: rest, (i', v) :: ps, cells, r, vs, h, hlen, hp, hc, hl => by
    have h0 := hp 0 _ _ rfl rfl
    obtain ⟨rfl, hd⟩ := h0
    have hd : DCell X ρ w d v := hd d rfl
    simp only [fillD] at h
    split at h
    · rename_i off size cs hpl hcs
      split at h
      · rename_i h1 h2
        have h1 : cs.length = size := Nat.eq_of_beq_eq_true h1
        have h2 : off + cs.length ≤ cells.length := Nat.le_of_ble_eq_true h2
        obtain ⟨hcc, hcl⟩ := D.cells1_val hcs hd
        have hfold : (v.cells.zipIdx.foldl (fun cs (x : Value × Nat) => cs.setIfInBounds (off + x.2) x.1) vs).toList = splice vs.toList off v.cells.toList := by
          have := foldl_splice off v.cells.toList 0 vs (by simp; omega)
          rw [← Array.foldl_toList, Array.toList_zipIdx]
          simpa [splice] using this
        have hsz : (v.cells.zipIdx.foldl (fun cs (x : Value × Nat) => cs.setIfInBounds (off + x.2) x.1) vs).size = vs.size := by
          rw [← Array.length_toList, hfold, splice_length (by simp; omega), Array.length_toList]
        obtain ⟨us, e1, e2, e3⟩ := fillD_fill rest ps (splice cells off cs) r _ h (by simpa using hlen) (fun k x y hx hy => hp (k + 1) x y (by simpa using hx) (by simpa using hy))
          (by rw [hfold]; exact DCells.splice hc hcc (by rw [← hcl]; simp) h2) (by rw [hsz, splice_length h2]; exact hl)
        refine ⟨us, ?_, e2, e3⟩
        simp only [Instr.fill, hpl]
        have hq : v.cells.size = size := by omega
        have hq2 : ¬ (off + v.cells.size > vs.size) := by omega
        rw [if_neg (by simp only [hq] at hq2 ⊢; simp; omega)]
        exact e1
      · cases h
    · cases h

/-! ##### rows -/
theorem DRows.of_cells {sz : Nat} : ∀ {rows : List (List D)} {vs : List Value}, (∀ r ∈ rows, r.length = sz) → DCells X ρ w rows.flatten vs → DRows X ρ w rows vs
  | [], _, _, _ => trivial
  | r :: rs, vs, hs, h => by
    rw [List.flatten_cons] at h
    have h1 := DCells.take r.length h
    have h2 := DCells.drop r.length h
    rw [List.take_left] at h1
    rw [List.drop_left] at h2
    refine ⟨?_, DRows.of_cells (fun r hr => hs r (List.mem_cons_of_mem _ hr)) h2⟩
    have := DCells.more (us := vs.drop r.length) h1
    rwa [List.take_append_drop] at this
theorem DRows.to_cells {sz : Nat} : ∀ {rows : List (List D)} {vs : List Value}, DRows X ρ w rows vs → DCells X ρ w rows.flatten vs
  | [], _, _ => trivial
  | r :: rs, vs, h => by
    rw [List.flatten_cons]
    exact DCells.append h.1 (DRows.to_cells (sz := sz) h.2)
theorem DRows.len {sz : Nat} {rows : List (List D)} {vs : List Value} (hs : ∀ r ∈ rows, r.length = sz) (h : DRows X ρ w rows vs) : rows.length * sz ≤ vs.length := by
  have := DCells.len (DRows.to_cells (sz := sz) h)
  rwa [List.length_flatten, List.map_congr_left hs, List.map_const', List.sum_replicate_nat] at this
theorem splice_get {α : Type} {l c : List α} {o : Nat} (h : o ≤ l.length) (i : Nat) : (splice l o c)[i]? = if i < o then l[i]? else if i < o + c.length then c[i - o]? else l[i]? := by
  unfold splice
  rw [List.append_assoc, List.getElem?_append]
  have h1 : (l.take o).length = o := by simp; omega
  rw [h1]
  split
  · rw [List.getElem?_take, if_pos (by assumption)]
  · rw [List.getElem?_append]
    split
    · rw [if_pos (by omega)]
    · rw [if_neg (by omega), List.getElem?_drop]
      congr 1; omega
theorem DCells.of_get : ∀ {ds : List D} {vs : List Value}, (∀ (i : Nat) (d : D), ds[i]? = some d → ∃ v, vs[i]? = some v ∧ DCell X ρ w d v) → DCells X ρ w ds vs
  | [], _, _ => trivial
  | d :: ds, vs, h => by
    obtain ⟨v, hv, hd⟩ := h 0 d rfl
    cases vs with
    | nil => simp at hv
    | cons u us =>
      simp at hv; subst hv
      exact ⟨hd, DCells.of_get fun i e he => by simpa using h (i + 1) e (by simpa using he)⟩
theorem DRows.of_get {sz : Nat} : ∀ {rows : List (List D)} {vs : List Value}, (∀ r ∈ rows, r.length = sz) → (∀ (i : Nat) (r : List D), rows[i]? = some r → DCells X ρ w r (vs.drop (i * sz))) → DRows X ρ w rows vs
  | [], _, _, _ => trivial
  | r :: rs, vs, hs, h => by
    refine ⟨by simpa using h 0 r rfl, DRows.of_get (sz := sz) (fun r hr => hs r (List.mem_cons_of_mem _ hr)) fun i q hq => ?_⟩
    have := h (i + 1) q (by simpa using hq)
    rw [hs r List.mem_cons_self, List.drop_drop]
    rwa [Nat.add_mul, Nat.one_mul, Nat.add_comm] at this
theorem mul_apart {i k sz m : Nat} (h : i ≠ k) (hm : m < sz) : k * sz + m < i * sz ∨ i * sz + sz ≤ k * sz + m := by
  rcases Nat.lt_or_gt_of_ne h with h | h
  · right
    have : (i + 1) * sz ≤ k * sz := Nat.mul_le_mul_right sz h
    rw [Nat.add_mul] at this; omega
  · left
    have : (k + 1) * sz ≤ i * sz := Nat.mul_le_mul_right sz h
    rw [Nat.add_mul] at this; omega
theorem DRows.set {sz : Nat} {rows : List (List D)} {vs : List Value} {i j : Nat} {row c : List D} {us : List Value} (hs : ∀ r ∈ rows, r.length = sz) (h : DRows X ρ w rows vs) (hi : rows[i]? = some row) (hc : DCells X ρ w c us) (hl : c.length = us.length) (hj : j + c.length ≤ sz) :
    DRows X ρ w (rows.set i (splice row j c)) (splice vs (i * sz + j) us) := by
  have hrow : row.length = sz := hs row (List.mem_of_getElem? hi)
  have hsp : (splice row j c).length = sz := by rw [splice_length (by omega)]; exact hrow
  have hlen := DRows.len hs h
  have hi' : i < rows.length := (List.getElem?_eq_some_iff.1 hi).1
  have hbound : i * sz + sz ≤ vs.length := by
    have : (i + 1) * sz ≤ rows.length * sz := Nat.mul_le_mul_right sz hi'
    rw [Nat.add_mul] at this; omega
  refine DRows.of_get (sz := sz) ?_ ?_
  · intro r hr
    rcases List.mem_or_eq_of_mem_set hr with h' | h'
    · exact hs r h'
    · rw [h']; exact hsp
  · intro k r hk
    by_cases hik : i = k
    · subst hik
      rw [List.getElem?_set_self hi'] at hk
      injection hk with hk; subst hk
      have e : (splice vs (i * sz + j) us).drop (i * sz) = splice (vs.drop (i * sz)) j us := by
        apply List.ext_getElem?
        intro m
        rw [List.getElem?_drop, splice_get (by omega), splice_get (by simp; omega), List.getElem?_drop]
        by_cases h1 : m < j
        · rw [if_pos h1, if_pos (by omega)]
        · rw [if_neg h1, if_neg (by omega)]
          by_cases h2 : m < j + us.length
          · rw [if_pos h2, if_pos (by omega)]; congr 1; omega
          · rw [if_neg h2, if_neg (by omega)]
      rw [e]
      exact DCells.splice (DRows.get hs h hi) hc hl (by omega)
    · rw [List.getElem?_set_ne hik] at hk
      have hr := DRows.get hs h hk
      have hrl := hs r (List.mem_of_getElem? hk)
      refine DCells.of_get fun m d hd => ?_
      obtain ⟨v, hv, hdv⟩ := DCells.get hr hd
      have hm : m < sz := by rw [← hrl]; exact (List.getElem?_eq_some_iff.1 hd).1
      refine ⟨v, ?_, hdv⟩
      rw [List.getElem?_drop] at hv ⊢
      rw [splice_get (by omega)]
      rcases mul_apart hik hm with h1 | h1
      · rw [if_pos (by omega)]; exact hv
      · rw [if_neg (by omega), if_neg (by omega)]; exact hv
def chunks (sz : Nat) : Nat → List D → List (List D)
  | 0, _ => []
  | n + 1, l => l.take sz :: chunks sz n (l.drop sz)
theorem chunks_flatten (sz : Nat) : ∀ (n : Nat) (l : List D), l.length = n * sz → (chunks sz n l).flatten = l ∧ (∀ r ∈ chunks sz n l, r.length = sz) ∧ (chunks sz n l).length = n
  | 0, l, h => by simp at h; simp [chunks, h]
  | n + 1, l, h => by
    have hl : (l.drop sz).length = n * sz := by simp [h, Nat.add_mul]
    obtain ⟨h1, h2, h3⟩ := chunks_flatten sz n _ hl
    refine ⟨by simp [chunks, h1], ?_, by simp [chunks, h3]⟩
    intro r hr
    simp only [chunks, List.mem_cons] at hr
    rcases hr with rfl | hr
    · simp [h, Nat.add_mul]
    · exact h2 r hr

/-! ##### new objects -/
theorem does_new {d : D} {sz : Nat} {rows : List (List D)} {nx : Nat} (hsz : 0 < sz) (hrows : ∀ r ∈ rows, r.length = sz ∧ r.all D.one = true) (hm : rows.length ≤ lenMax)
    (h : ∀ X ρ w (a : Act), Real T.glob X ρ w E H a.tmps → ∃ (v : Value) (cells : Array Value) (e : TypeId) (w1 : World) (cap : Nat), (execOp a.eval o).run P w = .ok (.value v) w1 ∧ w1.heap = w.heap.push (.cells cells e (0, 0)) ∧ w1.os = w.os ∧ w1.tape = w.tape ∧ w1.output = w.output ∧
      rows.length ≤ cap ∧ cap ≤ capMax ∧ cells.size = cap * sz ∧ DCells X ρ w rows.flatten cells.toList ∧
      (∀ X' ρ', ρ' nx = .live w.heap.size sz cap → DCell X' ρ' w1 d v)) : Does T o E H [nx] (Just d [(nx, .arr sz rows)]) := by
  intro X ρ w a Q K r hnw hK
  obtain ⟨v, cells, e, w1, cap, hrun, hh, ho, ht, hu, hc1, hc2, hcs, hcells, hd⟩ := h X ρ w a r
  have st := Step.new r.mem (hnw nx (by simp)) sz cap (.cells cells e (0, 0)) w1 hh ho ht hu
  unfold Oper.wp
  rw [hrun]
  have hslot : setSlot ρ nx (.live w.heap.size sz cap) nx = .live w.heap.size sz cap := if_pos rfl
  refine hK d [(nx, .arr sz rows)] v w1 (fun b => X b ∨ b = w.heap.size) (setSlot ρ nx (.live w.heap.size sz cap)) ⟨rfl, rfl⟩ ?_ (hd _ _ hslot) ?_
  · have : (fun p => p ∈ [(nx, Ob.arr sz rows)].map (·.1)) = fun q => q = nx := by funext q; simp
    rw [this]; exact st
  · intro x hx
    simp at hx; subst hx
    refine ⟨hsz, hrows, hm, ?_⟩
    simp only [hslot, true_and]
    refine ⟨hc1, hc2, cells, e, (0, 0), by rw [hh]; simp, hcs, fun i _ => by simp, ?_⟩
    exact DRows.keep (st.keeps r.mem) st.slots _ _ (DRows.of_cells (fun r hr => (hrows r hr).1) hcells)
def allT {α : Type} (p : α → Bool) (l : List α) (K : Prop) : Prop := match l.all p with | true => K | false => False
theorem allT_out {α : Type} {p : α → Bool} {l : List α} {J : Prop} (h : allT p l J) : l.all p = true ∧ J := by
  unfold allT at h; split at h
  · exact ⟨by assumption, h⟩
  · exact h.elim
def boxK (nx : Nat) (cells : Option (List D)) (K : D → List (Nat × Ob) → List Nat → Prop) : Prop :=
  match cells with
  | some (c :: cs) => allT D.one (c :: cs) (K (.ptr nx 0 0) [(nx, .arr (cs.length + 1) [c :: cs])] [nx])
  | _ => False
abbrev KT := D → List (Nat × Ob) → List Nat → Prop
theorem box_does {J : KT} {nx t : Nat} {x : Operand} (h : boxK nx ((ev T E t x).bind D.cells1) J) (ho : o.op = .box t x) : ∃ d ups nw, J d ups nw ∧ (∀ p ∈ nw, p = nx) ∧ Does T o E H nw (Just d ups) := by
  unfold boxK at h
  split at h
  · rename_i c cs hcs
    obtain ⟨hone, h⟩ := allT_out h
    cases hx : ev T E t x with
    | none => rw [hx] at hcs; simp at hcs
    | some d =>
      rw [hx] at hcs
      simp at hcs
      refine ⟨_, _, _, h, by simp, does_new (Nat.succ_pos _) (by simp only [List.mem_singleton, forall_eq]; exact ⟨rfl, hone⟩) (by simp [lenMax]) fun X ρ w a r => ?_⟩
      obtain ⟨h1, h2⟩ := D.cells1_val hcs (ev_cell r hx)
      refine ⟨.pointer (some ⟨w.heap.size, 0, none⟩), (a.eval x).cells, t, { w with heap := w.heap.push (.cells (a.eval x).cells t (0, 0)) }, 1, ?_, rfl, rfl, rfl, rfl, by simp, by simp [capMax], by simp [h2], by simpa using h1, fun X' ρ' hs => ?_⟩
      · simp [execOp, ho, Instr.box, newVar, newRow, newObj, Sem.run]
      · unfold DCell; simp [hs]
  · exact h.elim
theorem alloc_does {J : KT} {nx t : Nat} (h : boxK nx (some ((T.ty t).zero.map .v)) J) (ho : o.op = .alloc t) : ∃ d ups nw, J d ups nw ∧ (∀ p ∈ nw, p = nx) ∧ Does T o E H nw (Just d ups) := by
  unfold boxK at h
  split at h
  · rename_i c cs hcs
    obtain ⟨hone, h⟩ := allT_out h
    injection hcs with hcs
    have hne : (T.ty t).zero ≠ [] := by intro e; rw [e] at hcs; simp at hcs
    refine ⟨_, _, _, h, by simp, does_new (Nat.succ_pos _) (by simp only [List.mem_singleton, forall_eq]; exact ⟨rfl, hone⟩) (by simp [lenMax]) fun X ρ w a r => ?_⟩
    obtain ⟨z, hz, hzs, hzc⟩ := T.run_zero hne w
    have hl : (T.ty t).zero.length = cs.length + 1 := by have := congrArg List.length hcs; simpa using this
    refine ⟨.pointer (some ⟨w.heap.size, 0, none⟩), z.cells, t, { w with heap := w.heap.push (.cells z.cells t (0, 0)) }, 1, ?_, rfl, rfl, rfl, rfl, by simp, by simp [capMax], by omega, ?_, fun X' ρ' hs => ?_⟩
    · simp [execOp, ho, Instr.alloc, hz, newVar, newRow, newObj, Sem.run]
    · rw [List.flatten_cons, List.flatten_nil, List.append_nil, ← hcs]
      exact VCells.toD (hzc X w)
    · unfold DCell; simp [hs]
  · exact h.elim

/-! ##### struct and slice literals -/
def evs (T : Tab P) (E : Nat → Option D) (ty : Nat → Nat) : List (Nat × Operand) → List (Nat × Option D)
  | [] => []
  | (i, x) :: r => (i, ev T E (ty i) x) :: evs T E ty r
theorem evs_ok {ty : Nat → Nat} {a : Act} (r : Real T.glob X ρ w E H a.tmps) : ∀ (l : List (Nat × Operand)), (evs T E ty l).length = (l.map fun (x : Nat × Operand) => (x.1, a.eval x.2)).length ∧
    ∀ (k : Nat) (x : Nat × Option D) (y : Nat × Value), (evs T E ty l)[k]? = some x → (l.map fun (x : Nat × Operand) => (x.1, a.eval x.2))[k]? = some y → x.1 = y.1 ∧ ∀ d, x.2 = some d → DCell X ρ w d y.2
  | [] => ⟨rfl, fun k x y h => by simp [evs] at h⟩
  | (i, x) :: l => by
    obtain ⟨h1, h2⟩ := evs_ok (ty := ty) r l
    refine ⟨by simp [evs, h1], fun k p q hp hq => ?_⟩
    cases k with
    | zero =>
      simp [evs] at hp hq
      subst hp; subst hq
      exact ⟨rfl, fun d hd => ev_cell r hd⟩
    | succ k => exact h2 k p q (by simpa [evs] using hp) (by simpa using hq)
def places (T : Tab P) : List (Nat × Nat) → Option (List (Nat × Nat))
  | [] => some []
  | (t, off) :: fs => match (T.ty t).size, places T fs with
    | n + 1, some r => some ((off, n + 1) :: r)
    | _, _ => none
def buildK (T : Tab P) (E : Nat → Option D) (t : Nat) (parts : List (Nat × Operand)) (K : D → Prop) : Prop :=
  match (T.ty t).d with
  | .struct fs => match places T fs, (T.ty t).zero with
    | some pl, z :: zs => match fillD (pl[·]?) ((z :: zs).map .v) (evs T E (fun i => ((fs[i]?).map (·.1)).getD 0) parts) with
      | some cells => K (.agg cells)
      | none => False
    | _, _ => False
  | _ => False
theorem places_run : ∀ {fs : List (Nat × Nat)} {gs : List Field} {pl : List (Nat × Nat)}, places T fs = some pl → fs = gs.map (fun f => (f.type, f.offset)) →
    ((gs.mapM fun (f : Field) => (do pure (f.offset, ← sizeOf f.type) : Sem (Nat × Nat)))).run P w = .ok pl w
  | [], [], pl, h, _ => by simp [places] at h; subst h; simp
  | [], _ :: _, pl, h, hf => by simp at hf
  | _ :: _, [], pl, h, hf => by simp at hf
  | (t, off) :: fs, g :: gs, pl, h, hf => by
    simp at hf
    obtain ⟨⟨rfl, rfl⟩, hf⟩ := hf
    simp only [places] at h
    split at h
    · rename_i n r hn hr
      injection h with h; subst h
      have ih := places_run hr hf
      have hs : 0 < (T.ty g.type).size := by rw [hn]; omega
      rw [List.mapM_cons]
      simp only [Sem.run_bind, T.run_size hs, Result.andThen_ok, Sem.run_pure, hn]
      rw [ih]
      simp
    · cases h
theorem build_val {J : D → Prop} {t : Nat} {parts : Array (Nat × Operand)} (h : buildK T E t parts.toList J) (ho : o.op = .build t parts) : ∃ d, J d ∧ Val T o E H d := by
  unfold buildK at h
  split at h
  · rename_i fs hd
    obtain ⟨gs, hu, hfs⟩ := T.struct hd
    split at h
    · rename_i pl z zs hpl hz
      split at h
      · rename_i cells hfill
        refine ⟨_, h, fun X ρ w a r => ?_⟩
        have hne : (T.ty t).zero ≠ [] := by rw [hz]; simp
        obtain ⟨zv, hzr, hzs, hzc⟩ := T.run_zero hne w
        obtain ⟨h1, h2⟩ := evs_ok (ty := fun i => ((fs[i]?).map (·.1)).getD 0) r parts.toList
        obtain ⟨us, e1, e2, e3⟩ := fillD_fill _ (parts.toList.map fun (x : Nat × Operand) => (x.1, a.eval x.2)) _ _ zv.cells hfill h1 h2 (by rw [← hz]; exact VCells.toD (hzc X w)) (by rw [hzs, hz]; simp)
        refine ⟨.agg us, ?_, us.toList, by simp, by simpa using e3, e2⟩
        have hm := places_run (P := P) (w := w) hpl hfs
        have hm2 : (gs.mapM fun (f : Field) => (do pure (f.offset, ← sizeOf f.type) : Sem (Nat × Nat))).run P w = .ok pl.toArray w := by
          rw [Array.mapM_eq_mapM_toList]
          simp only [Sem.run_map, hm, Result.andThen_ok]
        simp only [execOp, ho, Instr.build, Sem.run_bind, hzr, Result.andThen_ok, run_underlying hu, hm2]
        have hfun : (fun x : Nat => pl.toArray[x]?) = fun x : Nat => pl[x]? := by funext x; simp
        rw [hfun]
        have harr : (parts.map fun (x : Nat × Operand) => (x.1, a.eval x.2)).toList = parts.toList.map fun (x : Nat × Operand) => (x.1, a.eval x.2) := by simp
        rw [harr, e1]
        simp
      · exact h.elim
    · exact h.elim
  · exact h.elim
def buildSliceK (T : Tab P) (E : Nat → Option D) (nx t len : Nat) (parts : List (Nat × Operand)) (K : KT) : Prop :=
  match (T.ty t).d with
  | .slice e => match (T.ty e).size, (T.ty e).zero with
    | n + 1, z :: zs => match Nat.beq (zs.length + 1) (n + 1), Nat.ble (len * (n + 1)) 16777216 with
      | true, true => match fillD (fun i => some (i * (n + 1), n + 1)) ((List.replicate len ((z :: zs).map D.v)).flatten) (evs T E (fun _ => e) parts) with
        | some cells => forceL cells fun cells => allT D.one cells (forceLL (chunks (n + 1) len cells) fun rows => K (.arr nx 0 len) [(nx, .arr (n + 1) rows)] [nx])
        | none => False
      | _, _ => False
    | _, _ => False
  | _ => False
theorem zeros_rep (z : Array Value) (hz : 0 < z.size) : ∀ n, (List.range (n * z.size)).map (fun i => z[i % z.size]!) = (List.replicate n z.toList).flatten := by
  intro n
  apply List.ext_getElem?
  intro i
  have hlen : ((List.replicate n z.toList).flatten).length = n * z.size := by simp [List.length_flatten]
  by_cases hi : i < n * z.size
  · rw [List.getElem?_map, List.getElem?_range hi]
    have key : ∀ (n i : Nat), i < n * z.size → ((List.replicate n z.toList).flatten)[i]? = some (z[i % z.size]!) := by
      intro n
      induction n with
      | zero => intro i hi; simp at hi
      | succ n ih =>
        intro i hi
        rw [List.replicate_succ, List.flatten_cons, List.getElem?_append]
        split
        · rename_i h
          have h : i < z.size := by simpa using h
          rw [Nat.mod_eq_of_lt h]
          simp [h]
        · rename_i h
          have h : z.size ≤ i := by simpa using h
          have : i - z.toList.length < n * z.size := by
            rw [Nat.add_mul] at hi
            simp; omega
          rw [ih _ this]
          congr 2
          have : i % z.size = (i - z.size) % z.size := by
            conv => lhs; rw [show i = (i - z.size) + z.size from by omega, Nat.add_mod_right]
          simp [this]
    rw [key n i hi]; rfl
  · rw [List.getElem?_eq_none (by simp; omega), List.getElem?_eq_none (by omega)]
theorem DCells.replicate {cs : List D} {vs : List Value} (h : DCells X ρ w cs vs) (hl : cs.length = vs.length) : ∀ n, DCells X ρ w (List.replicate n cs).flatten (List.replicate n vs).flatten
  | 0 => trivial
  | n + 1 => by
    rw [List.replicate_succ, List.replicate_succ, List.flatten_cons, List.flatten_cons]
    refine DCells.append (DCells.more h) ?_
    rw [hl, List.drop_left]
    exact DCells.replicate h hl n
theorem all_flatten {α : Type} {p : α → Bool} : ∀ {l : List (List α)}, l.flatten.all p = true → ∀ r ∈ l, r.all p = true := by
  intro l h r hr
  rw [List.all_eq_true] at h ⊢
  exact fun x hx => h x (List.mem_flatten.2 ⟨r, hr, hx⟩)
theorem buildSlice_does {J : KT} {nx t len : Nat} {parts : Array (Nat × Operand)} (h : buildSliceK T E nx t len parts.toList J) (ho : o.op = .buildSlice t len parts) : ∃ d ups nw, J d ups nw ∧ (∀ p ∈ nw, p = nx) ∧ Does T o E H nw (Just d ups) := by
  unfold buildSliceK at h
  split at h
  · rename_i e hd
    split at h
    · rename_i n z zs hsz hz
      split at h
      · rename_i hb1 hb2
        have hb1 : zs.length + 1 = n + 1 := Nat.eq_of_beq_eq_true hb1
        have hb2 : len * (n + 1) ≤ 16777216 := Nat.le_of_ble_eq_true hb2
        split at h
        · rename_i cells hfill
          simp only [forceL_eq, forceLL_eq] at h
          obtain ⟨hone, h⟩ := allT_out h
          have hs : 0 < (T.ty e).size := by rw [hsz]; omega
          have hne : (T.ty e).zero ≠ [] := by rw [hz]; simp
          have hflat : ((List.replicate len ((z :: zs).map D.v)).flatten).length = len * (n + 1) := by
            simp [List.length_flatten, hb1]
          have hrun : ∀ X ρ w (a : Act), Real T.glob X ρ w E H a.tmps → ∃ us : Array Value, (execOp a.eval o).run P w = .ok (.value (.slice (some ⟨w.heap.size, 0, none⟩) len len)) { w with heap := w.heap.push (.cells us e (0, 0)) } ∧ DCells X ρ w cells us.toList ∧ us.size = cells.length := by
            intro X ρ w a r
            obtain ⟨zv, hzr, hzs, hzc⟩ := T.run_zero hne w
            have hzs : zv.cells.size = n + 1 := by rw [hzs, hz]; simpa using hb1
            obtain ⟨h1, h2⟩ := evs_ok (ty := fun _ => e) r parts.toList
            have hbase : ((Array.range (len * (n + 1))).map fun i => zv.cells[i % zv.cells.size]!).toList = (List.replicate len zv.cells.toList).flatten := by
              have := zeros_rep zv.cells (by omega) len
              rw [hzs] at this
              rw [← this]
              simp [hzs]
            obtain ⟨us, e1, e2, e3⟩ := fillD_fill _ (parts.toList.map fun (x : Nat × Operand) => (x.1, a.eval x.2)) _ _ ((Array.range (len * (n + 1))).map fun i => zv.cells[i % zv.cells.size]!) hfill h1 h2
              (by rw [hbase]; exact DCells.replicate (by rw [← hz]; exact VCells.toD (hzc X w)) (by simp [hzs, hb1]) len) (by rw [hflat]; simp)
            refine ⟨us, ?_, e2, e3⟩
            simp only [execOp, ho, Instr.buildSlice, Sem.run_bind, run_underlying (T.slice hd), Result.andThen_ok, T.run_size hs, hsz, Nat.succ_eq_add_one]
            rw [if_neg (by omega)]
            have harr : (parts.map fun (x : Nat × Operand) => (x.1, a.eval x.2)).toList = parts.toList.map fun (x : Nat × Operand) => (x.1, a.eval x.2) := by simp
            by_cases hlen : len * (n + 1) = 0
            · have hl0 : len = 0 := by
                rcases Nat.mul_eq_zero.1 hlen with h | h
                · exact h
                · omega
              subst hl0
              simp only [Nat.zero_mul, if_true, Sem.run_bind, Sem.run_pure, Result.andThen_ok, harr]
              have : (Array.map (fun x => (#[] : Array Value)[x % (#[] : Array Value).size]!) (Array.range 0)) = ((Array.range (0 * (n + 1))).map fun i => zv.cells[i % zv.cells.size]!) := by simp
              rw [this, e1]
              simp [newRow, newObj, Sem.run]
            · rw [if_neg hlen]
              simp only [Sem.run_bind, hzr, Result.andThen_ok, Sem.run_pure, harr]
              rw [e1]
              simp [newRow, newObj, Sem.run]
          have hcl : cells.length = len * (n + 1) := by
            rw [fillD_len hfill]; exact hflat
          obtain ⟨c1, c2, c3⟩ := chunks_flatten (n + 1) len cells hcl
          refine ⟨_, _, _, h, by simp, does_new (Nat.succ_pos n) (fun r hr => ⟨c2 r hr, all_flatten (by rw [c1]; exact hone) r hr⟩) (by rw [c3]; simp [lenMax]; have : len * 1 ≤ len * (n + 1) := Nat.mul_le_mul_left _ (by omega); omega) fun X ρ w a r => ?_⟩
          obtain ⟨us, e1, e2, e3⟩ := hrun X ρ w a r
          refine ⟨_, us, e, _, len, e1, rfl, rfl, rfl, rfl, by omega, ?_, by omega, by rw [c1]; exact e2, fun X' ρ' hs => ?_⟩
          · have : len * 1 ≤ len * (n + 1) := Nat.mul_le_mul_left _ (by omega)
            simp [capMax]; omega
          · unfold DCell
            simp only [hs]
            refine ⟨by omega, fun h => by simp, fun h => ?_⟩
            have : len = 0 := by omega
            subst this; exact ⟨_, rfl⟩
        · exact h.elim
      · exact h.elim
    · exact h.elim
  · exact h.elim
end
end Go.DL
