/- DL, part 6: store, append, copy, clear, make. Own work; no condition. -/
import Derived.Test.YtdadnjhfennenaaDl5
set_option linter.unusedVariables false
set_option linter.unusedSimpArgs false
namespace Go.DL
open Go.RowKit

section
variable {P : Program} {T : Tab P} {o : Oper} {E : Nat → Option D} {H : Nat → Ob}
variable {X X' : Nat → Prop} {ρ ρ' : Nat → Slot} {w w' : World}

theorem run_storeCells_ok (g o : Nat) (t : TypeId) (fr : Nat × Nat) : ∀ (vs : List Value) (i : Nat) (cur : Array Value) (w : World), w.heap[g]? = some (.cells cur t fr) → o + i + vs.length ≤ cur.size →
    (∀ k, k < cur.size → ¬ (fr.1 ≤ k ∧ k < fr.2)) → (∀ v ∈ vs, v.oneCell' = true) →
    (storeCells ⟨g, o, none⟩ vs i).run P w = .ok () (w.setRow g (splice cur.toList (o + i) vs).toArray)
  | [], i, cur, w, hg, _, _, _ => by
    simp only [storeCells, splice, List.append_nil, List.length_nil, Nat.add_zero, List.take_append_drop, Array.toArray_toList]
    rw [setRow_self w g cur t fr hg]
    rfl
  | v :: rest, i, cur, w, hg, hl, hf, h1 => by
    have hi : o + i < cur.size := by simp at hl; omega
    have hadd : (⟨g, o, none⟩ : Addr).add i = ⟨g, o + i, none⟩ := addr_add g o i
    have hcell : w.cell? ⟨g, o + i, none⟩ = some cur[o + i] := by simp [World.cell?, hg, hi]
    have hfro : w.frozen? ⟨g, o + i, none⟩ = false := by
      have := hf (o + i) hi
      simp [World.frozen?, hg]
      omega
    have hst : (store ((⟨g, o, none⟩ : Addr).add i) v).run P w = .ok () (w.setRow g (cur.setIfInBounds (o + i) v)) := by
      rw [hadd, run_store P w _ v _ (h1 v (by simp)), hcell]
      simp [hfro, setCell_eq_setRow w g (o + i) cur t fr v hg]
    have ih := run_storeCells_ok g o t fr rest (i + 1) (cur.setIfInBounds (o + i) v) (w.setRow g (cur.setIfInBounds (o + i) v)) (setRow_heap w g cur _ t _ hg) (by simp at hl ⊢; omega) (by simpa using hf) (fun x hx => h1 x (by simp [hx]))
    simp only [storeCells, Sem.run_bind, hst, Result.andThen_ok, ih, setRow_setRow]
    congr 3
    have e := list_seg_step cur.toList (o + i) v rest (by simp at hl ⊢; omega)
    simpa [splice, Array.toList_setIfInBounds, Nat.add_assoc, Nat.add_comm 1] using e

/-- One object gets other rows in place. -/
theorem ObOK.write {p b sz cap : Nat} {rows' : List (List D)} {cs : Array Value} {e : TypeId} {fr : Nat × Nat} (m : Mem X ρ w) (hp : ρ p = .live b sz cap) (hh : w.heap[b]? = some (.cells cs e fr)) (hf : ∀ i, i ≤ cs.size → ¬ (fr.1 ≤ i ∧ i < fr.2))
    (h0 : 0 < sz) (hcap : cap ≤ capMax) (hcs : cs.size = cap * sz) {vs : List Value} (hl : vs.length = cs.size) (hrows : ∀ r ∈ rows', r.length = sz ∧ r.all D.one = true) (hlen : rows'.length ≤ cap) (hmax : rows'.length ≤ lenMax)
    (hr : DRows X ρ w rows' vs) : ObOK X ρ (w.setRow b vs.toArray) p (.arr sz rows') := by
  have st := Step.write m hp vs.toArray
  refine ⟨h0, hrows, hmax, ?_⟩
  simp only [hp, true_and]
  refine ⟨hlen, hcap, vs.toArray, e, fr, setRow_heap w b cs _ e fr hh, by simp; omega, by simpa [hl] using hf, ?_⟩
  exact DRows.keep (st.keeps m) st.slots _ _ (by simpa using hr)

/-! ##### store -/
def storeK (T : Tab P) (E : Nat → Option D) (H : Nat → Ob) (t : Nat) (x y : Operand) (K : KT) : Prop :=
  match ev T E 0 x, (ev T E t y).bind D.cells1, (T.ty t).size with
  | some (.ptr p i j), some cs, n + 1 => match H p with
    | .arr sz rows => rowK rows[i]? fun row => match Nat.beq cs.length (n + 1), Nat.ble (j + cs.length) sz with
      | true, true => allT D.one cs (forceL (splice row j cs) fun row => K .any [(p, .arr sz (rows.set i row))] [])
      | _, _ => False
    | _ => False
  | _, _, _ => False
theorem storeK_does {J : KT} {t nx : Nat} {x y : Operand} (h : storeK T E H t x y J) (ho : o.op = .store t x y) : ∃ d ups nw, J d ups nw ∧ (∀ p ∈ nw, p = nx) ∧ Does T o E H nw (Just d ups) := by
  unfold storeK rowK at h
  simp only [forceL_eq] at h
  split at h
  · rename_i p i j cs n hx hy hn
    split at h
    · rename_i sz rows hp
      split at h
      · rename_i row hrow
        split at h
        · rename_i hb1 hb2
          have hb1 : cs.length = n + 1 := Nat.eq_of_beq_eq_true hb1
          have hb2 : j + cs.length ≤ sz := Nat.le_of_ble_eq_true hb2
          obtain ⟨hone, h⟩ := allT_out h
          refine ⟨_, _, _, h, by simp, ?_⟩
          intro X ρ w a Q K r _ hK
          cases hy' : ev T E t y with
          | none => rw [hy'] at hy; simp at hy
          | some dy =>
            rw [hy'] at hy
            simp at hy
            obtain ⟨hc, hcl⟩ := D.cells1_val hy (ev_cell r hy')
            have hob := r.obs p
            rw [hp] at hob
            obtain ⟨h0, hr1, hmx, hob⟩ := hob
            obtain ⟨b, s, cap, hq, hv⟩ := ptr_live r hp (ev_cell r hx)
            simp only [hq] at hob
            obtain ⟨rfl, h2, h3, arr, e, fr, hh, hs, hf, hrr⟩ := hob
            have hr1' : ∀ r ∈ rows, r.length = s := fun r hr => (hr1 r hr).1
            have hlen := DRows.len hr1' hrr
            have hi : i < rows.length := (List.getElem?_eq_some_iff.1 hrow).1
            have hib : i * s + s ≤ arr.size := by
              have : (i + 1) * s ≤ rows.length * s := Nat.mul_le_mul_right s hi
              rw [Nat.add_mul] at this; simp at hlen; omega
            have hvl : (a.eval y).cells.toList.length = cs.length := by simp [hcl]
            have hst := run_storeCells_ok (P := P) b (i * s + j) e fr (a.eval y).cells.toList 0 arr w hh (by omega) (fun k hk => hf k (Nat.le_of_lt hk)) (DCells.one hone hvl.symm hc)
            rw [Nat.add_zero] at hst
            have hsz : 0 < (T.ty t).size := by rw [hn]; omega
            unfold Oper.wp
            have hrun : (execOp a.eval o).run P w = .ok .skip (w.setRow b (splice arr.toList (i * s + j) (a.eval y).cells.toList).toArray) := by
              simp only [execOp, ho, hv, Instr.storeAt, Instr.sureAddr, Sem.run_bind, Sem.run_pure, Result.andThen_ok, storeVar, T.run_size hsz]
              rw [if_neg (by rw [hn, hcl, hb1]; simp), hst]
              rfl
            rw [hrun]
            have hrow' : row.length = s := hr1' row (List.mem_of_getElem? hrow)
            refine hK .any _ undef _ X ρ ⟨rfl, rfl⟩ ?_ trivial ?_
            · have : (fun q => q ∈ [(p, Ob.arr s (rows.set i (splice row j cs)))].map (·.1)) = fun q => q = p := by funext q; simp
              rw [this]
              exact Step.write r.mem hq _
            · intro z hz
              simp at hz; subst hz
              refine ObOK.write r.mem hq hh hf h0 h3 hs ?_ ?_ (by simpa using h2) (by simpa using hmx) (DRows.set hr1' hrr hrow hc hvl.symm hb2)
              · rw [splice_length (by rw [hvl]; simp; omega)]; simp
              · intro r hr
                rcases List.mem_or_eq_of_mem_set hr with h' | h'
                · exact hr1 r h'
                · subst h'
                  refine ⟨by rw [splice_length (by omega)]; exact hrow', ?_⟩
                  have hro := (hr1 row (List.mem_of_getElem? hrow)).2
                  unfold splice
                  rw [List.all_append, List.all_append]
                  simp only [Bool.and_eq_true]
                  rw [List.all_eq_true] at hro
                  refine ⟨⟨?_, hone⟩, ?_⟩
                  · rw [List.all_eq_true]; exact fun x hx => hro x (List.mem_of_mem_take hx)
                  · rw [List.all_eq_true]; exact fun x hx => hro x (List.mem_of_mem_drop hx)
        · exact h.elim
      · exact h.elim
    · exact h.elim
  · exact h.elim

/-! ##### append -/
theorem growBy_le {newLen : Nat} : ∀ (k c : Nat), 256 ≤ c → Builtin.growBy newLen k c ≤ max c (2 * newLen)
  | 0, c, _ => by simp [Builtin.growBy]; omega
  | k + 1, c, hc => by
    unfold Builtin.growBy
    split
    · omega
    · have := growBy_le (newLen := newLen) k (c + (c + 768) / 4) (by omega)
      omega
theorem nextcap_le {need old : Nat} (h : old < need) : Builtin.nextslicecap need old ≤ 2 * need := by
  unfold Builtin.nextslicecap
  split
  · omega
  · split
    · omega
    · have := growBy_le (newLen := need) 4 old (by omega)
      omega
/-- What is appended: rows of closed or own data. -/
def srcRows (T : Tab P) (E : Nat → Option D) (H : Nat → Ob) (sz : Nat) (t : Nat) (x : Operand) : Option (List (List D)) :=
  match (T.ty t).d, ev T E t x with
  | .slice _, some (.v (.sl s _ xs)) => bif Nat.beq s sz then some (xs.map fun r => r.map .v) else none
  | .slice _, some (.arr p o n) => match H p with
    | .arr s rows => bif Nat.beq s sz then some ((rows.drop o).take n) else none
    | _ => none
  | .str, some (.v (.str s)) => bif Nat.beq 1 sz then some (s.data.toList.map fun b => [.v (.int .u8 b.toNat)]) else none
  | _, _ => none
theorem bytes_rows (s : ByteArray) : ((s.data.toList.map fun b => [D.v (.int .u8 b.toNat)]).flatten) = s.data.toList.map fun b => D.v (.int .u8 b.toNat) := by
  induction s.data.toList with
  | nil => rfl
  | cons b l ih => simp [ih]
theorem VRows.toD {sz : Nat} : ∀ {xs : List (List V)} {vs : List Value}, (∀ r ∈ xs, r.length = sz) → VRows X w xs vs → DRows X ρ w (xs.map fun r => r.map .v) vs
  | [], _, _, _ => trivial
  | r :: rs, vs, hs, h => ⟨VCells.toD h.1, by
      have := VRows.toD (fun r hr => hs r (List.mem_cons_of_mem _ hr)) h.2
      simpa using this⟩
theorem DRows.drop {sz : Nat} : ∀ {xs : List (List D)} {vs : List Value} (n : Nat), (∀ r ∈ xs, r.length = sz) → DRows X ρ w xs vs → DRows X ρ w (xs.drop n) (vs.drop (n * sz))
  | xs, vs, 0, _, h => by simpa using h
  | [], vs, n + 1, _, h => trivial
  | r :: xs, vs, n + 1, hs, h => by
    have := DRows.drop n (fun r hr => hs r (List.mem_cons_of_mem _ hr)) h.2
    rw [hs r List.mem_cons_self, List.drop_drop] at this
    rwa [Nat.add_mul, Nat.one_mul, Nat.add_comm (n * sz)]
theorem DRows.take : ∀ {xs : List (List D)} {vs : List Value} (n : Nat), DRows X ρ w xs vs → DRows X ρ w (xs.take n) vs
  | xs, vs, 0, h => trivial
  | [], vs, n + 1, h => trivial
  | r :: xs, vs, n + 1, h => ⟨h.1, DRows.take n h.2⟩
theorem DCells.takeLen {ds : List D} {vs : List Value} (h : DCells X ρ w ds vs) : DCells X ρ w ds (vs.take ds.length) := by
  have := DCells.take ds.length h
  rwa [List.take_length] at this
theorem all_v {r : List V} (h : r.all V.one = true) : (r.map D.v).all D.one = true := by
  rw [List.all_eq_true] at h ⊢
  intro x hx
  obtain ⟨y, hy, rfl⟩ := List.mem_map.1 hx
  exact h y hy
theorem flat_len {sz : Nat} {rows : List (List D)} (hs : ∀ r ∈ rows, r.length = sz) : rows.flatten.length = rows.length * sz := by
  rw [List.length_flatten, List.map_congr_left hs, List.map_const', List.sum_replicate_nat]
theorem one_flat {sz : Nat} {rows : List (List D)} (hs : ∀ r ∈ rows, r.length = sz ∧ r.all D.one = true) : rows.flatten.all D.one = true := by
  rw [List.all_eq_true]
  intro x hx
  obtain ⟨r, hr, hx⟩ := List.mem_flatten.1 hx
  exact (List.all_eq_true.1 (hs r hr).2) x hx
theorem src_of_cells {sz t e n c : Nat} {A : Option Addr} {rows : List (List D)} (hk : P.underlying t = some (.slice e)) (hn : n = rows.length) (hs : ∀ r ∈ rows, r.length = sz ∧ r.all D.one = true)
    (hne : rows ≠ [] → ∃ b off arr ty fr, A = some ⟨b, off, none⟩ ∧ w.heap[b]? = some (.cells arr ty fr) ∧ DRows X ρ w rows (arr.toList.drop off)) :
    ∃ cells, Src P sz t (.slice A n c) rows.length cells w ∧ DCells X ρ w rows.flatten cells ∧ cells.length = rows.length * sz := by
  subst hn
  by_cases hr : rows = []
  · subst hr
    refine ⟨[], ?_, trivial, by simp⟩
    cases A with
    | none => exact Src.ofNil w hk c
    | some a => exact Src.ofSlice w hk a 0 c [] (by simp) (by simp) (by simp)
  · obtain ⟨b, off, arr, ty, fr, rfl, hh, hd⟩ := hne hr
    have hf := DRows.to_cells (sz := sz) hd
    have hl := DCells.len hf
    have hfl := flat_len fun r hr => (hs r hr).1
    refine ⟨(arr.toList.drop off).take (rows.length * sz), ?_, ?_, by rw [List.length_take]; omega⟩
    · refine Src.ofSlice w hk ⟨b, off, none⟩ rows.length c _ (by rw [List.length_take]; omega) (fun j u hu => cell_at hh j u (by
        rw [List.getElem?_take] at hu; split at hu <;> simp_all)) ?_
      have := DCells.takeLen hf
      rw [hfl] at this
      exact DCells.one (one_flat hs) (by rw [List.length_take]; omega) this
    · have := DCells.takeLen hf
      rwa [hfl] at this
def srcOK (T : Tab P) (E : Nat → Option D) (H : Nat → Ob) (t : Nat) (x : Operand) : Prop :=
  match ev T E t x with
  | some (.arr p o n) => match H p with | .arr _ rows => o + n ≤ rows.length | _ => False
  | _ => True
theorem srcRows_ok {sz t : Nat} {x : Operand} {rows : List (List D)} (h : srcRows T E H sz t x = some rows) (hok : srcOK T E H t x) {X ρ w} {a : Act} (r : Real T.glob X ρ w E H a.tmps) : (∀ r ∈ rows, r.length = sz ∧ r.all D.one = true) ∧
    ∃ cells, Src P sz t (a.eval x) rows.length cells w ∧ DCells X ρ w rows.flatten cells ∧ cells.length = rows.length * sz := by
  unfold srcRows at h
  split at h
  · rename_i e s z xs hd hx
    cases hb : Nat.beq s sz with
    | false => simp [hb] at h
    | true =>
      have hs := Nat.eq_of_beq_eq_true hb
      subst hs
      simp [hb] at h; subst h
      have hv := ev_cell r hx
      unfold DCell VCell at hv
      obtain ⟨h0, hr, hm, hz, A, c, hv, hl, hc, hne⟩ := hv
      have hrow : ∀ r ∈ xs.map (fun r => r.map D.v), r.length = s ∧ r.all D.one = true := by
        intro r hr'
        obtain ⟨q, hq, rfl⟩ := List.mem_map.1 hr'
        exact ⟨by simpa using (hr q hq).1, all_v (hr q hq).2⟩
      refine ⟨hrow, ?_⟩
      rw [hv]
      refine src_of_cells (T.slice hd) (by simp) hrow fun hn => ?_
      obtain ⟨b, off, cs, ty, fr, hA, hX, hh, hR⟩ := hne (by intro e; rw [e] at hn; simp at hn)
      exact ⟨b, off, cs, ty, fr, hA, hh, VRows.toD (fun r hm => (hr r hm).1) hR⟩
  · rename_i e p o' n hd hx
    split at h
    · rename_i s rows' hp
      cases hb : Nat.beq s sz with
      | false => simp [hb] at h
      | true =>
        have hs := Nat.eq_of_beq_eq_true hb
        subst hs
        simp [hb] at h; subst h
        have hv := ev_cell r hx
        have hob := r.obs p
        rw [hp] at hob
        obtain ⟨h0, hr, hm, hob⟩ := hob
        unfold DCell at hv
        have hrow : ∀ r ∈ (rows'.drop o').take n, r.length = s ∧ r.all D.one = true := fun r hr' => hr r (List.mem_of_mem_drop (List.mem_of_mem_take hr'))
        refine ⟨hrow, ?_⟩
        cases hq : ρ p with
        | hole => simp only [hq] at hv
        | dead => simp only [hq] at hob
        | null =>
          simp only [hq] at hv hob
          obtain ⟨⟨A, hv⟩, rfl, rfl⟩ := hv
          rw [hv]
          exact src_of_cells (T.slice hd) (by simp) hrow fun hn => by simp at hn
        | live b z cap =>
          simp only [hq] at hv hob
          obtain ⟨rfl, h2, h3, cs, ty, fr, hh, hcs, hf, hrr⟩ := hob
          obtain ⟨h4, h5, h6⟩ := hv
          unfold srcOK at hok
          simp only [hx, hp] at hok
          have hlen : ((rows'.drop o').take n).length = n := by simp; omega
          have fin : ∀ A c, (n ≠ 0 → A = some ⟨b, o' * z, none⟩) → ∃ cells, Src P z t (.slice A n c) ((rows'.drop o').take n).length cells w ∧ DCells X ρ w ((rows'.drop o').take n).flatten cells ∧ cells.length = ((rows'.drop o').take n).length * z := by
            intro A c hA
            refine src_of_cells (T.slice hd) hlen.symm hrow fun hn => ?_
            have hn0 : n ≠ 0 := by intro e; rw [e] at hn; simp at hn
            exact ⟨b, o' * z, cs, ty, fr, hA hn0, hh, DRows.take n (DRows.drop o' (fun r hr' => (hr r hr').1) hrr)⟩
          by_cases hc : o' < cap
          · rw [h5 hc]; exact fin _ _ fun _ => rfl
          · obtain ⟨A, hA⟩ := h6 (by omega)
            have hn0 : n = 0 := by omega
            rw [hA]
            have := fin (some A) 0 (fun h => absurd hn0 h)
            rw [hn0] at this ⊢
            exact this
    · cases h
  · rename_i s hd hx
    cases hb : Nat.beq 1 sz with
    | false => simp [hb] at h
    | true =>
      have hs := Nat.eq_of_beq_eq_true hb
      subst hs
      simp [hb] at h; subst h
      have hv := ev_cell r hx
      unfold DCell VCell at hv
      rw [hv]
      refine ⟨?_, byteCells s, ?_, ?_, ?_⟩
      · intro r hr
        obtain ⟨b, _, rfl⟩ := List.mem_map.1 hr
        exact ⟨rfl, rfl⟩
      · have := Src.ofString w (T.str hd) s
        rw [List.length_map, Array.length_toList]
        exact this
      · rw [bytes_rows]
        unfold byteCells
        refine DCells.of_get fun i d hd => ?_
        rw [List.getElem?_map] at hd ⊢
        cases hb : s.data.toList[i]? with
        | none => rw [hb] at hd; simp at hd
        | some b => rw [hb] at hd; simp at hd; subst hd; exact ⟨_, rfl, rfl⟩
      · rw [byteCells_length, List.length_map, Array.length_toList]; simp
  · cases h

def appendK (T : Tab P) (E : Nat → Option D) (H : Nat → Ob) (nx : Nat) (args : List Operand) (tys : List Nat) (K : KT) : Prop :=
  match args, tys with
  | [s, x], [t, tx] => match (T.ty t).d with
    | .slice e => match (T.ty e).size, (T.ty e).bytes, (T.ty e).zero with
      | n + 1, b + 1, z :: zs => match Nat.beq (zs.length + 1) (n + 1), srcRows T E H (n + 1) tx x with
        | true, some news => match ev T E t s with
          | some (.v (.sl sz true xs)) => match Nat.beq sz (n + 1) with
            | true => srcOK T E H tx x ∧ news.length * (b + 1) ≤ lenMax ∧ K (.arr nx 0 news.length) [(nx, .arr (n + 1) news)] [nx]
            | false => False
          | some (.arr p 0 len) => match H p with
            | .arr sz rows => match Nat.beq sz (n + 1) with
              | true => srcOK T E H tx x ∧ len ≤ rows.length ∧ (len + news.length) * (b + 1) ≤ lenMax ∧ K (.arr nx 0 (len + news.length)) [(p, .gone), (nx, .arr (n + 1) (rows.take len ++ news))] [nx]
              | false => False
            | _ => False
          | _ => False
        | _, _ => False
      | _, _, _ => False
    | _ => False
  | _, _ => False
theorem run_append_call {c : Call} {s x : Operand} {t tx : Nat} (ho : o.op = .call c) (hc : c.callee = .builtin .append) (ha : c.args.toList = [s, x]) (ht : c.argTypes.toList = [t, tx]) (a : Act) (w : World) {v : Value} {w1 : World}
    (h : (Builtin.append_ #[t, tx] o.type #[a.eval s, a.eval x]).run P w = .ok v w1) : (execOp a.eval o).run P w = .ok (.value v) w1 := by
  have h1 : c.args.map a.eval = #[a.eval s, a.eval x] := by rw [← Array.toList_inj]; simp [ha]
  have h2 : c.argTypes = #[t, tx] := by rw [← Array.toList_inj]; simp [ht]
  simp only [execOp, ho, resolve, hc, Sem.run_bind, Sem.run_pure, Result.andThen_ok, invoke, h1, h2, builtin, h]
/-- A step that gives a place p up for nx: nx lies where p lay, or nowhere. -/
theorem Step.moved (m : Mem X ρ w) {p nx : Nat} {s : Slot} (hnx : ρ nx = .hole) (hs : s = .null ∨ ∃ b sz cap, s = .live b sz cap ∧ ρ p = .live b sz cap) (w1 : World) (ho : w1.os = w.os) (ht : w1.tape = w.tape) (hu : w1.output = w.output) (hsz : w1.heap.size = w.heap.size)
    (hh : ∀ b, (∀ sz cap, ρ p ≠ .live b sz cap) → w1.heap[b]? = w.heap[b]?) : Step (fun q => q = p ∨ q = nx) X ρ w X (setSlot (setSlot ρ p .dead) nx s) w1 := by
  have get : ∀ q b sz cap, setSlot (setSlot ρ p .dead) nx s q = .live b sz cap → (q = nx ∧ ρ p = .live b sz cap) ∨ (q ≠ nx ∧ q ≠ p ∧ ρ q = .live b sz cap) := by
    intro q b sz cap h
    unfold setSlot at h
    split at h
    · rename_i hq
      rcases hs with rfl | ⟨b', sz', cap', rfl, hp⟩
      · cases h
      · injection h with h1 h2 h3; subst h1 h2 h3; exact .inl ⟨hq, hp⟩
    · split at h
      · cases h
      · exact .inr ⟨by assumption, by assumption, h⟩
  refine ⟨ho, ht, hu, by omega, ?_, ?_, ?_, fun b h => .inl h, fun b h => .inl h, ?_, ⟨?_, ?_, ?_⟩⟩
  · intro b hb hn; exact hh b fun sz cap e => hn p sz cap (.inl rfl) e
  · intro q
    by_cases h1 : q = nx
    · subst h1; exact .inl hnx
    · by_cases h2 : q = p
      · right; right; unfold setSlot; rw [if_neg h1, if_pos h2]
      · right; left; unfold setSlot; rw [if_neg h1, if_neg h2]
  · intro q hq
    unfold setSlot
    rw [if_neg (fun h => hq (.inr h)), if_neg (fun h => hq (.inl h))]
  · intro q b sz cap h
    rcases get q b sz cap h with ⟨_, h⟩ | ⟨_, _, h⟩
    · exact .inl ⟨p, sz, cap, h⟩
    · exact .inl ⟨q, sz, cap, h⟩
  · intro b h; rw [hsz]; exact m.lt b h
  · intro q b sz cap h
    rcases get q b sz cap h with ⟨_, h⟩ | ⟨_, _, h⟩
    · exact m.live p b sz cap h
    · exact m.live q b sz cap h
  · intro q q' b sz cap sz' cap' h h'
    rcases get q b sz cap h with ⟨h1, h2⟩ | ⟨h1, h2, h3⟩ <;> rcases get q' b sz' cap' h' with ⟨h1', h2'⟩ | ⟨h1', h2', h3'⟩
    · exact h1.trans h1'.symm
    · exact absurd (m.inj _ _ b _ _ _ _ h2 h3').symm h2'
    · exact absurd (m.inj _ _ b _ _ _ _ h2' h3).symm h2
    · exact m.inj _ _ b _ _ _ _ h3 h3'
/-- A step that gives p up for a new block at nx. -/
theorem Step.moved_new (m : Mem X ρ w) {p nx : Nat} (hnx : ρ nx = .hole) (sz cap : Nat) (x : Obj) (w1 : World) (hh : w1.heap = w.heap.push x) (ho : w1.os = w.os) (ht : w1.tape = w.tape) (hu : w1.output = w.output) :
    Step (fun q => q = p ∨ q = nx) X ρ w (fun b => X b ∨ b = w.heap.size) (setSlot (setSlot ρ p .dead) nx (.live w.heap.size sz cap)) w1 := by
  have get : ∀ q b s c, setSlot (setSlot ρ p .dead) nx (.live w.heap.size sz cap) q = .live b s c → (q = nx ∧ b = w.heap.size) ∨ (q ≠ nx ∧ q ≠ p ∧ ρ q = .live b s c) := by
    intro q b s c h
    unfold setSlot at h
    split at h
    · injection h with h1 h2 h3; exact .inl ⟨by assumption, h1.symm⟩
    · split at h
      · cases h
      · exact .inr ⟨by assumption, by assumption, h⟩
  refine ⟨ho, ht, hu, by rw [hh]; simp, ?_, ?_, ?_, fun b h => .inl (.inl h), ?_, ?_, ⟨?_, ?_, ?_⟩⟩
  · intro b hb _; rw [hh, Array.getElem?_push, if_neg (by omega)]
  · intro q
    by_cases h1 : q = nx
    · subst h1; exact .inl hnx
    · by_cases h2 : q = p
      · right; right; unfold setSlot; rw [if_neg h1, if_pos h2]
      · right; left; unfold setSlot; rw [if_neg h1, if_neg h2]
  · intro q hq
    unfold setSlot
    rw [if_neg (fun h => hq (.inr h)), if_neg (fun h => hq (.inl h))]
  · rintro b (h | h)
    · exact .inl h
    · exact .inr (by omega)
  · intro q b s c h
    rcases get q b s c h with ⟨_, h⟩ | ⟨_, _, h⟩
    · exact .inr (by omega)
    · exact .inl ⟨q, s, c, h⟩
  · rintro b (h | h)
    · have := m.lt b h; rw [hh]; simp; omega
    · rw [hh]; simp; omega
  · intro q b s c h
    rcases get q b s c h with ⟨_, h⟩ | ⟨_, _, h⟩
    · exact .inr h
    · exact .inl (m.live q b s c h)
  · intro q q' b s c s' c' h h'
    rcases get q b s c h with ⟨h1, h2⟩ | ⟨h1, h2, h3⟩ <;> rcases get q' b s' c' h' with ⟨h1', h2'⟩ | ⟨h1', h2', h3'⟩
    · exact h1.trans h1'.symm
    · have := m.lt b (m.live _ _ _ _ h3'); omega
    · have := m.lt b (m.live _ _ _ _ h3); omega
    · exact m.inj _ _ b _ _ _ _ h3 h3'
theorem zeroCells_size (z : Array Value) (n : Nat) : (Builtin.zeroCells z n).size = n * z.size := by simp [Builtin.zeroCells]
/-- The end of an append that makes a new block. -/
theorem app_new {J : Act → World → Prop} {a : Act} (r : Real T.glob X ρ w E H a.tmps) {p nx sz m cap : Nat} {e : TypeId} {rows : List (List D)} {ups : List (Nat × Ob)} (hnx : ρ nx = .hole) (hups : (ups = [(nx, .arr sz rows)] ∧ p = nx) ∨ ups = [(p, .gone), (nx, .arr sz rows)])
    (hK : ∀ d us v w' X' ρ', Just (.arr nx 0 m) ups d us → Step (fun p => p ∈ us.map (·.1)) X ρ w X' ρ' w' → DCell X' ρ' w' d v → (∀ x ∈ us, ObOK X' ρ' w' x.1 x.2) → J (a.put o.dst v) w')
    (hm : m = rows.length) (h0 : 0 < sz) (hrows : ∀ r ∈ rows, r.length = sz ∧ r.all D.one = true) (hmax : rows.length ≤ lenMax) (hpos : 0 < m) (hmc : m ≤ cap) (hcap : cap ≤ capMax) {cells : Array Value} (hcs : cells.size = cap * sz) (hd : DCells X ρ w rows.flatten cells.toList) :
    J (a.put o.dst (.slice (some ⟨w.heap.size, 0, none⟩) m cap)) (w.drew.alloc (.cells cells e)) := by
  have st := Step.moved_new r.mem (p := p) hnx sz cap (.cells cells e (0, 0)) (w.drew.alloc (.cells cells e)) rfl rfl rfl rfl
  have hslot : setSlot (setSlot ρ p .dead) nx (.live w.heap.size sz cap) nx = .live w.heap.size sz cap := if_pos rfl
  have hob : ObOK (fun b => X b ∨ b = w.heap.size) (setSlot (setSlot ρ p .dead) nx (.live w.heap.size sz cap)) (w.drew.alloc (.cells cells e)) nx (.arr sz rows) := by
    refine ⟨h0, hrows, hmax, ?_⟩
    simp only [hslot, true_and]
    refine ⟨by omega, hcap, cells, e, (0, 0), ?_, hcs, fun i _ => by simp, ?_⟩
    · show (w.heap.push _)[w.heap.size]? = _
      simp
    · exact DRows.keep (st.keeps r.mem) st.slots _ _ (DRows.of_cells (fun r hr => (hrows r hr).1) hd)
  refine hK _ _ _ _ (fun b => X b ∨ b = w.heap.size) (setSlot (setSlot ρ p .dead) nx (.live w.heap.size sz cap)) ⟨rfl, rfl⟩ ?_ ?_ ?_
  · have : (fun q => q ∈ ups.map (·.1)) = fun q => q = p ∨ q = nx := by
      rcases hups with ⟨rfl, rfl⟩ | rfl <;> funext q <;> simp
    rw [this]; exact st
  · unfold DCell
    simp only [hslot]
    refine ⟨by omega, fun _ => by simp, fun h => by omega⟩
  · intro x hx
    rcases hups with ⟨rfl, rfl⟩ | rfl
    · simp at hx; subst hx; exact hob
    · simp at hx
      rcases hx with rfl | rfl
      · trivial
      · exact hob
theorem src_nil {size : Nat} {tx : TypeId} {x : Value} {cells : List Value} (hs : Src P size tx x 0 cells w) : cells = [] := by
  have := hs.newsLen; simp at this; exact this
theorem run_append_idle (t tx ty e : TypeId) (i : TypeInfo) (ht : P.underlying t = some (.slice e)) (hi : P.info? e = some i) (base : Option Addr) (n c : Nat) (hn : n ≤ c) (x : Value) (news : List Value) (hs : Src P i.size tx x 0 news w) :
    (Builtin.append_ #[t, tx] ty #[.slice base n c, x]).run P w = .ok (.slice base n c) w := by
  have := src_nil hs
  subst this
  rcases hs.kind with ⟨e', hk⟩ | hk <;> simp [Builtin.append_, run_underlying ht, run_underlying hk, sizeOf, typeInfo, hi, hs.len, hn, hs.cells] <;> cases base <;> simp [storeCells]
theorem grownCap_bounds (w : World) (need old : Nat) (e : TypeId) (h : need ≤ capMax) : need ≤ grownCap w need old e ∧ grownCap w need old e ≤ capMax := by
  unfold grownCap Question.cut
  simp only
  have e63 : (2 : Nat) ^ 63 = 9223372036854775808 := rfl
  rw [e63]
  unfold capMax at h ⊢
  have h2 : 0 < 9223372036854775808 - need := by omega
  have := Nat.mod_lt (w.tape w.drawn (.appendCap need old e)) h2
  omega
theorem append_does {J : KT} {nx : Nat} {c : Call} (h : appendK T E H nx c.args.toList c.argTypes.toList J) (ho : o.op = .call c) (hc : c.callee = .builtin .append) : ∃ d ups nw, J d ups nw ∧ (∀ p ∈ nw, p = nx) ∧ Does T o E H nw (Just d ups) := by
  unfold appendK at h
  split at h
  · rename_i s x t tx ha hty
    split at h
    · rename_i e hd
      split at h
      · rename_i n b z zs hsz hby hz
        have hs0 : 0 < (T.ty e).size := by rw [hsz]; simp
        obtain ⟨i, u, hi, hu, his, hib, hti⟩ := T.info hs0
        have hisz : i.size = n + 1 := by rw [his, hsz]
        have hiby : i.bytes = b + 1 := by rw [hib, hby]
        have hne : (T.ty e).zero ≠ [] := by rw [hz]; simp
        split at h
        · rename_i news hzl hnews
          obtain ⟨zv, hzv, hzvs⟩ : ∃ zv, i.zero = some zv ∧ zv.cells.size = n + 1 := by
            obtain ⟨i', z', h1, h2, h3⟩ := T.zero_info hne
            rw [hi] at h1; injection h1 with h1; subst h1
            have := Nat.eq_of_beq_eq_true hzl
            exact ⟨z', h2, by rw [h3, hz]; simpa using this⟩
          split at h
          · -- a base without capacity
            rename_i sz xs hs
            split at h
            · rename_i hb
              have hb := Nat.eq_of_beq_eq_true hb
              subst hb
              obtain ⟨hok, hbd, h⟩ := h
              refine ⟨_, _, _, h, by simp, ?_⟩
              intro X ρ w a Q K r hnw hK
              obtain ⟨hrow, cells, hsrc, hdc, hcl⟩ := srcRows_ok hnews hok r
              have hv := ev_cell r hs
              unfold DCell VCell at hv
              obtain ⟨_, _, _, hz1, A0, c0, e1, e2, _⟩ := hv
              obtain ⟨A, hA⟩ := hz1 rfl
              have hnx := hnw nx (by simp)
              unfold Oper.wp
              by_cases hn0 : news = []
              · subst hn0
                rw [run_append_call ho hc ha hty a w (by rw [hA]; exact run_append_idle t tx _ e i (T.slice hd) hi A 0 0 (Nat.le_refl _) _ cells (by rw [hisz]; exact hsrc))]
                have st := Step.moved r.mem (p := nx) hnx (.inl rfl) w rfl rfl rfl rfl (fun _ _ => rfl)
                refine hK _ _ _ _ X (setSlot (setSlot ρ nx .dead) nx .null) ⟨rfl, rfl⟩ ?_ ?_ ?_
                · have : (fun q => q ∈ [(nx, Ob.arr (n + 1) [])].map (·.1)) = fun q => q = nx ∨ q = nx := by funext q; simp
                  rw [this]; exact st
                · unfold DCell; simp [setSlot]
                · intro x hx; simp at hx; subst hx
                  exact ⟨by omega, by simp, by simp, by simp [setSlot]⟩
              · have hpos : 0 < news.length := List.length_pos_iff.2 hn0
                have hfit : Builtin.nextslicecap (0 + news.length) 0 * i.bytes ≤ 281474976710656 := by
                  have h1 := nextcap_le (need := 0 + news.length) (old := 0) (by omega)
                  have h2 := Nat.mul_le_mul_right i.bytes h1
                  rw [hiby] at h2 ⊢
                  simp only [Nat.zero_add, lenMax] at h2 hbd ⊢
                  rw [Nat.mul_assoc] at h2; omega
                have hb1 : news.length ≤ lenMax := by
                  have : news.length * 1 ≤ news.length * (b + 1) := Nat.mul_le_mul_left _ (by omega)
                  omega
                have hrun := run_append_grow_src (P := P) w t tx o.type e i zv (T.slice hd) hi hzv A 0 0 [] (by cases A <;> simp [Builtin.firstCells, loadCells, loadCellsFrom]) (a.eval x) news.length cells (by rw [hisz]; exact hsrc) (by omega) (by simp [lenMax] at hb1; omega) hfit
                rw [run_append_call ho hc ha hty a w (by rw [hA]; exact hrun)]
                simp only [Nat.zero_add] at hrun ⊢
                have hcap := grownCap_bounds w news.length 0 e (by simp [lenMax, capMax] at hb1 ⊢; omega)
                refine app_new r hnx (.inl ⟨rfl, rfl⟩) hK rfl (by omega) hrow hb1 hpos hcap.1 hcap.2 ?_ ?_
                · simp [zeroCells_size, hzvs, hcl]
                  rw [← Nat.add_mul]; congr 1; omega
                · simp
                  exact DCells.more hdc
            · exact h.elim
          · -- a base of the call's own
            rename_i p len hs
            split at h
            · rename_i sz rows hp
              split at h
              · rename_i hb
                have hb := Nat.eq_of_beq_eq_true hb
                subst hb
                obtain ⟨hok, hlen, hbd, h⟩ := h
                refine ⟨_, _, _, h, by simp, ?_⟩
                intro X ρ w a Q K r hnw hK
                obtain ⟨hrow, cells, hsrc, hdc, hcl⟩ := srcRows_ok hnews hok r
                have hv := ev_cell r hs
                have hnx := hnw nx (by simp)
                have hob := r.obs p
                rw [hp] at hob
                obtain ⟨h0, hr1, hmx, hob⟩ := hob
                unfold DCell at hv
                have hb1 : len + news.length ≤ lenMax := by
                  have : (len + news.length) * 1 ≤ (len + news.length) * (b + 1) := Nat.mul_le_mul_left _ (by omega)
                  omega
                have hrows' : ∀ r ∈ rows.take len ++ news, r.length = n + 1 ∧ r.all D.one = true := by
                  intro r hr
                  rcases List.mem_append.1 hr with h | h
                  · exact hr1 r (List.mem_of_mem_take h)
                  · exact hrow r h
                have hlen' : (rows.take len ++ news).length = len + news.length := by simp; omega
                have hfun : (fun q => q ∈ [(p, Ob.gone), (nx, Ob.arr (n + 1) (rows.take len ++ news))].map (·.1)) = fun q => q = p ∨ q = nx := by funext q; simp
                unfold Oper.wp
                -- where there is no room
                have grow : ∀ (A : Option Addr) (cap : Nat) (olds : List Value), (Builtin.firstCells i.size len (.slice A len cap)).run P w.drew = .ok olds.toArray w.drew → a.eval s = .slice A len cap → cap < len + news.length →
                    DCells X ρ w (rows.take len).flatten olds → olds.length = len * (n + 1) → o.upon P a K Q ((execOp a.eval o).run P w) := by
                  intro A cap olds hfc hsv hroom hdo hol
                  have hfit : Builtin.nextslicecap (len + news.length) cap * i.bytes ≤ 281474976710656 := by
                    have h1 := nextcap_le (need := len + news.length) (old := cap) (by omega)
                    have h2 := Nat.mul_le_mul_right i.bytes h1
                    rw [hiby] at h2 ⊢
                    simp only [lenMax] at h2 hbd ⊢
                    rw [Nat.mul_assoc] at h2; omega
                  have hrun := run_append_grow_src (P := P) w t tx o.type e i zv (T.slice hd) hi hzv A len cap olds hfc (a.eval x) news.length cells (by rw [hisz]; exact hsrc) hroom (by simp [lenMax] at hb1; omega) hfit
                  rw [run_append_call ho hc ha hty a w (by rw [hsv]; exact hrun)]
                  have hcap := grownCap_bounds w (len + news.length) cap e (by simp [lenMax, capMax] at hb1 ⊢; omega)
                  refine app_new r hnx (.inr rfl) hK hlen'.symm (by omega) hrows' (by rw [hlen']; exact hb1) (by omega) hcap.1 hcap.2 ?_ ?_
                  · simp [zeroCells_size, hzvs, hcl, hol]
                    rw [← Nat.add_mul, ← Nat.add_mul]; congr 1; omega
                  · rw [List.flatten_append]
                    simp only [Array.toList_append, List.append_assoc]
                    refine DCells.append (DCells.more hdo) ?_
                    have : (rows.take len).flatten.length = olds.length := by
                      rw [flat_len (sz := n + 1) (fun r hr => (hr1 r (List.mem_of_mem_take hr)).1), hol]; congr 1; simp; omega
                    rw [this, List.drop_left]
                    exact DCells.more hdc
                -- where nothing is appended to a slice without capacity
                have idle : ∀ A : Option Addr, a.eval s = .slice A 0 0 → len = 0 → news = [] → o.upon P a K Q ((execOp a.eval o).run P w) := by
                  intro A hsv hl0 hn0
                  subst hl0; subst hn0
                  rw [run_append_call ho hc ha hty a w (by rw [hsv]; exact run_append_idle t tx _ e i (T.slice hd) hi A 0 0 (Nat.le_refl _) _ cells (by rw [hisz]; exact hsrc))]
                  have st := Step.moved r.mem (p := p) hnx (.inl rfl) w rfl rfl rfl rfl (fun _ _ => rfl)
                  refine hK _ _ _ _ X (setSlot (setSlot ρ p .dead) nx .null) ⟨rfl, rfl⟩ (by rw [hfun]; exact st) ?_ ?_
                  · unfold DCell; simp [setSlot]
                  · intro x hx; simp at hx
                    rcases hx with rfl | rfl
                    · trivial
                    · exact ⟨by omega, by simp, by simp, by simp [setSlot]⟩
                cases hq : ρ p with
                | hole => simp only [hq] at hv
                | dead => simp only [hq] at hob
                | null =>
                  simp only [hq] at hv hob
                  obtain ⟨⟨A, hA⟩, _, rfl⟩ := hv
                  by_cases hn0 : news = []
                  · exact idle A hA rfl hn0
                  · have hpos : 0 < news.length := List.length_pos_iff.2 hn0
                    exact grow A 0 [] (by cases A <;> simp [Builtin.firstCells, loadCells, loadCellsFrom]) hA (by omega) (by simp [DCells]) (by simp)
                | live b' z' cap =>
                  simp only [hq] at hv hob
                  obtain ⟨rfl, h2, h3, arr, e', fr, hh, hcs, hf, hrr⟩ := hob
                  obtain ⟨h4, h5, h6⟩ := hv
                  by_cases hc0 : 0 < cap
                  · have hsv := h5 hc0
                    simp only [Nat.zero_mul, Nat.sub_zero] at hsv
                    have hfl := DRows.to_cells (sz := n + 1) (DRows.take len hrr)
                    have hfln := flat_len (sz := n + 1) (rows := rows.take len) (fun r hr => (hr1 r (List.mem_of_mem_take hr)).1)
                    have hfln : (rows.take len).flatten.length = len * (n + 1) := by rw [hfln]; congr 1; simp; omega
                    have hlc : len * (n + 1) ≤ arr.size := by rw [hcs]; exact Nat.mul_le_mul_right _ (by omega)
                    by_cases hroom : len + news.length ≤ cap
                    · have hnl : (len + news.length) * (n + 1) ≤ arr.size := by rw [hcs]; exact Nat.mul_le_mul_right _ hroom
                      rw [Nat.add_mul] at hnl
                      have hst := run_storeCells_ok (P := P) b' (len * (n + 1)) e' fr cells 0 arr w hh (by omega) (fun k hk => hf k (Nat.le_of_lt hk)) hsrc.one
                      rw [Nat.add_zero] at hst
                      have hrun : (Builtin.append_ #[t, tx] o.type #[a.eval s, a.eval x]).run P w = .ok (.slice (some ⟨b', 0, none⟩) (len + news.length) cap) (w.setRow b' (splice arr.toList (len * (n + 1)) cells).toArray) := by
                        rw [hsv]
                        rcases hsrc.kind with ⟨e2, hk⟩ | hk <;> simp [Builtin.append_, run_underlying (T.slice hd), run_underlying hk, sizeOf, typeInfo, hi, hsrc.len, hroom, hsrc.cells, addr_add, hisz, hst]
                      rw [run_append_call ho hc ha hty a w hrun]
                      have st := Step.moved r.mem (p := p) hnx (.inr ⟨b', n + 1, cap, rfl, hq⟩) (w.setRow b' (splice arr.toList (len * (n + 1)) cells).toArray) rfl rfl rfl (by simp) (fun q hne => setRow_other w b' q _ (fun e => hne (n + 1) cap (e ▸ hq)))
                      refine hK _ _ _ _ X (setSlot (setSlot ρ p .dead) nx (.live b' (n + 1) cap)) ⟨rfl, rfl⟩ (by rw [hfun]; exact st) ?_ ?_
                      · unfold DCell
                        simp only [setSlot, if_true]
                        exact ⟨by omega, fun _ => by simp, fun h => by omega⟩
                      · intro y hy; simp at hy
                        rcases hy with rfl | rfl
                        · trivial
                        · refine ⟨by omega, hrows', by rw [hlen']; exact hb1, ?_⟩
                          simp only [setSlot, if_true, true_and]
                          have hsl : (splice arr.toList (len * (n + 1)) cells).length = arr.size := by rw [splice_length (by simp; omega)]; simp
                          refine ⟨by rw [hlen']; exact hroom, h3, _, e', fr, setRow_heap w b' arr _ e' fr hh, by simp [hsl, hcs], by simpa [hsl] using hf, ?_⟩
                          refine DRows.keep (st.keeps r.mem) st.slots _ _ (DRows.of_cells (fun r hr => (hrows' r hr).1) ?_)
                          rw [List.flatten_append]
                          simp only [splice, List.append_assoc]
                          have htk := DCells.takeLen hfl
                          rw [hfln] at htk
                          refine DCells.append (DCells.more htk) ?_
                          have : (arr.toList.take (len * (n + 1))).length = (rows.take len).flatten.length := by rw [hfln, List.length_take]; simp; omega
                          rw [← this, List.drop_left]
                          exact DCells.more hdc
                    · have htk := DCells.takeLen hfl
                      rw [hfln] at htk
                      refine grow _ cap (arr.toList.take (len * (n + 1))) ?_ hsv (by omega) htk (by rw [List.length_take]; simp; omega)
                      have hl : (arr.toList.take (len * (n + 1))).length = len * i.size := by rw [List.length_take, hisz]; simp; omega
                      refine run_firstCells_some w.drew i.size len ⟨b', 0, none⟩ len cap _ hl (fun j u hu => ?_)
                      have := cell_at (w := w) (off := 0) hh j u (by
                        rw [List.getElem?_take] at hu; split at hu <;> simp_all)
                      simpa using this
                  · obtain ⟨A, hA⟩ := h6 (by omega)
                    have hl0 : len = 0 := by omega
                    by_cases hn0 : news = []
                    · exact idle (some A) hA hl0 hn0
                    · have hpos : 0 < news.length := List.length_pos_iff.2 hn0
                      subst hl0
                      exact grow (some A) 0 [] (by simp [Builtin.firstCells, loadCells, loadCellsFrom]) hA (by omega) (by simp [DCells]) (by simp)
              · exact h.elim
            · exact h.elim
          · exact h.elim
        · exact h.elim
      · exact h.elim
    · exact h.elim
  · exact h.elim
end
end Go.DL
