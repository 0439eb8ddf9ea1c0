/- DL, part 14: copy, append of make, overlaps. Own work; no condition. -/
import Derived.Test.YtdadnjhfennenaaDl13
set_option linter.unusedVariables false
set_option linter.unusedSimpArgs false
namespace Go.DL
open Go.RowKit

section
variable {P : Program} {T : Tab P} {o : Oper} {E : Nat → Option D} {H : Nat → Ob} {nx : Nat} {K : KT}

/-! ##### copy -/
/-- The first m rows of a source. -/
def srcM (H : Nat → Ob) (sz m : Nat) : Option D → Option (List (List D))
  | some (.v (.sl s _ xs)) => bif Nat.beq s sz then some ((xs.take m).map fun r => r.map .v) else none
  | some (.arr p o _) => match H p with
    | .arr s rows => bif Nat.beq s sz then some ((rows.drop o).take m) else none
    | _ => none
  | _ => none
theorem srcM_ok {sz m n ts e : Nat} {d : D} {rows : List (List D)} {X : Nat → Prop} {ρ : Nat → Slot} {w : World} {u : Value} (hts : P.underlying ts = some (.slice e)) (h : srcM H sz m (some d) = some rows) (hl : lenD H (some d) = some n) (hm : m ≤ n) (hrl : rows.length = m) (hob : ∀ p, ObOK X ρ w p (H p)) (hd : DCell X ρ w d u) :
    (∀ r ∈ rows, r.length = sz ∧ r.all D.one = true) ∧ ∃ A c cells, u = .slice A n c ∧ (Builtin.firstCells sz m (.slice A n c)).run P w = .ok cells.toArray w ∧ (∀ v ∈ cells, v.oneCell' = true) ∧ DCells X ρ w rows.flatten cells ∧ cells.length = m * sz := by
  have fin : ∀ (A : Option Addr) (c : Nat), (∀ r ∈ rows, r.length = sz ∧ r.all D.one = true) → (rows ≠ [] → ∃ b off arr ty fr, A = some ⟨b, off, none⟩ ∧ w.heap[b]? = some (.cells arr ty fr) ∧ DRows X ρ w rows (arr.toList.drop off)) → u = .slice A n c →
      ∃ A c cells, u = .slice A n c ∧ (Builtin.firstCells sz m (.slice A n c)).run P w = .ok cells.toArray w ∧ (∀ v ∈ cells, v.oneCell' = true) ∧ DCells X ρ w rows.flatten cells ∧ cells.length = m * sz := by
    intro A c h1 h2 hu
    obtain ⟨cells, hsrc, hdc, hcl⟩ := src_of_cells (P := P) (t := ts) (c := c) hts hrl.symm h1 h2
    refine ⟨A, c, cells, hu, ?_, hsrc.one, hdc, by rw [hcl, hrl]⟩
    have := hsrc.cells
    rw [hrl] at this
    cases A <;> exact this
  unfold srcM at h
  split at h
  · rename_i s z xs heq
    injection heq with heq; subst heq
    simp only [lenD] at hl
    injection hl with hl; subst hl
    cases hb : Nat.beq s sz with
    | false => simp [hb] at h
    | true =>
      have hs := Nat.eq_of_beq_eq_true hb
      subst hs
      simp [hb] at h; subst h
      unfold DCell VCell at hd
      obtain ⟨h0, hr, hm', hz, A, c, hv, hlc, hc, hne⟩ := hd
      have hrow : ∀ r ∈ (xs.take m).map (fun r => r.map D.v), r.length = s ∧ r.all D.one = true := by
        intro r hr'
        obtain ⟨q, hq, rfl⟩ := List.mem_map.1 hr'
        exact ⟨by simpa using (hr q (List.mem_of_mem_take hq)).1, all_v (hr q (List.mem_of_mem_take hq)).2⟩
      have hrow' : ∀ r ∈ List.take m (xs.map fun r => r.map D.v), r.length = s ∧ r.all D.one = true := by rw [← List.map_take]; exact hrow
      refine ⟨hrow', fin A c hrow' (fun hn => ?_) hv⟩
      obtain ⟨b, off, cs, ty, fr, hA, hX, hh, hR⟩ := hne (by intro e; rw [e] at hn; simp at hn)
      have := VRows.toD (X := X) (ρ := ρ) (w := w) (fun r hm => (hr r hm).1) hR
      have := DRows.take m this
      exact ⟨b, off, cs, ty, fr, hA, hh, this⟩
  · rename_i p o' n' heq
    injection heq with heq; subst heq
    split at h
    · rename_i s rows' hp
      simp only [lenD, hp] at hl
      injection hl with hl; subst hl
      cases hb : Nat.beq s sz with
      | false => simp [hb] at h
      | true =>
        have hs := Nat.eq_of_beq_eq_true hb
        subst hs
        simp [hb] at h; subst h
        have ho := hob p
        rw [hp] at ho
        obtain ⟨h0, hr, hm', ho⟩ := ho
        have hrow : ∀ r ∈ (rows'.drop o').take m, r.length = s ∧ r.all D.one = true := fun r hr' => hr r (List.mem_of_mem_drop (List.mem_of_mem_take hr'))
        refine ⟨hrow, ?_⟩
        unfold DCell at hd
        cases hq : ρ p with
        | hole => simp only [hq] at hd
        | dead => simp only [hq] at ho
        | null =>
          simp only [hq] at hd ho
          obtain ⟨⟨A, hv⟩, rfl, rfl⟩ := hd
          subst ho
          exact fin A 0 hrow (fun hn => by simp at hn) hv
        | live b z cap =>
          simp only [hq] at hd ho
          obtain ⟨rfl, h2, h3, cs, ty, fr, hh, hcs, hf, hrr⟩ := ho
          obtain ⟨h4, h5, h6⟩ := hd
          by_cases hc : o' < cap
          · exact fin _ _ hrow (fun hn => ⟨b, o' * z, cs, ty, fr, rfl, hh, DRows.take m (DRows.drop o' (fun r hr' => (hr r hr').1) hrr)⟩) (h5 hc)
          · obtain ⟨A, hA⟩ := h6 (by omega)
            have hn0 : n' = 0 := by omega
            subst hn0
            have hm0 : m = 0 := by omega
            subst hm0
            exact fin (some A) 0 hrow (fun hn => by simp at hn) hA
    · cases h
  · cases h
theorem op_copy_does {c : Call} {x y : Operand} {t ts e e' p o' n n2 sz : Nat} {rows news : List (List D)} (ho : o.op = .call c) (hc : c.callee = .builtin .copy) (ha : c.args.toList = [x, y]) (ht : c.argTypes.toList = [t, ts]) (hs : (T.ty t).d = .slice e) (hts : (T.ty ts).d = .slice e')
    (hx : ev T E t x = some (.arr p o' n)) (hp : H p = .arr sz rows) (hsz : (T.ty e).size = sz) (hl : lenD H (ev T E ts y) = some n2) (hsrc : srcM H sz (min n2 n) (ev T E ts y) = some news)
    (hnl : news.length = min n2 n) (hol : o' ≤ rows.length) (hmax : o' + min n2 n ≤ lenMax) : Does T o E H [] (Just (.v (.int .i64 (min n2 n : Nat))) [(p, .arr sz (rows.take o' ++ news ++ rows.drop (o' + min n2 n)))]) := by
  intro X ρ w a Q' K' r _ hK'
  have hv := ev_cell r hx
  have hob := r.obs p
  rw [hp] at hob
  obtain ⟨h0, hr, hm, hob⟩ := hob
  unfold DCell at hv
  obtain ⟨e1, e2⟩ := args2 ha ht a
  cases hy : ev T E ts y with
  | none => rw [hy] at hl; simp [lenD] at hl
  | some dy =>
    rw [hy] at hl hsrc
    obtain ⟨hrow, A2, c2, cells, hu, hfc, hone, hdc, hcl⟩ := srcM_ok (T.slice hts) hsrc hl (Nat.min_le_left _ _) hnl r.obs (ev_cell r hy)
    have hmin : Nat.min n2 n = min n2 n := rfl
    unfold Oper.wp
    by_cases hm0 : min n2 n = 0
    · have hcells : cells = [] := by
        rw [hm0] at hcl; simpa using hcl
      have hnews : news = [] := by
        rw [hm0] at hnl; simpa using hnl
      have hrun : ∀ (A : Option Addr) (k : Nat), a.eval x = .slice A n k → (execOp a.eval o).run P w = .ok (.value (.int .i64 (min n2 n : Nat))) w := by
        intro A k he
        rw [hcells, hm0] at hfc
        cases A <;> simp [execOp, ho, resolve, hc, invoke, builtin, e1, e2, Builtin.copy_, run_underlying (T.slice hs), he, hu, Builtin.lenOf, T.run_size (by omega : 0 < (T.ty e).size), hsz, hmin, hm0, hfc, storeCells, goInt]
      have st : Step (fun q => q ∈ [(p, Ob.arr sz (rows.take o' ++ news ++ rows.drop (o' + min n2 n)))].map (·.1)) X ρ w X ρ w := Step.refl r.mem
      have hobj : ObOK X ρ w p (.arr sz (rows.take o' ++ news ++ rows.drop (o' + min n2 n))) := by
        rw [hm0, hnews]
        simp only [List.append_nil, Nat.add_zero, List.take_append_drop]
        exact ⟨h0, hr, hm, hob⟩
      have go : ∀ (A : Option Addr) (k : Nat), a.eval x = .slice A n k → o.upon P a K' Q' ((execOp a.eval o).run P w) := by
        intro A k he
        rw [hrun A k he]
        exact hK' _ _ _ w X ρ ⟨rfl, rfl⟩ st rfl (by intro z hz; simp at hz; subst hz; simpa using hobj)
      cases hq : ρ p with
      | hole => simp only [hq] at hv
      | dead => simp only [hq] at hob
      | null =>
        simp only [hq] at hv
        obtain ⟨⟨A, hv⟩, rfl, rfl⟩ := hv
        exact go A 0 hv
      | live b s cap =>
        simp only [hq] at hv
        obtain ⟨h4, h5, h6⟩ := hv
        by_cases hcap : o' < cap
        · exact go _ _ (h5 hcap)
        · obtain ⟨A, hA⟩ := h6 (by omega)
          have hn : n = 0 := by omega
          subst hn
          exact go (some A) 0 hA
    · cases hq : ρ p with
      | hole => simp only [hq] at hv
      | dead => simp only [hq] at hob
      | null =>
        simp only [hq] at hv
        omega
      | live b s cap =>
        simp only [hq] at hv hob
        obtain ⟨rfl, hrc, hcm, arr, ty, fr, hh, hcs, hf, hrr⟩ := hob
        obtain ⟨h4, h5, h6⟩ := hv
        have hcap : o' < cap := by omega
        have hbound : o' * s + (min n2 n) * s ≤ arr.size := by
          rw [hcs, ← Nat.add_mul]; exact Nat.mul_le_mul_right _ (by omega)
        have hst := run_storeCells_ok (P := P) b (o' * s) ty fr cells 0 arr w hh (by rw [hcl]; omega) (fun k hk => hf k (Nat.le_of_lt hk)) hone
        have hrun : (execOp a.eval o).run P w = .ok (.value (.int .i64 (min n2 n : Nat))) (w.setRow b (splice arr.toList (o' * s + 0) cells).toArray) := by
          simp [execOp, ho, resolve, hc, invoke, builtin, e1, e2, Builtin.copy_, run_underlying (T.slice hs), h5 hcap, hu, Builtin.lenOf, T.run_size (by omega : 0 < (T.ty e).size), hsz, hmin, hfc, hst, goInt]
        rw [hrun]
        have hsl : (splice arr.toList (o' * s + 0) cells).length = arr.size := by
          rw [splice_length (by simp [hcl]; omega)]; simp
        refine hK' _ _ _ _ X ρ ⟨rfl, rfl⟩ (by simpa using Step.write r.mem hq _) rfl ?_
        intro z hz
        simp at hz; subst hz
        simp only [List.append_assoc]
        refine ObOK.write r.mem hq hh hf h0 hcm hcs hsl ?_ ?_ ?_ ?_
        · intro q hq'
          rcases List.mem_append.1 hq' with h | h
          · exact hr q (List.mem_of_mem_take h)
          · rcases List.mem_append.1 h with h | h
            · exact hrow q h
            · exact hr q (List.mem_of_mem_drop h)
        · simp [hnl]; omega
        · simp [hnl]; simp [lenMax] at hm hmax ⊢; omega
        · -- the rows as they lie now
          have hrl : ∀ q ∈ rows, q.length = s := fun q hq => (hr q hq).1
          have f0 := DRows.to_cells (sz := s) hrr
          have f1 : DCells X ρ w (rows.take o').flatten arr.toList := DRows.to_cells (sz := s) (DRows.take o' hrr)
          have l1 : (rows.take o').flatten.length = o' * s := by
            rw [flat_len (sz := s) (fun q hq => hrl q (List.mem_of_mem_take hq))]; congr 1; simp; omega
          have f3 : DCells X ρ w (rows.drop (o' + min n2 n)).flatten (arr.toList.drop ((o' + min n2 n) * s)) := DRows.to_cells (sz := s) (DRows.drop _ hrl hrr)
          refine DRows.of_cells (sz := s) ?_ ?_
          · intro q hq'
            rcases List.mem_append.1 hq' with h | h
            · exact hrl q (List.mem_of_mem_take h)
            · rcases List.mem_append.1 h with h | h
              · exact (hrow q h).1
              · exact hrl q (List.mem_of_mem_drop h)
          · rw [List.flatten_append, List.flatten_append]
            unfold splice
            rw [List.append_assoc]
            have t1 : (arr.toList.take (o' * s + 0)).length = o' * s := by simp; omega
            refine DCells.append ?_ ?_
            · have := DCells.takeLen f1
              rw [l1] at this
              simpa using DCells.more this
            · rw [l1]
              rw [List.drop_left' t1]
              refine DCells.append (DCells.more hdc) ?_
              have l2 : news.flatten.length = cells.length := by rw [flat_len (sz := s) (fun q hq => (hrow q hq).1), hcl, hnl]
              rw [l2, List.drop_left]
              rw [hcl, Nat.add_zero, ← Nat.add_mul]
              exact f3
theorem op_copy {c : Call} {x y : Operand} {t ts e e' p o' n n2 sz : Nat} {rows news : List (List D)} (ho : o.op = .call c) (hc : c.callee = .builtin .copy) (ha : c.args.toList = [x, y]) (ht : c.argTypes.toList = [t, ts]) (hs : (T.ty t).d = .slice e) (hts : (T.ty ts).d = .slice e')
    (hx : ev T E t x = some (.arr p o' n)) (hp : H p = .arr sz rows) (hsz : (T.ty e).size = sz) (hl : lenD H (ev T E ts y) = some n2) (hsrc : srcM H sz (min n2 n) (ev T E ts y) = some news)
    (hnl : news.length = min n2 n) (hol : o' ≤ rows.length) (hmax : o' + min n2 n ≤ lenMax) (hK : K (.v (.int .i64 (min n2 n : Nat))) [(p, .arr sz (rows.take o' ++ news ++ rows.drop (o' + min n2 n)))] []) : CallOp T o E H nx K :=
  CallOp.mk (nw := []) (by simp) (op_copy_does ho hc ha ht hs hts hx hp hsz hl hsrc hnl hol hmax) (fun d ups ⟨e1, e2⟩ => by subst e1 e2; exact hK)
theorem op_copyD {c : Call} {x y : Operand} {t ts e e' p o' n n2 sz : Nat} {rows news : List (List D)} (ho : o.op = .call c) (hc : c.callee = .builtin .copy) (ha : c.args.toList = [x, y]) (ht : c.argTypes.toList = [t, ts]) (hs : (T.ty t).d = .slice e) (hts : (T.ty ts).d = .slice e')
    (hx : ev T E t x = some (.arr p o' n)) (hp : H p = .arr sz rows) (hsz : (T.ty e).size = sz) (hl : lenD H (ev T E ts y) = some n2) (hsrc : srcM H sz (min n2 n) (ev T E ts y) = some news)
    (hnl : news.length = min n2 n) (hol : o' ≤ rows.length) (hmax : o' + min n2 n ≤ lenMax) (hK : K (.v (.int .i64 (min n2 n : Nat))) [(p, .arr sz (rows.take o' ++ news ++ rows.drop (o' + min n2 n)))] []) : CallDet T o E H nx K :=
  CallDet.mk (nw := []) (by simp) (op_copy_does ho hc ha ht hs hts hx hp hsz hl hsrc hnl hol hmax) hK
end
end Go.DL
