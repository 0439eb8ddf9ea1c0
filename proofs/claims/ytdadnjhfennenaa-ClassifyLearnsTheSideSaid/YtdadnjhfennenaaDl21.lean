/- DL, part 21: clear of a slice. Own work; no condition. -/
import Derived.Test.YtdadnjhfennenaaDl15
set_option linter.unusedVariables false
set_option linter.unusedSimpArgs false
namespace Go.DL
open Go.RowKit

section
variable {P : Program} {T : Tab P} {o : Oper} {E : Nat → Option D} {H : Nat → Ob} {nx : Nat} {K : KT}
theorem DRows.pre {X : Nat → Prop} {ρ : Nat → Slot} {w : World} : ∀ {rows : List (List D)} {vs : List Value} (n : Nat), DRows X ρ w rows vs → DRows X ρ w (rows.take n) vs := fun n h => DRows.take n h
/-- clear: of the rows only those ahead of the slice are told any more. -/
theorem op_clear_does {c : Call} {x : Operand} {t e p o' n sz : Nat} {rows : List (List D)} (ho : o.op = .call c) (hc : c.callee = .builtin .clear) (ha : c.args.toList = [x]) (ht : c.argTypes.toList = [t]) (hs : (T.ty t).d = .slice e)
    (hx : ev T E t x = some (.arr p o' n)) (hp : H p = .arr sz rows) (hz : Nat.beq (T.ty e).zero.length sz = true) (hone : (T.ty e).zero.all V.one = true) : Does T o E H [] (Just .any [(p, .arr sz (rows.take o'))]) := by
  intro X ρ w a Q' K' r _ hK'
  have hv := ev_cell r hx
  have hob := r.obs p
  rw [hp] at hob
  obtain ⟨h0, hr, hm, hob⟩ := hob
  unfold DCell at hv
  obtain ⟨e1, e2⟩ := args1 ha ht a
  have hz := Nat.eq_of_beq_eq_true hz
  have hne : (T.ty e).zero ≠ [] := by intro h; rw [h] at hz; simp at hz; omega
  have pre : ∀ {X ρ w}, ObOK X ρ w p (.arr sz rows) → ObOK X ρ w p (.arr sz (rows.take o')) := by
    rintro X ρ w ⟨k0, k1, k2, k3⟩
    refine ⟨k0, fun q hq => k1 q (List.mem_of_mem_take hq), by simp; omega, ?_⟩
    cases hq : ρ p with
    | hole => simp only [hq] at k3
    | dead => simp only [hq] at k3
    | null => simp only [hq] at k3 ⊢; simp [k3]
    | live b s cap =>
      simp only [hq] at k3 ⊢
      obtain ⟨rfl, a1, a2, cs, ty, fr, b1, b2, b3, b4⟩ := k3
      exact ⟨rfl, by simp; omega, a2, cs, ty, fr, b1, b2, b3, DRows.take o' b4⟩
  have idle : ∀ (A : Option Addr) (k : Nat), a.eval x = .slice A 0 k → n = 0 → o.upon P a K' Q' ((execOp a.eval o).run P w) := by
    intro A k he hn
    have hrun : (execOp a.eval o).run P w = .ok (.value (.tuple #[])) w := by
      cases A <;> simp [execOp, ho, resolve, hc, invoke, builtin, e1, e2, Builtin.clear_, run_underlying (T.slice hs), he]
    rw [hrun]
    exact hK' _ _ _ w X ρ ⟨rfl, rfl⟩ (Step.refl r.mem) trivial (by intro z hz; simp at hz; subst hz; exact pre ⟨h0, hr, hm, hob⟩)
  unfold Oper.wp
  cases hq : ρ p with
  | hole => simp only [hq] at hv
  | dead => simp only [hq] at hob
  | null =>
    simp only [hq] at hv
    obtain ⟨⟨A, hv⟩, rfl, rfl⟩ := hv
    exact idle A 0 hv rfl
  | live b s cap =>
    simp only [hq] at hv
    obtain ⟨h4, h5, h6⟩ := hv
    by_cases hn : n = 0
    · subst hn
      by_cases hcap : o' < cap
      · exact idle _ _ (h5 hcap) rfl
      · obtain ⟨A, hA⟩ := h6 (by omega)
        exact idle (some A) 0 hA rfl
    · have hcap : o' < cap := by omega
      have hob' := hob
      simp only [hq] at hob
      obtain ⟨rfl, hrc, hcm, arr, ty, fr, hh, hcs, hf, hrr⟩ := hob
      obtain ⟨zv, hzr, hzs, hzc⟩ := T.run_zero hne w
      rw [hz] at hzs
      have hcl : (Builtin.zeroCells zv.cells n).toList.length = n * s := by rw [zeroCells_list]; simp [hzs]
      have hall : ∀ v ∈ (Builtin.zeroCells zv.cells n).toList, v.oneCell' = true := by
        intro v hv'
        rw [zeroCells_list] at hv'
        obtain ⟨l, hl, hvl⟩ := List.mem_flatten.1 hv'
        obtain ⟨_, rfl⟩ := List.mem_replicate.1 hl
        refine DCells.one (X := X) (ρ := ρ) (w := w) (ds := (T.ty e).zero.map .v) ?_ ?_ (VCells.toD (hzc X w)) v hvl
        · rw [List.all_eq_true] at hone ⊢
          intro d hd
          obtain ⟨y, hy, rfl⟩ := List.mem_map.1 hd
          exact hone y hy
        · simp [hz, hzs]
      have hbound : o' * s + n * s ≤ arr.size := by
        rw [hcs, ← Nat.add_mul]; exact Nat.mul_le_mul_right _ (by omega)
      have hst := run_storeCells_ok (P := P) b (o' * s) ty fr (Builtin.zeroCells zv.cells n).toList 0 arr w hh (by rw [hcl]; omega) (fun k hk => hf k (Nat.le_of_lt hk)) hall
      have hrun : (execOp a.eval o).run P w = .ok (.value (.tuple #[])) (w.setRow b (splice arr.toList (o' * s + 0) (Builtin.zeroCells zv.cells n).toList).toArray) := by
        obtain ⟨n', rfl⟩ : ∃ n', n = n' + 1 := ⟨n - 1, by omega⟩
        simp [execOp, ho, resolve, hc, invoke, builtin, e1, e2, Builtin.clear_, run_underlying (T.slice hs), h5 hcap, hzr, hst]
      rw [hrun]
      have hsl : (splice arr.toList (o' * s + 0) (Builtin.zeroCells zv.cells n).toList).length = arr.size := by
        rw [splice_length (by rw [hcl]; simp; omega)]; simp
      refine hK' _ _ _ _ X ρ ⟨rfl, rfl⟩ (by simpa using Step.write r.mem hq _) trivial ?_
      intro z hz
      simp at hz; subst hz
      refine ObOK.write r.mem hq hh hf h0 hcm hcs hsl (fun q hq' => hr q (List.mem_of_mem_take hq')) (by simp; omega) (by simp; omega) ?_
      have f1 : DCells X ρ w (rows.take o').flatten arr.toList := DRows.to_cells (sz := s) (DRows.take o' hrr)
      have l1 : (rows.take o').flatten.length ≤ o' * s := by
        rw [flat_len (sz := s) (fun q hq => (hr q (List.mem_of_mem_take hq)).1)]
        exact Nat.mul_le_mul_right _ (by simp; omega)
      refine DRows.of_cells (sz := s) (fun q hq' => (hr q (List.mem_of_mem_take hq')).1) ?_
      have := DCells.takeLen f1
      unfold splice
      rw [List.append_assoc]
      refine DCells.more ?_
      have e3 : (arr.toList.take (o' * s + 0)) = arr.toList.take (rows.take o').flatten.length ++ (arr.toList.take (o' * s)).drop (rows.take o').flatten.length := by
        have := (List.take_append_drop (rows.take o').flatten.length (arr.toList.take (o' * s))).symm
        rw [List.take_take, Nat.min_eq_left l1] at this
        simpa using this
      rw [e3]
      exact DCells.more this
theorem op_clear {c : Call} {x : Operand} {t e p o' n sz : Nat} {rows : List (List D)} (ho : o.op = .call c) (hc : c.callee = .builtin .clear) (ha : c.args.toList = [x]) (ht : c.argTypes.toList = [t]) (hs : (T.ty t).d = .slice e)
    (hx : ev T E t x = some (.arr p o' n)) (hp : H p = .arr sz rows) (hz : Nat.beq (T.ty e).zero.length sz = true) (hone : (T.ty e).zero.all V.one = true) (hK : K .any [(p, .arr sz (rows.take o'))] []) : CallOp T o E H nx K :=
  CallOp.mk (nw := []) (by simp) (op_clear_does ho hc ha ht hs hx hp hz hone) (fun d ups ⟨e1, e2⟩ => by subst e1 e2; exact hK)
theorem op_clearD {c : Call} {x : Operand} {t e p o' n sz : Nat} {rows : List (List D)} (ho : o.op = .call c) (hc : c.callee = .builtin .clear) (ha : c.args.toList = [x]) (ht : c.argTypes.toList = [t]) (hs : (T.ty t).d = .slice e)
    (hx : ev T E t x = some (.arr p o' n)) (hp : H p = .arr sz rows) (hz : Nat.beq (T.ty e).zero.length sz = true) (hone : (T.ty e).zero.all V.one = true) (hK : K .any [(p, .arr sz (rows.take o'))] []) : CallDet T o E H nx K :=
  CallDet.mk (nw := []) (by simp) (op_clear_does ho hc ha ht hs hx hp hz hone) hK
end
end Go.DL
