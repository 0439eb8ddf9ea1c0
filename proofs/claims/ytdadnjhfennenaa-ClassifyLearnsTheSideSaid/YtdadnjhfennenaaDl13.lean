/- DL, part 13: further operations: nil of a slice, cap, copy, append of make, overlaps. Own work; no condition. -/
import Derived.Test.YtdadnjhfennenaaDl12
import Derived.Lib.Overlaps
import Derived.Laws.Cover3
set_option linter.unusedVariables false
set_option linter.unusedSimpArgs false
namespace Go.DL
open Go.RowKit

section
variable {P : Program} {T : Tab P} {o : Oper} {E : Nat → Option D} {H : Nat → Ob} {nx : Nat} {K : KT}

/-! ##### is it nil? -/
def lenD (H : Nat → Ob) : Option D → Option Nat
  | some (.v (.sl _ _ xs)) => some xs.length
  | some (.arr p _ n) => match H p with | .arr _ _ => some n | _ => none
  | _ => none
theorem slice_val {X : Nat → Prop} {ρ : Nat → Slot} {w : World} {d : D} {n : Nat} {u : Value} (h : lenD H (some d) = some n) (hob : ∀ p, ObOK X ρ w p (H p)) (hd : DCell X ρ w d u) : ∃ A c, u = .slice A n c ∧ (0 < n → A.isSome = true) := by
  unfold lenD at h
  split at h
  · rename_i d0 sz z xs heq
    injection heq with heq; subst heq
    injection h with h; subst h
    unfold DCell VCell at hd
    obtain ⟨_, _, _, _, A, c, hv, _, _, hne⟩ := hd
    refine ⟨A, c, hv, fun hpos => ?_⟩
    obtain ⟨b, off, _, _, _, hA, _⟩ := hne (by intro e; subst e; simp at hpos)
    simp [hA]
  · rename_i d0 p o' n' heq
    injection heq with heq; subst heq
    have ho := hob p
    split at h
    · rename_i sz rows hp
      injection h with h; subst h
      rw [hp] at ho
      obtain ⟨_, _, _, ho⟩ := ho
      unfold DCell at hd
      cases hq : ρ p with
      | hole => simp only [hq] at hd
      | dead => simp only [hq] at ho
      | null =>
        simp only [hq] at hd
        obtain ⟨⟨A, hv⟩, rfl, rfl⟩ := hd
        exact ⟨A, 0, hv, fun h => absurd h (Nat.lt_irrefl _)⟩
      | live b s cap =>
        simp only [hq] at hd
        obtain ⟨h1, h2, h3⟩ := hd
        by_cases hc : o' < cap
        · exact ⟨_, _, h2 hc, fun _ => rfl⟩
        · obtain ⟨A, hA⟩ := h3 (by omega)
          have : n' = 0 := by omega
          subst this
          exact ⟨some A, 0, hA, fun _ => rfl⟩
    · cases h
  · cases h
theorem op_isnil {t tt : Nat} {x : Operand} {n e : Nat} (ho : o.op = .binOp .eql t x (.const (.slice none 0 0)) tt) (hs : (T.ty t).d = .slice e) (hx : lenD H (ev T E t x) = some n)
    (hK : ∀ b, (b = true → n = 0) → K (.v (.bool b)) [] []) : CallOp T o E H nx K := by
  refine CallOp.mk (nw := []) (R := fun d ups => ups = [] ∧ ∃ b, d = .v (.bool b) ∧ (b = true → n = 0)) (by simp) ?_ (fun d ups ⟨h1, b, h2, q⟩ => by subst h1 h2; exact hK b q)
  intro X ρ w a Q' K' r _ hK'
  cases hx' : ev T E t x with
  | none => rw [hx'] at hx; simp [lenD] at hx
  | some d =>
    rw [hx'] at hx
    obtain ⟨A, c, hv, hA⟩ := slice_val hx r.obs (ev_cell r hx')
    have hrun : (execOp a.eval o).run P w = .ok (.value (.bool A.isNone)) w := by
      simp only [execOp, ho, hv, Sem.run_bind]
      rw [show a.eval (.const (.slice none 0 0)) = .slice none 0 0 from rfl]
      rw [show (eqGuard .eql t x (.const (.slice none 0 0)) (.slice A n c) (.slice none 0 0)).run P w = .ok () w from rfl]
      simp [binOp, run_equal_slice_nil w t e A n c (T.slice hs)]
    unfold Oper.wp
    rw [hrun]
    refine hK' (.v (.bool A.isNone)) [] _ w X ρ ⟨rfl, _, rfl, fun hb => ?_⟩ (Step.refl r.mem) rfl (by simp)
    cases A with
    | some a => simp at hb
    | none =>
      rcases Nat.eq_zero_or_pos n with h | h
      · exact h
      · have := hA h; simp at this

/-! ##### cap, and a slice up to it -/
theorem args1 {c : Call} {x : Operand} {t : Nat} (ha : c.args.toList = [x]) (ht : c.argTypes.toList = [t]) (a : Act) : c.args.map a.eval = #[a.eval x] ∧ c.argTypes = #[t] := by
  constructor
  · rw [← Array.toList_inj]; simp [ha]
  · rw [← Array.toList_inj]; simp [ht]
theorem args2 {c : Call} {x y : Operand} {t u : Nat} (ha : c.args.toList = [x, y]) (ht : c.argTypes.toList = [t, u]) (a : Act) : c.args.map a.eval = #[a.eval x, a.eval y] ∧ c.argTypes = #[t, u] := by
  constructor
  · rw [← Array.toList_inj]; simp [ha]
  · rw [← Array.toList_inj]; simp [ht]
theorem op_cap {c : Call} {x : Operand} {t e p n sz : Nat} {rows : List (List D)} (ho : o.op = .call c) (hc : c.callee = .builtin .cap) (ha : c.args.toList = [x]) (ht : c.argTypes.toList = [t]) (hs : (T.ty t).d = .slice e) (hx : ev T E t x = some (.arr p 0 n)) (hp : H p = .arr sz rows)
    (hK : ∀ k : Nat, rows.length ≤ k → n ≤ k → k ≤ capMax → K (.v (.int .i64 k)) [(nx, .cap p k)] []) : CallOp T o E H nx K := by
  refine CallOp.mk (nw := []) (R := fun d ups => ∃ k : Nat, rows.length ≤ k ∧ n ≤ k ∧ k ≤ capMax ∧ d = .v (.int .i64 k) ∧ ups = [(nx, .cap p k)]) (by simp) ?_ (fun d ups ⟨k, h1, h2, h3, h4, h5⟩ => by subst h4 h5; exact hK k h1 h2 h3)
  intro X ρ w a Q' K' r _ hK'
  have hv := ev_cell r hx
  have hob := r.obs p
  rw [hp] at hob
  obtain ⟨h0, hr, hm, hob⟩ := hob
  unfold DCell at hv
  obtain ⟨e1, e2⟩ := args1 ha ht a
  have fin : ∀ (A : Option Addr) (k : Nat), a.eval x = .slice A n k → rows.length ≤ k → n ≤ k → k ≤ capMax → ρ p ≠ .hole → (ρ p = .null → k = 0) → (∀ b s k', ρ p = .live b s k' → k' = k) → o.wp P a w K' Q' := by
    intro A k he h1 h2 h3 h4 h5 h6
    have hrun : (execOp a.eval o).run P w = .ok (.value (.int .i64 k)) w := by
      simp [execOp, ho, resolve, hc, invoke, builtin, e1, e2, Builtin.cap_, run_underlying (T.slice hs), he, goInt]
    unfold Oper.wp
    rw [hrun]
    refine hK' (.v (.int .i64 k)) [(nx, .cap p k)] _ w X ρ ⟨k, h1, h2, h3, rfl, rfl⟩ (Step.refl r.mem) rfl ?_
    intro y hy
    simp at hy; subst hy
    exact ⟨h4, h5, h6⟩
  cases hq : ρ p with
  | hole => simp only [hq] at hv
  | dead => simp only [hq] at hob
  | null =>
    simp only [hq] at hv hob
    obtain ⟨⟨A, hv⟩, _, rfl⟩ := hv
    subst hob
    exact fin A 0 hv (by simp) (Nat.le_refl _) (by simp [capMax]) (by rw [hq]; simp) (fun _ => rfl) (fun b s k' h => by rw [hq] at h; cases h)
  | live b s cap =>
    simp only [hq] at hv hob
    obtain ⟨rfl, hrc, hcm, _⟩ := hob
    obtain ⟨h4, h5, h6⟩ := hv
    by_cases hcap : 0 < cap
    · refine fin _ cap (by rw [h5 hcap]; rfl) hrc (by omega) hcm (by rw [hq]; simp) (fun h => by rw [hq] at h; cases h) (fun b' s' k' h => by rw [hq] at h; injection h with _ _ h; exact h.symm)
    · obtain ⟨A, hA⟩ := h6 (by omega)
      have hn : n = 0 := by omega
      subst hn
      have hc0 : cap = 0 := by omega
      subst hc0
      exact fin (some A) 0 hA hrc (Nat.le_refl _) hcm (by rw [hq]; simp) (fun _ => rfl) (fun b' s' k' h => by rw [hq] at h; injection h with _ _ h; exact h.symm)
theorem op_slice_cap {x : Operand} {lo hi : Option Operand} {t e p n sz q k : Nat} {rows : List (List D)} (ho : o.op = .slice t x lo hi none) (hs : (T.ty t).d = .slice e) (hx : ev T E t x = some (.arr p 0 n)) (hp : H p = .arr sz rows) (hsz : (T.ty e).size = sz) (hq : H q = .cap p k)
    (h : boundK (optE T E hi) n (fun h => boundK (optE T E lo) 0 (fun l => 0 ≤ l ∧ l ≤ h ∧ h ≤ k ∧ K (.arr p l.toNat (h.toNat - l.toNat)) [] []) lo) hi) : CallOp T o E H nx K := by
  obtain ⟨hb, h, bh⟩ := boundK_val (H := H) h
  obtain ⟨lb, h, bl⟩ := boundK_val (H := H) h
  obtain ⟨h0, h1, h2, hJ⟩ := h
  refine CallOp.mk (nw := []) (R := Just (.arr p lb.toNat (hb.toNat - lb.toNat)) []) (by simp) (does_value fun X ρ w a r => ?_) (fun d ups ⟨e1, e2⟩ => by subst e1 e2; exact hJ)
  have hv := ev_cell r hx
  have hob := r.obs p
  have hgh := r.obs q
  rw [hp] at hob
  rw [hq] at hgh
  obtain ⟨g1, g2, g3⟩ := hgh
  obtain ⟨hz0, _, _, hob⟩ := hob
  unfold DCell at hv
  have run : ∀ (A : Option Addr) (cap : Nat), hb.toNat ≤ cap → a.eval x = .slice A n cap → (execOp a.eval o).run P w = .ok (.value (.slice (if cap = lb.toNat then A else A.map (·.add (lb.toNat * sz))) (hb.toNat - lb.toNat) (cap - lb.toNat))) w := by
    intro A cap hcap he
    simp only [execOp, ho, he, Sem.run_bind, Instr.sliceAt, run_underlying (T.slice hs), Result.andThen_ok, Instr.slice, Option.map_none]
    rw [run_sliceBounds (bl X ρ w a r) (bh X ρ w a r) h0 h1 (by omega)]
    simp only [Result.andThen_ok, Sem.run_bind, T.run_size (by omega : 0 < (T.ty e).size), hsz, Sem.run_pure]
  cases hρ : ρ p with
  | hole => exact absurd hρ g1
  | dead => simp only [hρ] at hob
  | null =>
    have hk := g2 hρ
    simp only [hρ] at hv hob
    obtain ⟨⟨A, hv⟩, _, rfl⟩ := hv
    refine ⟨_, run A 0 (by omega) hv, ?_⟩
    have h3 : hb.toNat = 0 := by omega
    have h4 : lb.toNat = 0 := by omega
    unfold DCell
    simp [hρ, h3, h4]
  | live b s cap =>
    have hk := g3 b s cap hρ
    subst hk
    simp only [hρ] at hv hob
    obtain ⟨rfl, hrc, _⟩ := hob
    obtain ⟨hv1, hv2, hv3⟩ := hv
    by_cases hoc : 0 < cap
    · refine ⟨_, run _ _ (by omega) (hv2 hoc), ?_⟩
      unfold DCell
      simp only [hρ]
      refine ⟨by omega, fun hlt => ?_, fun heq => ?_⟩
      · rw [if_neg (by omega)]
        simp only [Option.map_some, addr_add, Nat.zero_mul, Nat.zero_add, Nat.sub_zero]
      · have h5 : hb.toNat - lb.toNat = 0 := by omega
        have h6 : cap - 0 - lb.toNat = 0 := by omega
        rw [h5, h6, if_pos (by omega)]
        exact ⟨_, rfl⟩
    · obtain ⟨A, hA⟩ := hv3 (by omega)
      have h3 : hb.toNat = 0 := by omega
      have h4 : lb.toNat = 0 := by omega
      have hn : n = 0 := by omega
      subst hn
      refine ⟨_, run _ 0 (by omega) hA, ?_⟩
      unfold DCell
      simp only [hρ]
      refine ⟨by omega, fun hlt => by omega, fun heq => ?_⟩
      rw [h3, h4, if_pos rfl]
      exact ⟨_, rfl⟩
end
end Go.DL
