/- DL, part 2: operations that leave memory alone. Own work; no condition. -/
import Derived.Test.YtdadnjhfennenaaDl1
import Derived.Laws.StructEq
set_option linter.unusedVariables false
set_option linter.unusedSimpArgs false
namespace Go.DL
open Go.RowKit

/-- What an operation does, whatever stands for (E, H): it comes to one of the outcomes R. nw: the places that it fills anew. -/
def Does {P : Program} (T : Tab P) (o : Oper) (E : Nat → Option D) (H : Nat → Ob) (nw : List Nat) (R : D → List (Nat × Ob) → Prop) : Prop :=
  ∀ X ρ w (a : Act) Q K, Real T.glob X ρ w E H a.tmps → (∀ p ∈ nw, ρ p = .hole) →
    (∀ d ups v w' X' ρ', R d ups → Step (fun p => p ∈ ups.map (·.1)) X ρ w X' ρ' w' → DCell X' ρ' w' d v → (∀ x ∈ ups, ObOK X' ρ' w' x.1 x.2) → K (a.put o.dst v) w') →
    o.wp P a w K Q
def Just (d : D) (u : List (Nat × Ob)) : D → List (Nat × Ob) → Prop := fun d' u' => d' = d ∧ u' = u

section
variable {P : Program} {T : Tab P} {o : Oper} {E : Nat → Option D} {H : Nat → Ob}
theorem does_value {d : D} (h : ∀ X ρ w (a : Act), Real T.glob X ρ w E H a.tmps → ∃ v, (execOp a.eval o).run P w = .ok (.value v) w ∧ DCell X ρ w d v) : Does T o E H [] (Just d []) := by
  intro X ρ w a Q K r hQ hK
  obtain ⟨v, hv, hd⟩ := h X ρ w a r
  unfold Oper.wp
  rw [hv]
  exact hK d [] v w X ρ ⟨rfl, rfl⟩ (Step.refl r.mem) hd (by simp)

def Tab.esz (T : Tab P) (t : Nat) : Nat := match (T.ty t).d with | .slice e => max (T.ty e).size 1 | _ => 1
theorem Tab.esz_pos (T : Tab P) (t : Nat) : 0 < T.esz t := by unfold Tab.esz; split <;> omega
def ev (T : Tab P) (E : Nat → Option D) (t : Nat) : Operand → Option D
  | .tmp i => E i
  | .const v => some (.v (vOf (T.esz t) v))
  | .global g => (T.glob g).map fun cs => .v (.iptr cs)
  | .func f => some (.v (.fn f []))
theorem ev_cell {X : Nat → Prop} {ρ : Nat → Slot} {w : World} {a : Act} (r : Real T.glob X ρ w E H a.tmps) {t : Nat} {x : Operand} {d : D} (h : ev T E t x = some d) : DCell X ρ w d (a.eval x) := by
  cases x with
  | tmp i =>
    obtain ⟨v, hv, hd⟩ := r.env i d h
    simpa [Act.eval, hv] using hd
  | const v => simp [ev] at h; subst h; exact vOf_cell (T.esz_pos t) v
  | global g =>
    simp [ev] at h
    obtain ⟨cs, hc, rfl⟩ := h
    exact r.glob g cs hc
  | func f => simp [ev] at h; subst h; exact ⟨[], rfl, rfl, trivial⟩

/-! #### closed readings of a D -/
mutual
def D.toV : D → Option V
  | .v x => some x
  | .agg ds => (D.toVs ds).map .agg
  | .tup ds => (D.toVs ds).map .tup
  | .fn f ds => (D.toVs ds).map (.fn f)
  | _ => none
def D.toVs : List D → Option (List V)
  | [] => some []
  | d :: ds => match d.toV, D.toVs ds with
    | some x, some xs => some (x :: xs)
    | _, _ => none
end
mutual
theorem D.toV_cell {X : Nat → Prop} {ρ : Nat → Slot} {w : World} : ∀ (d : D) {x : V} {u : Value}, d.toV = some x → DCell X ρ w d u → VCell X w x u
  | .any, x, u, h, _ => by simp [D.toV] at h
  | .v y, x, u, h, k => by simp [D.toV] at h; subst h; exact k
  | .arr .., x, u, h, _ => by simp [D.toV] at h
  | .ptr .., x, u, h, _ => by simp [D.toV] at h
  | .agg ds, x, u, h, k => by
    simp [D.toV] at h
    obtain ⟨xs, hx, rfl⟩ := h
    obtain ⟨vs, hv, hl, hc⟩ := k
    obtain ⟨h1, h2⟩ := D.toVs_cell ds hx hc
    exact ⟨vs, hv, hl.trans h2, h1⟩
  | .tup ds, x, u, h, k => by
    simp [D.toV] at h
    obtain ⟨xs, hx, rfl⟩ := h
    obtain ⟨vs, hv, hl, hc⟩ := k
    obtain ⟨h1, h2⟩ := D.toVs_cell ds hx hc
    exact ⟨vs, hv, hl.trans h2, h1⟩
  | .fn f ds, x, u, h, k => by
    simp [D.toV] at h
    obtain ⟨xs, hx, rfl⟩ := h
    obtain ⟨vs, hv, hl, hc⟩ := k
    obtain ⟨h1, h2⟩ := D.toVs_cell ds hx hc
    exact ⟨vs, hv, hl.trans h2, h1⟩
theorem D.toVs_cell {X : Nat → Prop} {ρ : Nat → Slot} {w : World} : ∀ (ds : List D) {xs : List V} {vs : List Value}, D.toVs ds = some xs → DCells X ρ w ds vs → VCells X w xs vs ∧ ds.length = xs.length
  | [], xs, vs, h, _ => by simp [D.toVs] at h; subst h; exact ⟨trivial, rfl⟩
  | d :: ds, xs, [], h, k => k.elim
  | d :: ds, xs, u :: vs, h, k => by
    simp only [D.toVs] at h
    split at h
    · rename_i x ys hx hy
      injection h with h; subst h
      obtain ⟨h1, h2⟩ := D.toVs_cell ds hy k.2
      exact ⟨⟨D.toV_cell d hx k.1, h1⟩, by simp [h2]⟩
    · cases h
end
/-- The cells of a value. -/
def D.cells : D → Option (List D)
  | .any => none
  | .agg ds => some ds
  | .v (.agg cs) => some (cs.map .v)
  | .v (.tup _) => none
  | .tup _ => none
  | d => some [d]
theorem VCells.toD {X : Nat → Prop} {ρ : Nat → Slot} {w : World} : ∀ {cs : List V} {vs : List Value}, VCells X w cs vs → DCells X ρ w (cs.map .v) vs
  | [], _, _ => trivial
  | _ :: _, [], h => h.elim
  | c :: cs, v :: vs, h => ⟨h.1, VCells.toD h.2⟩

/-! #### arithmetic and comparison on closed data -/
def IntKind.same : IntKind → IntKind → Bool
  | .i8, .i8 | .i16, .i16 | .i32, .i32 | .i64, .i64 | .u8, .u8 | .u16, .u16 | .u32, .u32 | .u64, .u64 => true
  | _, _ => false
theorem IntKind.same_eq {j k : IntKind} (h : IntKind.same j k = true) : j = k := by cases j <;> cases k <;> simp [IntKind.same] at h <;> rfl
/-- Go's order on strings. -/
def sLt (a b : ByteArray) : Bool := Op.bytesLess a.toList b.toList
def binV (ty : Ty) (op : BinOp) (x y : V) (K : V → Prop) : Prop :=
  match x, y with
  | .int k a, .int k' b =>
    match op with
    | .shl => 0 ≤ b ∧ K (.int k (k.wrap (a * 2 ^ (min b.toNat k.bits))))
    | .shr => 0 ≤ b ∧ K (.int k (a.fdiv (2 ^ (min b.toNat k.bits))))
    | _ =>
      match IntKind.same k k' with
      | false => False
      | true =>
        match op with
        | .add => K (.int k (k.wrap (a + b)))
        | .sub => K (.int k (k.wrap (a - b)))
        | .mul => K (.int k (k.wrap (a * b)))
        | .quo => b ≠ 0 ∧ K (.int k (k.wrap (a.tdiv b)))
        | .rem => b ≠ 0 ∧ K (.int k (a.tmod b))
        | .and => K (.int k (k.wrap (BitVec.ofInt k.bits a &&& BitVec.ofInt k.bits b).toNat))
        | .or => K (.int k (k.wrap (BitVec.ofInt k.bits a ||| BitVec.ofInt k.bits b).toNat))
        | .xor => K (.int k (k.wrap (BitVec.ofInt k.bits a ^^^ BitVec.ofInt k.bits b).toNat))
        | .eql => K (.bool (a == b))
        | .neq => K (.bool (a != b))
        | .lss => K (.bool (decide (a < b)))
        | .leq => K (.bool (decide (a ≤ b)))
        | .gtr => K (.bool (decide (a > b)))
        | .geq => K (.bool (decide (a ≥ b)))
        | _ => False
  | .bool a, .bool b =>
    match ty, op with
    | .bool, .eql => K (.bool (a == b))
    | .bool, .neq => K (.bool (a != b))
    | _, _ => False
  | .str a, .str b =>
    match op with
    | .add => a.size + b.size ≤ 9223372036854775807 ∧ K (.str (a ++ b))
    | .eql => K (.bool (decide (a = b)))
    | .neq => K (.bool (!decide (a = b)))
    | .lss => K (.bool (sLt a b))
    | .leq => K (.bool (sLt a b || decide (a = b)))
    | .gtr => K (.bool (!(sLt a b || decide (a = b))))
    | .geq => K (.bool (!sLt a b))
    | _ => False
  | _, _ => False
theorem str_eq_iff (a b : ByteArray) : (a.toList == b.toList) = decide (a = b) := by
  rw [Bool.eq_iff_iff]; simp
  rw [ByteArray.toList_eq, ByteArray.toList_eq]
  constructor
  · intro h
    obtain ⟨⟨x⟩⟩ := a
    obtain ⟨⟨y⟩⟩ := b
    simp at h
    rw [h]
  · rintro rfl; rfl
theorem binV_run {ty : Ty} {op : BinOp} {x y : V} {K : V → Prop} {t : Nat} (h : binV ty op x y K) (hty : ty = .bool → P.underlying t = some .bool) (X : Nat → Prop) (w : World) (u v : Value) (xo yo : Operand)
    (hu : VCell X w x u) (hv : VCell X w y v) : ∃ z, K z ∧ ∃ r, (do eqGuard op t xo yo u v; binOp op t u v : Sem Value).run P w = .ok r w ∧ ∀ X' w', VCell X' w' z r := by
  cases x with
  | int k a =>
    cases y with
    | int k' b =>
      unfold VCell at hu hv
      subst hu; subst hv
      simp only [binV] at h
      have hg : (eqGuard op t xo yo (.int k a) (.int k' b)).run P w = .ok () w := by cases op <;> simp [eqGuard]
      simp only [Sem.run_bind, hg, Result.andThen_ok]
      have done : ∀ {j : IntKind} {m : Int}, K (.int j m) → (binOp op t (.int k a) (.int k' b)).run P w = .ok (.int j m) w → ∃ z, K z ∧ ∃ r, (binOp op t (.int k a) (.int k' b)).run P w = .ok r w ∧ ∀ X' w', VCell X' w' z r :=
        fun hk hr => ⟨_, hk, _, hr, fun _ _ => rfl⟩
      have doneb : ∀ {m : Bool}, K (.bool m) → (binOp op t (.int k a) (.int k' b)).run P w = .ok (.bool m) w → ∃ z, K z ∧ ∃ r, (binOp op t (.int k a) (.int k' b)).run P w = .ok r w ∧ ∀ X' w', VCell X' w' z r :=
        fun hk hr => ⟨_, hk, _, hr, fun _ _ => rfl⟩
      split at h
      · exact done h.2 (by simp [binOp, Op.shift, Int.not_lt.2 h.1])
      · exact done h.2 (by simp [binOp, Op.shift, Int.not_lt.2 h.1])
      · split at h
        · exact h.elim
        · rename_i hsame
          have := IntKind.same_eq hsame
          subst this
          cases op <;> simp only at h <;> first
            | exact h.elim
            | contradiction
            | exact done h (by simp only [binOp]; rw [if_neg (by simp)]; rfl)
            | exact doneb h (by simp only [binOp]; rw [if_neg (by simp)]; rfl)
            | exact done h.2 (by simp only [binOp]; rw [if_neg (by simp)]; simp only [Op.intDiv]; rw [if_neg h.1]; rfl)
    | _ => simp [binV] at h
  | bool a =>
    cases y with
    | bool b =>
      unfold VCell at hu hv
      subst hu; subst hv
      simp only [binV] at h
      have hg : (eqGuard op t xo yo (.bool a) (.bool b)).run P w = .ok () w := by cases op <;> simp [eqGuard]
      simp only [Sem.run_bind, hg, Result.andThen_ok]
      split at h
      · have e : (Op.equal t (.bool a) (.bool b)).run P w = .ok (a == b) w := run_equalIn_bool' w 9999 t a b (hty rfl)
        exact ⟨_, h, _, by simp only [binOp, Sem.run_bind, e, Result.andThen_ok, Sem.run_pure], fun _ _ => rfl⟩
      · have e : (Op.equal t (.bool a) (.bool b)).run P w = .ok (a == b) w := run_equalIn_bool' w 9999 t a b (hty rfl)
        exact ⟨_, h, _, by simp only [binOp, Sem.run_bind, e, Result.andThen_ok, Sem.run_pure]; rfl, fun _ _ => rfl⟩
      · exact h.elim
    | _ => simp [binV] at h
  | str a =>
    cases y with
    | str b =>
      unfold VCell at hu hv
      subst hu; subst hv
      simp only [binV] at h
      have hg : (eqGuard op t xo yo (.string a) (.string b)).run P w = .ok () w := by cases op <;> simp [eqGuard]
      simp only [Sem.run_bind, hg, Result.andThen_ok]
      have done : ∀ {z : V} {r : Value}, K z → (∀ X' w', VCell X' w' z r) → (binOp op t (.string a) (.string b)).run P w = .ok r w → ∃ z, K z ∧ ∃ r, (binOp op t (.string a) (.string b)).run P w = .ok r w ∧ ∀ X' w', VCell X' w' z r :=
        fun hk hc hr => ⟨_, hk, _, hr, hc⟩
      cases op <;> simp only at h <;> first
        | exact h.elim
        | (refine done h.2 (fun _ _ => rfl) ?_
           have h1 := h.1
           simp only [binOp, Op.stringOp]
           rw [if_neg (by simp [IntKind.max, IntKind.signed, IntKind.bits]; omega)]
           rfl)
        | exact done h (fun _ _ => rfl) (by simp only [binOp, Op.stringOp, str_eq_iff]; rfl)
    | _ => simp [binV] at h
  | _ => simp [binV] at h
end
end Go.DL
