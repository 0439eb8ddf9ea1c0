/- DL, part 4: the operations that only read, in one table. Own work; no condition. -/
import Derived.Test.YtdadnjhfennenaaDl3
import Derived.Laws.Panics
set_option linter.unusedVariables false
set_option linter.unusedSimpArgs false
namespace Go.DL
open Go.RowKit

section
variable {P : Program} {T : Tab P} {o : Oper} {E : Nat → Option D} {H : Nat → Ob} {K : D → List (Nat × Ob) → Prop}
variable {X : Nat → Prop} {ρ : Nat → Slot} {w : World}

/-- A value operation: an outcome that all that stands for the state comes to. -/
def Val {P : Program} (T : Tab P) (o : Oper) (E : Nat → Option D) (H : Nat → Ob) (d : D) : Prop :=
  ∀ X ρ w (a : Act), Real T.glob X ρ w E H a.tmps → ∃ v, (execOp a.eval o).run P w = .ok (.value v) w ∧ DCell X ρ w d v
theorem Val.does {d : D} (h : Val T o E H d) : Does T o E H [] (Just d []) := does_value h

/-! ##### bounds of a slice expression -/
def boundK (x : Option D) (dflt : Nat) (K : Int → Prop) : Option Operand → Prop
  | none => K dflt
  | some _ => match x with | some (.v (.int _ n)) => K n | _ => False
theorem run_sliceBound {k : IntKind} {n : Int} {y : Nat} {c : BoundsCode} (h0 : 0 ≤ n) (h1 : n ≤ y) : (Instr.sliceBound (.int k n) y c).run P w = .ok n.toNat w := by
  simp [Instr.sliceBound, asIntOf, h0, h1]
/-- The bounds as numbers: what stands for lo and hi. -/
theorem run_sliceBounds {isS : Bool} {len cap : Nat} {lo hi : Option Value} {l h : Int} (hl : (lo = none ∧ l = 0) ∨ ∃ k, lo = some (.int k l)) (hh : (hi = none ∧ h = len) ∨ ∃ k, hi = some (.int k h))
    (h0 : 0 ≤ l) (h1 : l ≤ h) (h2 : h ≤ cap) : (Instr.sliceBounds isS len cap lo hi none).run P w = .ok (l.toNat, h.toNat, cap) w := by
  unfold Instr.sliceBounds
  have hh0 : 0 ≤ h := Int.le_trans h0 h1
  rcases hh with ⟨rfl, rfl⟩ | ⟨k, rfl⟩
  · rcases hl with ⟨rfl, rfl⟩ | ⟨k', rfl⟩
    · simp
    · simp [run_sliceBound h0 (y := len) (by simpa using h1)]
  · simp only [Sem.run_bind, Sem.run_pure, Result.andThen_ok]
    rw [run_sliceBound hh0 h2]
    simp only [Result.andThen_ok]
    rcases hl with ⟨rfl, rfl⟩ | ⟨k', rfl⟩
    · simp
    · simp [run_sliceBound h0 (y := h.toNat) (by omega)]
def optE (T : Tab P) (E : Nat → Option D) : Option Operand → Option D
  | none => none
  | some x => ev T E 0 x
def IsBound {P : Program} (T : Tab P) (E : Nat → Option D) (H : Nat → Ob) (lo : Option Operand) (dflt : Nat) (n : Int) : Prop :=
  ∀ X ρ w (a : Act), Real T.glob X ρ w E H a.tmps → ((lo.map a.eval = none ∧ n = dflt) ∨ ∃ k, lo.map a.eval = some (.int k n))
theorem boundK_val {lo : Option Operand} {dflt : Nat} {J : Int → Prop} (h : boundK (optE T E lo) dflt J lo) : ∃ n, J n ∧ IsBound T E H lo dflt n := by
  cases lo with
  | none => exact ⟨dflt, h, fun X ρ w a r => .inl ⟨rfl, rfl⟩⟩
  | some x =>
    unfold boundK at h
    simp only [optE] at h
    split at h
    · rename_i k n hx
      refine ⟨n, h, fun X ρ w a r => ?_⟩
      have := ev_cell r hx
      unfold DCell VCell at this
      exact .inr ⟨k, by simp [this]⟩
    · exact h.elim
def sliceK (T : Tab P) (E : Nat → Option D) (H : Nat → Ob) (t : Nat) (x : Operand) (lo hi mx : Option Operand) (K : D → Prop) : Prop :=
  match mx with
  | some _ => False
  | none =>
    match ev T E t x, (T.ty t).d with
    | some (.v (.str s)), .str => boundK (optE T E hi) s.size (fun h => boundK (optE T E lo) 0 (fun l => 0 ≤ l ∧ l ≤ h ∧ h ≤ s.size ∧ K (.v (.str (s.extract l.toNat h.toNat)))) lo) hi
    | some (.v (.sl sz z xs)), .slice e => match (T.ty e).size == sz with
      | true => boundK (optE T E hi) xs.length (fun h => boundK (optE T E lo) 0 (fun l => 0 ≤ l ∧ l ≤ h ∧ h ≤ xs.length ∧ K (.v (.sl sz z ((xs.take h.toNat).drop l.toNat)))) lo) hi
      | false => False
    | some (.arr p o n), .slice e => match H p with
      | .arr sz rows => match (T.ty e).size == sz with
        | true => boundK (optE T E hi) n (fun h => boundK (optE T E lo) 0 (fun l => 0 ≤ l ∧ l ≤ h ∧ (h ≤ n ∨ o + h ≤ rows.length) ∧ K (.arr p (o + l.toNat) (h.toNat - l.toNat))) lo) hi
        | false => False
      | _ => False
    | _, _ => False
theorem addr_add (b o n : Nat) : (⟨b, o, none⟩ : Addr).add n = ⟨b, o + n, none⟩ := by unfold Addr.add; split <;> simp_all
theorem VRows.drop {sz : Nat} : ∀ {xs : List (List V)} {vs : List Value} (n : Nat), (∀ r ∈ xs, r.length = sz) → VRows X w xs vs → VRows X w (xs.drop n) (vs.drop (n * sz))
  | xs, vs, 0, _, h => by simpa using h
  | [], vs, n + 1, _, h => trivial
  | r :: xs, vs, n + 1, hs, h => by
    have := VRows.drop n (fun r hr => hs r (List.mem_cons_of_mem _ hr)) h.2
    rw [hs r List.mem_cons_self, List.drop_drop] at this
    rwa [Nat.add_mul, Nat.one_mul, Nat.add_comm (n * sz)]
theorem VRows.take : ∀ {xs : List (List V)} {vs : List Value} (n : Nat), VRows X w xs vs → VRows X w (xs.take n) vs
  | xs, vs, 0, h => trivial
  | [], vs, n + 1, h => trivial
  | r :: xs, vs, n + 1, h => ⟨h.1, VRows.take n h.2⟩
theorem VCell.slice_cut {sz : Nat} {z : Bool} {xs : List (List V)} {v : Value} (hv : VCell X w (.sl sz z xs) v) {l h : Nat} (hl : l ≤ h) (hh : h ≤ xs.length) :
    ∃ A c, v = .slice A xs.length c ∧ xs.length ≤ c ∧ VCell X w (.sl sz z ((xs.take h).drop l)) (.slice (if c = l then A else A.map (·.add (l * sz))) (h - l) (c - l)) := by
  obtain ⟨h0, hr, hm, hz, A, c, rfl, hlc, hc, hx⟩ := hv
  refine ⟨A, c, rfl, hlc, h0, ?_, ?_, ?_, (if c = l then A else A.map (·.add (l * sz))), c - l, ?_, ?_, ?_, ?_⟩
  · intro r hm; exact hr r (List.mem_of_mem_take (List.mem_of_mem_drop hm))
  · simp; omega
  · intro hz1
    obtain ⟨A', e⟩ := hz hz1
    injection e with e1 e2 e3
    subst e1 e3
    have : h = 0 := by omega
    have : l = 0 := by omega
    subst_vars
    exact ⟨A, by simp⟩
  · simp; omega
  · simp; omega
  · omega
  · intro hne
    have : l < h := by
      rcases Nat.lt_or_ge l h with h' | h'
      · exact h'
      · exfalso; apply hne; simp; omega
    obtain ⟨b, o, cs, t, fr, hA, hX, hh, hR⟩ := hx (by intro e; rw [e] at hh; simp at hh; omega)
    refine ⟨b, o + l * sz, cs, t, fr, ?_, hX, hh, ?_⟩
    · rw [if_neg (by omega), hA]; simp [addr_add]
    · have := VRows.drop l (fun r hm => (hr r (List.mem_of_mem_take hm)).1) (VRows.take h hR)
      rwa [List.drop_drop] at this
theorem sliceK_val {t : Nat} {x : Operand} {lo hi mx : Option Operand} {J : D → Prop} (h : sliceK T E H t x lo hi mx J) (ho : o.op = .slice t x lo hi mx) : ∃ d, J d ∧ Val T o E H d := by
  unfold sliceK at h
  cases mx with
  | some _ => exact h.elim
  | none =>
    simp only at h
    split at h
    · rename_i s hx hd
      obtain ⟨hb, h, bh⟩ := boundK_val (H := H) h
      obtain ⟨lb, h, bl⟩ := boundK_val (H := H) h
      obtain ⟨h0, h1, h2, hJ⟩ := h
      refine ⟨_, hJ, fun X ρ w a r => ?_⟩
      have hv := ev_cell r hx
      unfold DCell VCell at hv
      refine ⟨_, ?_, rfl⟩
      simp only [execOp, ho, hv, Sem.run_bind, Instr.sliceAt, run_underlying (T.str hd), Result.andThen_ok, Instr.slice, Option.map_none]
      simp [run_sliceBounds (bl X ρ w a r) (bh X ρ w a r) h0 h1 h2]
    · rename_i sz z xs e hx hd
      split at h
      · rename_i hsz
        have hsz : (T.ty e).size = sz := by simpa using hsz
        obtain ⟨hb, h, bh⟩ := boundK_val (H := H) h
        obtain ⟨lb, h, bl⟩ := boundK_val (H := H) h
        obtain ⟨h0, h1, h2, hJ⟩ := h
        refine ⟨_, hJ, fun X ρ w a r => ?_⟩
        have hv := ev_cell r hx
        unfold DCell at hv
        have hpos : 0 < sz := by unfold VCell at hv; exact hv.1
        obtain ⟨A, c, e1, e2, e3⟩ := VCell.slice_cut hv (l := lb.toNat) (h := hb.toNat) (by omega) (by omega)
        refine ⟨_, ?_, e3⟩
        simp only [execOp, ho, e1, Sem.run_bind, Instr.sliceAt, run_underlying (T.slice hd), Result.andThen_ok, Instr.slice, Option.map_none]
        rw [run_sliceBounds (bl X ρ w a r) (bh X ρ w a r) h0 h1 (by omega)]
        simp only [Result.andThen_ok, Sem.run_bind, T.run_size (by omega : 0 < (T.ty e).size), hsz, Sem.run_pure]
      · exact h.elim
    · rename_i p o' n e hx hd
      split at h
      · rename_i sz rows hp
        split at h
        · rename_i hsz
          have hsz : (T.ty e).size = sz := by simpa using hsz
          obtain ⟨hb, h, bh⟩ := boundK_val (H := H) h
          obtain ⟨lb, h, bl⟩ := boundK_val (H := H) h
          obtain ⟨h0, h1, h2, hJ⟩ := h
          refine ⟨_, hJ, fun X ρ w a r => ?_⟩
          have hv := ev_cell r hx
          have hob := r.obs p
          rw [hp] at hob
          unfold ObOK at hob
          obtain ⟨hz0, _, _, hob⟩ := hob
          unfold DCell at hv
          have run : ∀ (A : Option Addr) (cap : Nat), hb.toNat ≤ cap → a.eval x = .slice A n cap → (execOp a.eval o).run P w = .ok (.value (.slice (if cap = lb.toNat then A else A.map (·.add (lb.toNat * sz))) (hb.toNat - lb.toNat) (cap - lb.toNat))) w := by
            intro A cap hcap he
            simp only [execOp, ho, he, Sem.run_bind, Instr.sliceAt, run_underlying (T.slice hd), Result.andThen_ok, Instr.slice, Option.map_none]
            rw [run_sliceBounds (bl X ρ w a r) (bh X ρ w a r) h0 h1 (by omega)]
            simp only [Result.andThen_ok, Sem.run_bind, T.run_size (by omega : 0 < (T.ty e).size), hsz, Sem.run_pure]
          cases hq : ρ p with
          | hole => simp only [hq] at hv
          | dead => simp only [hq] at hob
          | null =>
            simp only [hq] at hv hob
            obtain ⟨⟨A, hv⟩, rfl, rfl⟩ := hv
            subst hob
            simp only [List.length_nil] at h2
            refine ⟨_, run A 0 (by omega) hv, ?_⟩
            have h3 : hb.toNat = 0 := by omega
            have h4 : lb.toNat = 0 := by omega
            unfold DCell
            simp [hq, h3, h4]
          | live b s cap =>
            simp only [hq] at hv hob
            obtain ⟨rfl, hrc, _⟩ := hob
            obtain ⟨hv1, hv2, hv3⟩ := hv
            by_cases hoc : o' < cap
            · refine ⟨_, run _ _ (by omega) (hv2 hoc), ?_⟩
              unfold DCell
              simp only [hq]
              refine ⟨by omega, fun hlt => ?_, fun heq => ?_⟩
              · rw [if_neg (by omega)]
                simp only [Option.map_some, addr_add]
                congr 1
                · congr 2; rw [Nat.add_mul]
                · omega
              · have h5 : hb.toNat - lb.toNat = 0 := by omega
                have h6 : cap - o' - lb.toNat = 0 := by omega
                rw [h5, h6, if_pos (by omega)]
                exact ⟨_, rfl⟩
            · obtain ⟨A, hA⟩ := hv3 (by omega)
              have hn : n = 0 := by omega
              subst hn
              have h3 : hb.toNat = 0 := by omega
              have h4 : lb.toNat = 0 := by omega
              refine ⟨_, run _ 0 (by omega) hA, ?_⟩
              unfold DCell
              simp only [hq]
              refine ⟨by omega, fun hlt => by omega, fun heq => ?_⟩
              simp [h3, h4]
        · exact h.elim
      · exact h.elim
    · exact h.elim

/-! ##### the table -/
def fieldK (T : Tab P) (s f : Nat) (K : Nat → Nat → Prop) : Prop :=
  match (T.ty s).d with
  | .struct fs => match fs[f]? with | some (t, off) => K t off | none => False
  | _ => False
theorem fieldK_at {s f : Nat} {J : Nat → Nat → Prop} (h : fieldK T s f J) : ∃ (fs : Array Field) (g : Field), P.underlying s = some (.struct fs) ∧ fs[f]? = some g ∧ J g.type g.offset := by
  unfold fieldK at h
  split at h
  · rename_i fs hd
    obtain ⟨gs, hu, rfl⟩ := T.struct hd
    split at h
    · rename_i t off hf
      simp at hf
      obtain ⟨g, hg, rfl, rfl⟩ := hf
      exact ⟨gs, g, hu, by simpa using hg, h⟩
    · exact h.elim
  · exact h.elim
/-- A byte of a string, as Go's index reads it. -/
def sAt (s : ByteArray) (i : Nat) : Int := ((s.data.toList.getD i 0).toNat : Int)
def indexAddrK (T : Tab P) (E : Nat → Option D) (H : Nat → Ob) (t : Nat) (x ix : Operand) (K : D → Prop) : Prop :=
  match (T.ty t).d, ev T E t x, ev T E 0 ix with
  | .slice e, some (.v (.sl sz _ xs)), some (.v (.int _ i)) => match (T.ty e).size == sz with
    | true => 0 ≤ i ∧ ∃ r, xs[i.toNat]? = some r ∧ K (.v (.iptr r))
    | false => False
  | .slice e, some (.arr p o n), some (.v (.int _ i)) => match H p with
    | .arr sz _ => match (T.ty e).size == sz with
      | true => 0 ≤ i ∧ i < n ∧ K (.ptr p (o + i.toNat) 0)
      | false => False
    | _ => False
  | .array n e, some (.v (.iptr cs)), some (.v (.int _ i)) => match (T.ty e).size with
    | 0 => False
    | m + 1 => 0 ≤ i ∧ i < n ∧ K (.v (.iptr (cs.drop (i.toNat * (m + 1)))))
  | .array n e, some (.ptr p a b), some (.v (.int _ i)) => match (T.ty e).size with
    | 0 => False
    | m + 1 => match H p with | .arr _ _ => 0 ≤ i ∧ i < n ∧ K (.ptr p a (b + i.toNat * (m + 1))) | _ => False
  | _, _, _ => False
def minmaxK (mx : Bool) : List (Option D) → (D → Prop) → Prop
  | [some (.v (.int k a)), some (.v (.int k' b))], K => match IntKind.same k k', mx with
    | true, true => K (.v (.int k (if b > a then b else a)))
    | true, false => K (.v (.int k (if b < a then b else a)))
    | false, _ => False
  | _, _ => False
def valK (T : Tab P) (E : Nat → Option D) (H : Nat → Ob) (o : Oper) (K : D → Prop) : Prop :=
  match o.op with
  | .move x | .assign x => match ev T E o.type x with | some d => K d | none => False
  | .pick c x y => match ev T E 0 c with
    | some (.v (.bool p)) => match ev T E o.type x, ev T E o.type y with
      | some (.v (.bool q)), some (.v (.bool q')) => K (.v (.bool (bif p then q else q')))
      | dx, dy => Br p (match dx with | some d => K d | none => False) (match dy with | some d => K d | none => False)
    | _ => False
  | .binOp op xt x y _ => match (T.ty xt).d with
    | .struct fs => match ev T E xt x, ev T E xt y with
      | some dx, some dy => match dx.toV, dy.toV, (T.ty xt).eqok, flatFs T 0 fs with
        | some (.agg xs), some (.agg ys), true, true => match eqCells T fs xs ys, op with
          | some b, .eql => K (.v (.bool b))
          | some b, .neq => K (.v (.bool (!b)))
          | _, _ => False
        | _, _, _, _ => False
      | _, _ => False
    | ty => match ev T E xt x, ev T E xt y with
      | some (.v a), some (.v b) => binV ty op a b fun z => K (.v z)
      | _, _ => False
  | .unOp op t x => match op, ev T E t x with
    | .not, some (.v (.bool b)) => K (.v (.bool (!b)))
    | .neg, some (.v (.int k n)) => K (.v (.int k (k.wrap (0 - n))))
    | _, _ => False
  | .convert s t x => match ev T E s x, (T.ty s).d, (T.ty t).d with
    | some (.v (.int _ n)), .int _, .int k => K (.v (.int k (k.wrap n)))
    | some (.v (.str b)), .str, .str => K (.v (.str b))
    | some (.v (.int _ n)), .int _, .str => K (.v (.str (Utf8.encode n)))
    | _, _, _ => False
  | .fieldAddr s x f => fieldK T s f fun t off => match (T.ty t).size with
    | 0 => False
    | _ + 1 => match ev T E 0 x with
      | some (.ptr p i j) => match H p with | .arr _ _ => K (.ptr p i (j + off)) | _ => False
      | some (.v (.iptr cs)) => K (.v (.iptr (cs.drop off)))
      | _ => False
  | .field s x f => fieldK T s f fun t off => match ev T E 0 x with
      | some (.agg cs) => partK T t off cs K
      | some (.v (.agg cs)) => partK T t off (cs.map .v) K
      | _ => False
  | .indexAddr t x ix => indexAddrK T E H t x ix K
  | .index t x ix => match (T.ty t).d, ev T E t x, ev T E 0 ix with
    | .str, some (.v (.str s)), some (.v (.int _ i)) => 0 ≤ i ∧ i.toNat < s.size ∧ K (.v (.int .u8 (sAt s i.toNat)))
    | _, _, _ => False
  | .slice t x lo hi mx => sliceK T E H t x lo hi mx K
  | .extract x i => match ev T E 0 x with
    | some (.tup ds) => match ds[i]? with | some d => K d | none => False
    | some (.v (.tup cs)) => match cs[i]? with | some c => K (.v c) | none => False
    | _ => False
  | .load t x => derefK H (ev T E 0 x) fun cs => partK T t 0 cs K
  | .nilCheck x => match ev T E 0 x with
    | some (.ptr p i j) => match H p with | .arr _ _ => K (.ptr p i j) | _ => False
    | some (.v (.iptr cs)) => K (.v (.iptr cs))
    | _ => False
  | .call c => match c.callee, c.args.toList, c.argTypes.toList with
    | .builtin .len, [x], t :: _ => match (T.ty t).d, ev T E t x with
      | .str, some (.v (.str s)) => K (.v (.int .i64 s.size))
      | .slice _, some (.v (.sl _ _ xs)) => K (.v (.int .i64 xs.length))
      | .slice _, some (.arr p a n) => match H p with | .arr _ _ => K (.v (.int .i64 n)) | _ => False
      | .array n _, _ => K (.v (.int .i64 n))
      | _, _ => False
    | .builtin .min, l, _ => minmaxK false (l.map (ev T E 0)) K
    | .builtin .max, l, _ => minmaxK true (l.map (ev T E 0)) K
    | _, _, _ => False
  | _ => False
theorem val_of {d : D} (h : ∀ X ρ w (a : Act), Real T.glob X ρ w E H a.tmps → ∃ v, (execOp a.eval o).run P w = .ok (.value v) w ∧ DCell X ρ w d v) : Val T o E H d := h
theorem run_fieldPlace {b off : Nat} {g : Field} (hs : 0 < (T.ty g.type).size) : (fieldPlace ⟨b, off, none⟩ g).run P w = .ok ⟨b, off + g.offset, none⟩ w := by
  simp only [fieldPlace, Sem.run_bind, T.run_size hs, Result.andThen_ok]
  rw [if_neg (by omega), addr_add]
  rfl
theorem ptr_live {tmps : Array Value} (r : Real T.glob X ρ w E H tmps) {p i j sz : Nat} {rows : List (List D)} (hp : H p = .arr sz rows) {v : Value} (hv : DCell X ρ w (.ptr p i j) v) :
    ∃ b s cap, ρ p = .live b s cap ∧ v = .pointer (some ⟨b, i * s + j, none⟩) := by
  have hob := r.obs p
  rw [hp] at hob
  unfold ObOK at hob
  unfold DCell at hv
  cases hq : ρ p with
  | hole => simp only [hq] at hv
  | null => simp only [hq] at hv
  | dead => simp only [hq] at hob; exact hob.2.2.2.elim
  | live b s cap => simp only [hq] at hv; exact ⟨b, s, cap, rfl, hv⟩
theorem indexAddrK_val {t : Nat} {x ix : Operand} {J : D → Prop} (h : indexAddrK T E H t x ix J) (ho : o.op = .indexAddr t x ix) : ∃ d, J d ∧ Val T o E H d := by
  unfold indexAddrK at h
  split at h
  · rename_i e sz z xs k i hd hx hi
    split at h
    · rename_i hsz
      have hsz : (T.ty e).size = sz := by simpa using hsz
      obtain ⟨h0, row, hrow, hJ⟩ := h
      refine ⟨_, hJ, fun X ρ w a r => ?_⟩
      have hv := ev_cell r hx
      have hn := ev_cell r hi
      unfold DCell VCell at hv hn
      obtain ⟨h1, hr, _, _, A, c, hv, hlc, hc, hne⟩ := hv
      have hlt : i.toNat < xs.length := (List.getElem?_eq_some_iff.1 hrow).1
      obtain ⟨b, off, cs, ty, fr, rfl, hX, hh, hR⟩ := hne (by intro e; rw [e] at hlt; simp at hlt)
      refine ⟨.pointer (some ⟨b, off + i.toNat * sz, none⟩), ?_, b, off + i.toNat * sz, cs, ty, fr, rfl, hX, hh, ?_⟩
      · simp only [execOp, ho, hv, hn, Instr.indexAt, asIntOf, Sem.run_bind, Sem.run_pure, Result.andThen_ok, run_underlying (T.slice hd)]
        rw [if_pos ⟨h0, by omega⟩]
        simp only [Sem.run_bind, T.run_size (by omega : 0 < (T.ty e).size), Result.andThen_ok, hsz, Sem.run_pure, addr_add]
      · have := VRows.get (fun r hm => (hr r hm).1) hR hrow
        rwa [List.drop_drop] at this
    · exact h.elim
  · rename_i e p o' n k i hd hx hi
    split at h
    · rename_i sz rows hp
      split at h
      · rename_i hsz
        have hsz : (T.ty e).size = sz := by simpa using hsz
        obtain ⟨h0, h1, hJ⟩ := h
        refine ⟨_, hJ, fun X ρ w a r => ?_⟩
        have hv := ev_cell r hx
        have hn := ev_cell r hi
        have hob := r.obs p
        rw [hp] at hob
        unfold ObOK at hob
        obtain ⟨hz0, _, _, hob⟩ := hob
        unfold DCell at hv hn
        unfold VCell at hn
        cases hq : ρ p with
        | hole => simp only [hq] at hv
        | dead => simp only [hq] at hob
        | null => simp only [hq] at hv; omega
        | live b s cap =>
          simp only [hq] at hv hob
          obtain ⟨rfl, _⟩ := hob
          obtain ⟨hv1, hv2, hv3⟩ := hv
          have hv := hv2 (by omega)
          refine ⟨.pointer (some ⟨b, o' * s + i.toNat * s, none⟩), ?_, ?_⟩
          · simp only [execOp, ho, hv, hn, Instr.indexAt, asIntOf, Sem.run_bind, Sem.run_pure, Result.andThen_ok, run_underlying (T.slice hd)]
            rw [if_pos ⟨h0, by omega⟩]
            simp only [Sem.run_bind, T.run_size (by omega : 0 < (T.ty e).size), Result.andThen_ok, hsz, Sem.run_pure, addr_add]
          · unfold DCell
            simp only [hq, Nat.add_mul, Nat.add_zero]
      · exact h.elim
    · exact h.elim
  · rename_i n e cs k i hd hx hi
    split at h
    · exact h.elim
    · rename_i m hm
      obtain ⟨h0, h1, hJ⟩ := h
      refine ⟨_, hJ, fun X ρ w a r => ?_⟩
      have hv := ev_cell r hx
      have hn := ev_cell r hi
      unfold DCell VCell at hv hn
      obtain ⟨b, off, arr, ty, fr, hv, hX, hh, hc⟩ := hv
      refine ⟨.pointer (some ⟨b, off + i.toNat * (m + 1), none⟩), ?_, b, off + i.toNat * (m + 1), arr, ty, fr, rfl, hX, hh, ?_⟩
      · simp only [execOp, ho, hv, hn, Instr.indexAt, Instr.sureAddr, asIntOf, Sem.run_bind, Sem.run_pure, Result.andThen_ok, run_underlying (T.array hd)]
        rw [if_pos ⟨h0, by omega⟩]
        simp only [Sem.run_bind, T.run_size (by omega : 0 < (T.ty e).size), Result.andThen_ok, hm, Sem.run_pure, addr_add]
      · have := VCells.drop (i.toNat * (m + 1)) hc
        rwa [List.drop_drop] at this
  · rename_i n e p a' b' k i hd hx hi
    split at h
    · exact h.elim
    · rename_i m hm
      split at h
      · rename_i sz rows hp
        obtain ⟨h0, h1, hJ⟩ := h
        refine ⟨_, hJ, fun X ρ w a r => ?_⟩
        have hv := ev_cell r hx
        have hn := ev_cell r hi
        unfold DCell at hn
        unfold VCell at hn
        obtain ⟨b, s, cap, hq, hv⟩ := ptr_live r hp hv
        refine ⟨.pointer (some ⟨b, a' * s + b' + i.toNat * (m + 1), none⟩), ?_, ?_⟩
        · simp only [execOp, ho, hv, hn, Instr.indexAt, Instr.sureAddr, asIntOf, Sem.run_bind, Sem.run_pure, Result.andThen_ok, run_underlying (T.array hd)]
          rw [if_pos ⟨h0, by omega⟩]
          simp only [Sem.run_bind, T.run_size (by omega : 0 < (T.ty e).size), Result.andThen_ok, hm, Sem.run_pure, addr_add]
        · unfold DCell
          simp only [hq, Nat.add_assoc]
      · exact h.elim
  · exact h.elim
theorem arr_slice {tmps : Array Value} (r : Real T.glob X ρ w E H tmps) {p a n sz : Nat} {rows : List (List D)} (hp : H p = .arr sz rows) {v : Value} (hv : DCell X ρ w (.arr p a n) v) :
    ∃ A c, v = .slice A n c := by
  have hob := r.obs p
  rw [hp] at hob
  unfold ObOK at hob
  unfold DCell at hv
  cases hq : ρ p with
  | hole => simp only [hq] at hv
  | null => simp only [hq] at hv; obtain ⟨⟨A, rfl⟩, rfl, rfl⟩ := hv; exact ⟨_, _, rfl⟩
  | dead => simp only [hq] at hob; exact hob.2.2.2.elim
  | live b s cap =>
    simp only [hq] at hv
    obtain ⟨h1, h2, h3⟩ := hv
    by_cases hc : a < cap
    · exact ⟨_, _, h2 hc⟩
    · obtain ⟨A, hA⟩ := h3 (by omega)
      have : n = 0 := by omega
      subst this
      exact ⟨_, _, hA⟩
theorem minmax_val {mx : Bool} {c : Call} {J : D → Prop} (h : minmaxK mx (c.args.toList.map (ev T E 0)) J)
    (run : ∀ (a : Act) (w : World), ∃ cs, (execOp a.eval o).run P w = (builtin (if mx then .max else .min) c.argTypes o.type cs (c.args.map a.eval)).run P w) : ∃ d, J d ∧ Val T o E H d := by
  unfold minmaxK at h
  split at h
  · rename_i k x k' y hl
    have hl2 : ∃ p q, c.args.toList = [p, q] ∧ ev T E 0 p = some (.v (.int k x)) ∧ ev T E 0 q = some (.v (.int k' y)) := by
      cases hc : c.args.toList with
      | nil => rw [hc] at hl; simp at hl
      | cons p r1 => cases r1 with
        | nil => rw [hc] at hl; simp at hl
        | cons q r2 => cases r2 with
          | nil => rw [hc] at hl; simp at hl; exact ⟨p, q, rfl, hl.1, hl.2⟩
          | cons _ _ => rw [hc] at hl; simp at hl
    obtain ⟨p, q, hc, hp, hq⟩ := hl2
    split at h
    · rename_i hs
      have := IntKind.same_eq hs; subst this
      refine ⟨_, h, fun X ρ w a r => ⟨.int k (if y > x then y else x), ?_, rfl⟩⟩
      have h1 := ev_cell r hp
      have h2 := ev_cell r hq
      unfold DCell VCell at h1 h2
      obtain ⟨cs, e⟩ := run a w
      rw [e]
      have : c.args.map a.eval = #[.int k x, .int k y] := by rw [← Array.toList_inj]; simp [hc, h1, h2]
      rw [this]
      simp [builtin, Builtin.max_, Builtin.max2]
    · rename_i hs
      have := IntKind.same_eq hs; subst this
      refine ⟨_, h, fun X ρ w a r => ⟨.int k (if y < x then y else x), ?_, rfl⟩⟩
      have h1 := ev_cell r hp
      have h2 := ev_cell r hq
      unfold DCell VCell at h1 h2
      obtain ⟨cs, e⟩ := run a w
      rw [e]
      have : c.args.map a.eval = #[.int k x, .int k y] := by rw [← Array.toList_inj]; simp [hc, h1, h2]
      rw [this]
      simp [builtin, Builtin.min_, Builtin.min2]
    · exact h.elim
  · exact h.elim
theorem binV_all {ty : Ty} {op : BinOp} {x y : V} {J : V → Prop} {t : Nat} (h : binV ty op x y J) (hty : ty = .bool → P.underlying t = some .bool) :
    ∃ z, J z ∧ ∀ X w u v xo yo, VCell X w x u → VCell X w y v → ∃ r, (do eqGuard op t xo yo u v; binOp op t u v : Sem Value).run P w = .ok r w ∧ VCell X w z r := by
  have key : ∃ z, J z ∧ binV ty op x y (· = z) := by
    unfold binV at h ⊢
    repeat' first
      | exact h.elim
      | exact ⟨_, h, rfl⟩
      | exact ⟨_, h.2, h.1, rfl⟩
      | split at h
  obtain ⟨z, hJ, hz⟩ := key
  refine ⟨z, hJ, fun X w u v xo yo hu hv => ?_⟩
  obtain ⟨z', rfl, r, hr, hc⟩ := binV_run hz hty X w u v xo yo hu hv
  exact ⟨r, hr, hc X w⟩
theorem valK_val {J : D → Prop} (h : valK T E H o J) : ∃ d, J d ∧ Val T o E H d := by
  unfold valK at h
  split at h
  · rename_i x ho
    split at h
    · rename_i d hd
      exact ⟨d, h, fun X ρ w a r => ⟨_, by simp [execOp, ho], ev_cell r hd⟩⟩
    · exact h.elim
  · rename_i x ho
    split at h
    · rename_i d hd
      exact ⟨d, h, fun X ρ w a r => ⟨_, by simp [execOp, ho], ev_cell r hd⟩⟩
    · exact h.elim
  · rename_i c x y ho
    split at h
    · rename_i p hc
      split at h
      · rename_i q q' hx hy
        refine ⟨_, h, fun X ρ w a r => ?_⟩
        have h1 := ev_cell r hc
        have h2 := ev_cell r hx
        have h3 := ev_cell r hy
        unfold DCell VCell at h1 h2 h3
        refine ⟨.bool (bif p then q else q'), ?_, rfl⟩
        simp only [execOp, ho, h1, h2, h3, asBool, Sem.run_bind, Sem.run_pure, Result.andThen_ok]
        cases p <;> rfl
      · cases p with
        | true =>
          have h := h.t rfl
          split at h
          · rename_i d hd
            refine ⟨d, h, fun X ρ w a r => ⟨_, ?_, ev_cell r hd⟩⟩
            have h1 := ev_cell r hc
            unfold DCell VCell at h1
            simp only [execOp, ho, h1, asBool, Sem.run_bind, Sem.run_pure, Result.andThen_ok, if_true]
          · exact h.elim
        | false =>
          have h := h.f rfl
          split at h
          · rename_i d hd
            refine ⟨d, h, fun X ρ w a r => ⟨_, ?_, ev_cell r hd⟩⟩
            have h1 := ev_cell r hc
            unfold DCell VCell at h1
            simp only [execOp, ho, h1, asBool, Sem.run_bind, Sem.run_pure, Result.andThen_ok, Bool.false_eq_true, if_false]
          · exact h.elim
    · exact h.elim
  · rename_i op xt x y yt ho
    split at h
    · rename_i fs hd
      split at h
      · rename_i dx dy hx hy
        split at h
        · rename_i xs ys hvx hvy hok hfl
          have key : ∀ b, eqCells T fs xs ys = some b → ∀ X ρ w (a : Act), Real T.glob X ρ w E H a.tmps → ∃ us vs : List Value, a.eval x = .agg us.toArray ∧ a.eval y = .agg vs.toArray ∧
              (∀ q : BinOp, (eqGuard q xt x y (.agg us.toArray) (.agg vs.toArray)).run P w = .ok () w) ∧ (Op.equal xt (.agg us.toArray) (.agg vs.toArray)).run P w = .ok b w := by
            intro b hb X ρ w a r
            obtain ⟨us, hu, _, hcu⟩ := D.toV_cell _ hvx (ev_cell r hx)
            obtain ⟨vs, hv, _, hcv⟩ := D.toV_cell _ hvy (ev_cell r hy)
            exact ⟨us, vs, hu, hv, fun q => (eqStruct_run hd hok hfl hb hcu hcv x y q).1, (eqStruct_run hd hok hfl hb hcu hcv x y .eql).2⟩
          split at h
          · rename_i b hb
            refine ⟨_, h, fun X ρ w a r => ?_⟩
            obtain ⟨us, vs, hu, hv, hg, he⟩ := key b hb X ρ w a r
            exact ⟨.bool b, by simp only [execOp, ho, hu, hv, Sem.run_bind, hg, Result.andThen_ok, binOp, he, Sem.run_pure], rfl⟩
          · rename_i b hb
            refine ⟨_, h, fun X ρ w a r => ?_⟩
            obtain ⟨us, vs, hu, hv, hg, he⟩ := key b hb X ρ w a r
            exact ⟨.bool (!b), by simp only [execOp, ho, hu, hv, Sem.run_bind, hg, Result.andThen_ok, binOp, he, Sem.run_pure], rfl⟩
          · exact h.elim
        · exact h.elim
      · exact h.elim
    · rename_i ty hns
      split at h
      · rename_i u v hx hy
        obtain ⟨z, hz, hall⟩ := binV_all (P := P) (t := xt) h (fun e => T.bool (by assumption))
        refine ⟨_, hz, fun X ρ w a r => ?_⟩
        obtain ⟨q, hq, hc⟩ := hall X w _ _ x y (ev_cell r hx) (ev_cell r hy)
        refine ⟨q, ?_, hc⟩
        simp only [execOp, ho]
        rw [Sem.run_bind, hq]
        rfl
      · exact h.elim
  · rename_i op t x ho
    split at h
    · rename_i b hx
      refine ⟨_, h, fun X ρ w a r => ⟨.bool (!b), ?_, rfl⟩⟩
      have h1 := ev_cell r hx
      unfold DCell VCell at h1
      simp [execOp, ho, h1, Op.unary]
    · rename_i k n hx
      refine ⟨_, h, fun X ρ w a r => ⟨.int k (k.wrap (0 - n)), ?_, rfl⟩⟩
      have h1 := ev_cell r hx
      unfold DCell VCell at h1
      simp [execOp, ho, h1, Op.unary, Op.intArith]
    · exact h.elim
  · rename_i s t x ho
    split at h
    · rename_i k n k1 k2 hx hs ht
      refine ⟨_, h, fun X ρ w a r => ⟨.int k2 (k2.wrap n), ?_, rfl⟩⟩
      have h1 := ev_cell r hx
      unfold DCell VCell at h1
      simp [execOp, ho, h1, convert, run_underlying (T.int hs), run_underlying (T.int ht), Conv.intToInt]
    · rename_i b hx hs ht
      refine ⟨_, h, fun X ρ w a r => ⟨.string b, ?_, rfl⟩⟩
      have h1 := ev_cell r hx
      unfold DCell VCell at h1
      simp [execOp, ho, h1, convert, run_underlying (T.str hs), run_underlying (T.str ht)]
    · rename_i k n k1 hx hs ht
      refine ⟨_, h, fun X ρ w a r => ⟨.string (Utf8.encode n), ?_, rfl⟩⟩
      have h1 := ev_cell r hx
      unfold DCell VCell at h1
      simp [execOp, ho, h1, convert, run_underlying (T.int hs), run_underlying (T.str ht), Conv.intToString]
    · exact h.elim
  · rename_i s x f ho
    obtain ⟨fs, g, hu, hg, h⟩ := fieldK_at h
    split at h
    · exact h.elim
    · rename_i m hm
      have hs : 0 < (T.ty g.type).size := by rw [hm]; omega
      split at h
      · rename_i p i j hx
        split at h
        · rename_i sz rows hp
          refine ⟨_, h, fun X ρ w a r => ?_⟩
          obtain ⟨b, s', cap, hq, hv⟩ := ptr_live r hp (ev_cell r hx)
          refine ⟨.pointer (some ⟨b, i * s' + j + g.offset, none⟩), ?_, ?_⟩
          · simp only [execOp, ho, hv, Instr.fieldAt, Instr.sureAddr, Sem.run_bind, Sem.run_pure, Result.andThen_ok, run_underlying hu, hg]
            rw [run_fieldPlace hs]
            simp
          · unfold DCell
            simp only [hq, Nat.add_assoc]
        · exact h.elim
      · rename_i cs hx
        refine ⟨_, h, fun X ρ w a r => ?_⟩
        have hv := ev_cell r hx
        unfold DCell VCell at hv
        obtain ⟨b, off, arr, ty, fr, hv, hX, hh, hc⟩ := hv
        refine ⟨.pointer (some ⟨b, off + g.offset, none⟩), ?_, b, off + g.offset, arr, ty, fr, rfl, hX, hh, ?_⟩
        · simp only [execOp, ho, hv, Instr.fieldAt, Instr.sureAddr, Sem.run_bind, Sem.run_pure, Result.andThen_ok, run_underlying hu, hg]
          rw [run_fieldPlace hs]
          simp
        · have := VCells.drop g.offset hc
          rwa [List.drop_drop] at this
      · exact h.elim
  · rename_i s x f ho
    obtain ⟨fs, g, hu, hg, h⟩ := fieldK_at h
    split at h
    · rename_i cs hx
      have h2 : ∃ d, J d ∧ ∀ X ρ w (vs : List Value), DCells X ρ w cs vs → vs.length = cs.length → ∃ v, (part g.type vs.toArray g.offset).run P w = .ok v w ∧ DCell X ρ w d v := partK_all h
      obtain ⟨d, hJ, hd⟩ := h2
      refine ⟨d, hJ, fun X ρ w a r => ?_⟩
      obtain ⟨vs, hv, hl, hc⟩ := ev_cell r hx
      obtain ⟨v, hv1, hv2⟩ := hd X ρ w vs hc hl
      exact ⟨v, by simp only [execOp, ho, hv, Instr.field, Sem.run_bind, run_underlying hu, Result.andThen_ok, hg, asAgg, Sem.run_pure, hv1], hv2⟩
    · rename_i cs hx
      obtain ⟨d, hJ, hd⟩ := partK_all h
      refine ⟨d, hJ, fun X ρ w a r => ?_⟩
      obtain ⟨vs, hv, hl, hc⟩ := ev_cell r hx
      obtain ⟨v, hv1, hv2⟩ := hd X ρ w vs (VCells.toD hc) (by simpa using hl)
      exact ⟨v, by simp only [execOp, ho, hv, Instr.field, Sem.run_bind, run_underlying hu, Result.andThen_ok, hg, asAgg, Sem.run_pure, hv1], hv2⟩
    · exact h.elim
  · rename_i t x ix ho
    exact indexAddrK_val h ho
  · rename_i t x ix ho
    split at h
    · rename_i s k i hd hx hi
      obtain ⟨h0, h1, h⟩ := h
      refine ⟨_, h, fun X ρ w a r => ⟨.int .u8 (sAt s i.toNat), ?_, rfl⟩⟩
      have hv := ev_cell r hx
      have hn := ev_cell r hi
      unfold DCell VCell at hv hn
      have : s[i.toNat]? = some (s[i.toNat]'h1) := by simp [h1]
      simp only [execOp, ho, hv, hn, Instr.index, asIntOf, Sem.run_bind, Sem.run_pure, Result.andThen_ok, run_underlying (T.str hd), if_pos h0]
      have e1 : s[i.toNat]? = some (s.data.toList.getD i.toNat 0) := by
        rw [getElem?_pos s i.toNat h1]
        have h2 : i.toNat < s.data.toList.length := by rw [Array.length_toList]; exact h1
        congr 1
        rw [List.getD_eq_getElem?_getD, List.getElem?_eq_getElem h2]
        simp
        rfl
      rw [e1]
      simp [sAt]
    · exact h.elim
  · rename_i t x lo hi mx ho
    exact sliceK_val h ho
  · rename_i x i ho
    split at h
    · rename_i ds hx
      split at h
      · rename_i d hd
        refine ⟨d, h, fun X ρ w a r => ?_⟩
        obtain ⟨vs, hv, hl, hc⟩ := ev_cell r hx
        obtain ⟨v, hv1, hv2⟩ := DCells.get hc hd
        refine ⟨v, ?_, hv2⟩
        have : vs.toArray[i]? = some v := by simpa using hv1
        simp [execOp, ho, hv, Instr.extract, this, hv1]
      · exact h.elim
    · rename_i cs hx
      split at h
      · rename_i d hd
        refine ⟨_, h, fun X ρ w a r => ?_⟩
        obtain ⟨vs, hv, hl, hc⟩ := ev_cell r hx
        obtain ⟨v, hv1, hv2⟩ := VCells.get hc hd
        refine ⟨v, ?_, hv2⟩
        have : vs.toArray[i]? = some v := by simpa using hv1
        simp [execOp, ho, hv, Instr.extract, this, hv1]
      · exact h.elim
    · exact h.elim
  · rename_i t x ho
    cases hx : ev T E 0 x with
    | none => rw [hx] at h; exact h.elim
    | some dx =>
      rw [hx] at h
      obtain ⟨cs, h, hall⟩ := derefK_all (T := T) (H := H) h
      obtain ⟨d, hJ, hd⟩ := partK_load h
      refine ⟨d, hJ, fun X ρ w a r => ?_⟩
      obtain ⟨b, off, arr, e, fr, hv, hh, hc⟩ := hall X ρ w E a.tmps r _ (ev_cell r hx)
      obtain ⟨v, hv1, hv2⟩ := hd X ρ w b off arr e fr hh hc
      exact ⟨v, by simp only [execOp, ho, hv, Instr.loadAt, Instr.sureAddr, Sem.run_bind, Sem.run_pure, Result.andThen_ok, hv1], hv2⟩
  · rename_i x ho
    split at h
    · rename_i p i j hx
      split at h
      · rename_i sz rows hp
        refine ⟨_, h, fun X ρ w a r => ?_⟩
        have hc := ev_cell r hx
        obtain ⟨b, s', cap, hq, hv⟩ := ptr_live r hp hc
        refine ⟨_, ?_, hc⟩
        rw [hv]
        simp [execOp, ho, hv]
      · exact h.elim
    · rename_i cs hx
      refine ⟨_, h, fun X ρ w a r => ?_⟩
      have hc := ev_cell r hx
      refine ⟨_, ?_, hc⟩
      obtain ⟨b, off, arr, ty, fr, hv, _⟩ := hc
      rw [hv]
      simp [execOp, ho, hv]
    · exact h.elim
  · rename_i c ho
    have run : ∀ (b : Builtin) (a : Act) (w : World), c.callee = .builtin b → ∃ cs, (execOp a.eval o).run P w = (builtin b c.argTypes o.type cs (c.args.map a.eval)).run P w := by
      intro b a w hb
      refine ⟨c.args.map fun | .const _ => true | _ => false, ?_⟩
      simp only [execOp, ho, resolve, hb, Sem.run_bind, Sem.run_pure, Result.andThen_ok, invoke]
      rfl
    split at h
    · rename_i x t ts hb hl htl
      have hargs : ∀ a : Act, c.args.map a.eval = #[a.eval x] := by
        intro a; rw [← Array.toList_inj]; simp [hl]
      have ht : c.argTypes[0]? = some t := by rw [← Array.getElem?_toList, htl]; rfl
      have fin : ∀ (n : Nat) (a : Act) (w : World), (Builtin.len_ c.argTypes o.type #[a.eval x]).run P w = .ok (goInt n) w → (execOp a.eval o).run P w = .ok (.value (.int .i64 n)) w := by
        intro n a w hn
        obtain ⟨cs, e⟩ := run _ a w hb
        rw [e, hargs]
        simp only [builtin, Sem.run_bind, hn, Result.andThen_ok, Sem.run_pure]
        rfl
      have z0 : ∀ v : Value, (#[v] : Array Value)[0]? = some v := fun v => rfl
      split at h
      · rename_i s hd hx
        refine ⟨_, h, fun X ρ w a r => ⟨_, fin s.size a w ?_, rfl⟩⟩
        have hv := ev_cell r hx
        unfold DCell VCell at hv
        simp only [Builtin.len_, ht, z0, Sem.run_bind, run_underlying (T.str hd), Result.andThen_ok, hv, Sem.run_pure]
      · rename_i e sz z xs hd hx
        refine ⟨_, h, fun X ρ w a r => ⟨_, fin xs.length a w ?_, rfl⟩⟩
        have hv := ev_cell r hx
        unfold DCell VCell at hv
        obtain ⟨_, _, _, _, A, cp, hv, _⟩ := hv
        simp only [Builtin.len_, ht, z0, Sem.run_bind, run_underlying (T.slice hd), Result.andThen_ok, hv, Sem.run_pure]
      · rename_i e p a' n hd hx
        split at h
        · rename_i sz rows hp
          refine ⟨_, h, fun X ρ w a r => ⟨_, fin n a w ?_, rfl⟩⟩
          have hv := ev_cell r hx
          obtain ⟨A, cp, hv⟩ := arr_slice r hp hv
          simp only [Builtin.len_, ht, z0, Sem.run_bind, run_underlying (T.slice hd), Result.andThen_ok, hv, Sem.run_pure]
        · exact h.elim
      · rename_i n e hd
        refine ⟨_, h, fun X ρ w a r => ⟨_, fin n a w ?_, rfl⟩⟩
        simp only [Builtin.len_, ht, z0, Sem.run_bind, run_underlying (T.array hd), Result.andThen_ok, Sem.run_pure]
      · exact h.elim
    · rename_i hb
      exact minmax_val (mx := false) h (fun a w => run _ a w hb)
    · rename_i hb
      exact minmax_val (mx := true) h (fun a w => run _ a w hb)
    · exact h.elim
  · exact h.elim
end
end Go.DL
