/- DL, part 1: types as tables, the state, and what one operation does to it. Own work; no condition. -/
import Derived.Test.YtdadnjhfennenaaDl0
set_option linter.unusedVariables false
set_option linter.unusedSimpArgs false
namespace Go.DL
open Go.RowKit

/-! #### types -/
inductive Ty where
  | bool | int (k : IntKind) | str | ptr (e : Nat) | slice (e : Nat) | array (n e : Nat) | struct (fs : List (Nat × Nat)) | func | tuple | iface | other
structure TI where
  d : Ty
  agg : Bool
  size : Nat
  bytes : Nat
  zero : List V
  eqok : Bool
def TI.none : TI := ⟨.other, false, 0, 0, [], false⟩
def tyD (P : Program) (t : Nat) : Ty :=
  match P.underlying t with
  | some .bool => .bool | some (.int k) => .int k | some .string => .str | some (.pointer e) => .ptr e | some (.slice e) => .slice e
  | some (.array n e) => .array n e | some (.struct fs) => .struct (fs.toList.map fun f => (f.type, f.offset))
  | some (.func ..) => .func | some (.tuple ..) => .tuple | some (.interface ..) => .iface | _ => .other
def cellTys (P : Program) : Nat → Nat → List Nat
  | 0, _ => []
  | d + 1, t => match P.underlying t with
    | some (.struct fs) => fs.toList.flatMap fun f => cellTys P d f.type
    | some (.array n e) => (List.replicate n ()).flatMap fun _ => cellTys P d e
    | _ => [t]
/-- How many cells an element of a slice type has (1 where it is none). -/
def elemSz (P : Program) (t : Nat) : Nat := match P.underlying t with | some (.slice e) => max (P.cellsOf e) 1 | _ => 1
def vOf (sz : Nat) : Value → V
  | .int k n => .int k n
  | .bool b => .bool b
  | .string s => .str s
  | .slice none 0 0 => .sl sz true []
  | v => .raw v
def zeroV : List Nat → List Value → List V
  | s :: ss, v :: vs => vOf s v :: zeroV ss vs
  | [], v :: vs => vOf 1 v :: zeroV [] vs
  | _, [] => []
def tiOf (P : Program) (t : Nat) : TI :=
  match P.info? t, P.underlying t with
  | some i, some u => ⟨tyD P t, (match u with | .struct _ | .array _ _ => true | _ => false), i.size, i.bytes,
      (match i.zero with | some z => zeroV ((cellTys P 8 t).map (elemSz P)) z.cells.toList | none => []),
      !P.stoodInHeld t && !P.eqGuardType P.depth t && (match u with | .struct fs => fs.all fun f => f.name != "_" | _ => true)⟩
  | _, _ => TI.none
/-- A table of types that is right for a program. -/
structure Tab (P : Program) where
  ty : Nat → TI
  ok : ∀ t, ty t = tiOf P t ∨ ty t = TI.none
  mixed : P.follows .mixedOrders = true
  glob : Nat → Option (List V)

theorem vOf_cell {X : Nat → Prop} {w : World} {s : Nat} (h : 0 < s) (v : Value) : VCell X w (vOf s v) v := by
  unfold vOf
  split <;> try (unfold VCell; rfl)
  unfold VCell
  exact ⟨h, by simp, by simp, fun _ => ⟨none, rfl⟩, none, 0, rfl, by simp, by simp, fun h => absurd rfl h⟩
theorem zeroV_cells {X : Nat → Prop} {w : World} : ∀ (ss : List Nat) (vs : List Value), (∀ s ∈ ss, 0 < s) → VCells X w (zeroV ss vs) vs ∧ (zeroV ss vs).length = vs.length
  | s :: ss, v :: vs, h => by
    have := zeroV_cells (X := X) (w := w) ss vs (fun x hx => h x (List.mem_cons_of_mem _ hx))
    exact ⟨⟨vOf_cell (h s List.mem_cons_self) v, this.1⟩, by simp [zeroV, this.2]⟩
  | [], v :: vs, h => by
    have := zeroV_cells (X := X) (w := w) [] vs h
    exact ⟨⟨vOf_cell (by decide) v, this.1⟩, by simp [zeroV, this.2]⟩
  | [], [], _ => ⟨trivial, rfl⟩
  | _ :: _, [], _ => ⟨trivial, rfl⟩
theorem elemSz_pos (P : Program) (t : Nat) : 0 < elemSz P t := by
  unfold elemSz; split <;> omega

section
variable {P : Program} (T : Tab P) {t : Nat}
theorem Tab.info (h : 0 < (T.ty t).size) : ∃ i u, P.info? t = some i ∧ P.underlying t = some u ∧ i.size = (T.ty t).size ∧ i.bytes = (T.ty t).bytes ∧ T.ty t = tiOf P t := by
  rcases T.ok t with e | e
  · cases hi : P.info? t with
    | none => rw [e] at h; simp [tiOf, hi, TI.none] at h
    | some i =>
      cases hu : P.underlying t with
      | none => rw [e] at h; simp [tiOf, hi, hu, TI.none] at h
      | some u => refine ⟨i, u, rfl, rfl, ?_, ?_, e⟩ <;> rw [e] <;> simp [tiOf, hi, hu]
  · rw [e] at h; simp [TI.none] at h
theorem Tab.und (h : (T.ty t).d ≠ .other) : (T.ty t).d = tyD P t := by
  rcases T.ok t with e | e
  · cases hi : P.info? t with
    | none => rw [e] at h; simp [tiOf, hi, TI.none] at h
    | some i =>
      cases hu : P.underlying t with
      | none => rw [e] at h; simp [tiOf, hi, hu, TI.none] at h
      | some u => rw [e]; simp [tiOf, hi, hu]
  · rw [e] at h; simp [TI.none] at h
theorem Tab.int {k : IntKind} (h : (T.ty t).d = .int k) : P.underlying t = some (.int k) := by
  have := T.und (by rw [h]; simp); rw [h] at this; unfold tyD at this; split at this <;> simp_all
theorem Tab.bool (h : (T.ty t).d = .bool) : P.underlying t = some .bool := by
  have := T.und (by rw [h]; simp); rw [h] at this; unfold tyD at this; split at this <;> simp_all
theorem Tab.str (h : (T.ty t).d = .str) : P.underlying t = some .string := by
  have := T.und (by rw [h]; simp); rw [h] at this; unfold tyD at this; split at this <;> simp_all
theorem Tab.slice {e : Nat} (h : (T.ty t).d = .slice e) : P.underlying t = some (.slice e) := by
  have := T.und (by rw [h]; simp); rw [h] at this; unfold tyD at this; split at this <;> simp_all
theorem Tab.ptr {e : Nat} (h : (T.ty t).d = .ptr e) : P.underlying t = some (.pointer e) := by
  have := T.und (by rw [h]; simp); rw [h] at this; unfold tyD at this; split at this <;> simp_all
theorem Tab.array {n e : Nat} (h : (T.ty t).d = .array n e) : P.underlying t = some (.array n e) := by
  have := T.und (by rw [h]; simp); rw [h] at this; unfold tyD at this; split at this <;> simp_all
theorem Tab.struct {fs : List (Nat × Nat)} (h : (T.ty t).d = .struct fs) : ∃ gs, P.underlying t = some (.struct gs) ∧ fs = gs.toList.map fun f => (f.type, f.offset) := by
  have := T.und (by rw [h]; simp); rw [h] at this; unfold tyD at this; split at this <;> simp_all
theorem Tab.run_isAgg (h : 0 < (T.ty t).size) (w : World) : (Go.isAgg t).run P w = .ok (T.ty t).agg w := by
  obtain ⟨i, u, hi, hu, _, _, e⟩ := T.info h
  rw [e]
  simp [Go.isAgg, run_underlying hu, tiOf, hi, hu]
  cases u <;> simp
theorem Tab.run_size (h : 0 < (T.ty t).size) (w : World) : (Go.sizeOf t).run P w = .ok (T.ty t).size w := by
  obtain ⟨i, u, hi, hu, hs, _, e⟩ := T.info h
  simp [Go.sizeOf, Go.typeInfo, hi, hs]
theorem Tab.run_zero (h : (T.ty t).zero ≠ []) (w : World) : ∃ z, (Go.zeroValue t).run P w = .ok z w ∧ z.cells.size = (T.ty t).zero.length ∧ ∀ X w', VCells X w' (T.ty t).zero z.cells.toList := by
  have h0 : T.ty t = tiOf P t := by
    rcases T.ok t with e | e
    · exact e
    · rw [e] at h; simp [TI.none] at h
  rw [h0] at h ⊢
  unfold tiOf at h ⊢
  cases hi : P.info? t with
  | none => simp [hi, TI.none] at h
  | some i =>
    cases hu : P.underlying t with
    | none => simp [hi, hu, TI.none] at h
    | some u =>
      simp only [hi, hu] at h ⊢
      cases hz : i.zero with
      | none => simp [hz] at h
      | some z =>
        have hp : ∀ s ∈ (cellTys P 8 t).map (elemSz P), 0 < s := by
          intro s hs
          obtain ⟨x, _, rfl⟩ := List.mem_map.1 hs
          exact elemSz_pos P x
        refine ⟨z, by simp [Go.zeroValue, Go.typeInfo, hi, hz], ?_, fun X w' => (zeroV_cells _ _ hp).1⟩
        have := (zeroV_cells (X := fun _ => True) (w := w) _ z.cells.toList hp).2
        simpa using this.symm
end

theorem Tab.zero_info {P : Program} (T : Tab P) {t : Nat} (h : (T.ty t).zero ≠ []) : ∃ i z, P.info? t = some i ∧ i.zero = some z ∧ z.cells.size = (T.ty t).zero.length := by
  have h0 : T.ty t = tiOf P t := by
    rcases T.ok t with e | e
    · exact e
    · rw [e] at h; simp [TI.none] at h
  rw [h0] at h ⊢
  unfold tiOf at h ⊢
  cases hi : P.info? t with
  | none => simp [hi, TI.none] at h
  | some i =>
    cases hu : P.underlying t with
    | none => simp [hi, hu, TI.none] at h
    | some u =>
      simp only [hi, hu] at h ⊢
      cases hz : i.zero with
      | none => simp [hz] at h
      | some z =>
        have hp : ∀ s ∈ (cellTys P 8 t).map (elemSz P), 0 < s := by
          intro s hs
          obtain ⟨x, _, rfl⟩ := List.mem_map.1 hs
          exact elemSz_pos P x
        refine ⟨i, z, rfl, hz, ?_⟩
        have := (zeroV_cells (X := fun _ => True) (w := default) _ z.cells.toList hp).2
        simpa using this.symm

/-! #### the state -/
inductive Ob where
  | gone
  | arr (sz : Nat) (rows : List (List D))
  /-- No object: what is known of the capacity at place p. -/
  | cap (p c : Nat)
def ObOK (X : Nat → Prop) (ρ : Nat → Slot) (w : World) (p : Nat) : Ob → Prop
  | .gone => True
  | .cap q c => ρ q ≠ .hole ∧ (ρ q = .null → c = 0) ∧ ∀ b s k, ρ q = .live b s k → k = c
  | .arr sz rows => 0 < sz ∧ (∀ r ∈ rows, r.length = sz ∧ r.all D.one = true) ∧ rows.length ≤ lenMax ∧ match ρ p with
    | .live b s cap => s = sz ∧ rows.length ≤ cap ∧ cap ≤ capMax ∧ ∃ cs t fr, w.heap[b]? = some (.cells cs t fr) ∧ cs.size = cap * sz ∧ (∀ i, i ≤ cs.size → ¬ (fr.1 ≤ i ∧ i < fr.2)) ∧ DRows X ρ w rows cs.toList
    | .null => rows = []
    | _ => False
structure Mem (X : Nat → Prop) (ρ : Nat → Slot) (w : World) : Prop where
  lt : ∀ b, X b → b < w.heap.size
  live : ∀ p b sz cap, ρ p = .live b sz cap → X b
  inj : ∀ p q b sz cap sz' cap', ρ p = .live b sz cap → ρ q = .live b sz' cap' → p = q
/-- The machine's slots and memory stand for (E, H). -/
structure Real (G : Nat → Option (List V)) (X : Nat → Prop) (ρ : Nat → Slot) (w : World) (E : Nat → Option D) (H : Nat → Ob) (tmps : Array Value) : Prop where
  glob : ∀ g cs, G g = some cs → VCell X w (.iptr cs) (.pointer (some ⟨g, 0, none⟩))
  mem : Mem X ρ w
  env : ∀ t d, E t = some d → ∃ v, tmps[t]? = some v ∧ DCell X ρ w d v
  obs : ∀ p, ObOK X ρ w p (H p)
/-- What a piece of a run may do: of the objects that were there, it may write those of fp. -/
structure Step (fp : Nat → Prop) (X : Nat → Prop) (ρ : Nat → Slot) (w : World) (X' : Nat → Prop) (ρ' : Nat → Slot) (w' : World) : Prop where
  os : w'.os = w.os
  tape : w'.tape = w.tape
  output : w'.output = w.output
  size : w.heap.size ≤ w'.heap.size
  block : ∀ b, b < w.heap.size → (∀ p sz cap, fp p → ρ p ≠ .live b sz cap) → w'.heap[b]? = w.heap[b]?
  slots : Slots ρ ρ'
  same : ∀ p, ¬ fp p → ρ' p = ρ p
  xin : ∀ b, X b → X' b ∨ ∃ p sz cap, fp p ∧ ρ p = .live b sz cap
  xout : ∀ b, X' b → X b ∨ w.heap.size ≤ b
  src : ∀ p b sz cap, ρ' p = .live b sz cap → (∃ q s c, ρ q = .live b s c) ∨ w.heap.size ≤ b
  mem : Mem X' ρ' w'

section
variable {fp fp' : Nat → Prop} {X X' X'' : Nat → Prop} {ρ ρ' ρ'' : Nat → Slot} {w w' w'' : World}
theorem Step.keeps (s : Step fp X ρ w X' ρ' w') (m : Mem X ρ w) : Keeps X w X' w' :=
  ⟨fun b hb hX hX' => (s.xout b hX').elim hX (by omega), fun b hb hX => s.block b hb fun p sz cap _ e => hX (m.live p b sz cap e)⟩
theorem Step.refl (m : Mem X ρ w) : Step fp X ρ w X ρ w :=
  ⟨rfl, rfl, rfl, Nat.le_refl _, fun _ _ _ => rfl, Slots.refl _, fun _ _ => rfl, fun _ h => .inl h, fun _ h => .inl h, fun p b sz cap h => .inl ⟨p, sz, cap, h⟩, m⟩
theorem Step.drew (m : Mem X ρ w) (n : Nat) : Step fp X ρ w X ρ (w.drewN n) :=
  ⟨rfl, rfl, rfl, Nat.le_refl _, fun _ _ _ => rfl, Slots.refl _, fun _ _ => rfl, fun _ h => .inl h, fun _ h => .inl h, fun p b sz cap h => .inl ⟨p, sz, cap, h⟩, ⟨m.lt, m.live, m.inj⟩⟩
theorem Slots.trans {a b c : Nat → Slot} (h : Slots a b) (k : Slots b c) : Slots a c := fun p => by
  rcases h p with e | e | e
  · exact .inl e
  · rcases k p with f | f | f
    · exact .inl (e ▸ f)
    · exact .inr (.inl (f.trans e))
    · exact .inr (.inr f)
  · rcases k p with f | f | f
    · rw [e] at f; cases f
    · exact .inr (.inr (f.trans e))
    · exact .inr (.inr f)
/-- Two pieces, one behind the other, seen from the first's start: all objects may have been written. -/
theorem Step.trans (s : Step fp X ρ w X' ρ' w') (s' : Step fp' X' ρ' w' X'' ρ'' w'') (m : Mem X ρ w) : Step (fun _ => True) X ρ w X'' ρ'' w'' := by
  have live' : ∀ b p sz cap, ρ' p = .live b sz cap → b < w.heap.size → ∃ q s c, ρ q = .live b s c := by
    intro b p sz cap h hb
    rcases s.src p b sz cap h with h | h
    · exact h
    · omega
  refine ⟨s'.os.trans s.os, s'.tape.trans s.tape, s'.output.trans s.output, Nat.le_trans s.size s'.size, ?_, s.slots.trans s'.slots, fun p h => absurd trivial h, ?_, ?_, ?_, s'.mem⟩
  · intro b hb hn
    rw [s'.block b (Nat.lt_of_lt_of_le hb s.size) ?_, s.block b hb (fun p sz cap _ => hn p sz cap trivial)]
    intro p sz cap _ e
    obtain ⟨q, s1, c, hq⟩ := live' b p sz cap e hb
    exact hn q s1 c trivial hq
  · intro b hX
    rcases s.xin b hX with h | ⟨p, sz, cap, _, h⟩
    · rcases s'.xin b h with h' | ⟨p, sz, cap, _, h'⟩
      · exact .inl h'
      · obtain ⟨q, s1, c, hq⟩ := live' b p sz cap h' (m.lt b hX)
        exact .inr ⟨q, s1, c, trivial, hq⟩
    · exact .inr ⟨p, sz, cap, trivial, h⟩
  · intro b hX
    rcases s'.xout b hX with h | h
    · exact s.xout b h
    · exact .inr (Nat.le_trans s.size h)
  · intro p b sz cap h
    rcases s'.src p b sz cap h with ⟨q, s1, c, hq⟩ | h
    · exact s.src q b s1 c hq
    · exact .inr (Nat.le_trans s.size h)
/-- An object that a step does not name is as it was. -/
theorem ObOK.keep (s : Step fp X ρ w X' ρ' w') (m : Mem X ρ w) {p : Nat} {x : Ob} (hp : ¬ fp p) (h : ObOK X ρ w p x) : ObOK X' ρ' w' p x := by
  cases x with
  | gone => trivial
  | cap q c =>
    obtain ⟨h1, h2, h3⟩ := h
    refine ⟨fun e => ?_, fun e => ?_, fun b s' k e => ?_⟩
    · rcases s.slots q with g | g | g
      · exact h1 g
      · rw [g] at e; exact h1 e
      · rw [g] at e; cases e
    · rcases s.slots q with g | g | g
      · exact absurd g h1
      · rw [g] at e; exact h2 e
      · rw [g] at e; cases e
    · rcases s.slots q with g | g | g
      · exact absurd g h1
      · rw [g] at e; exact h3 b s' k e
      · rw [g] at e; cases e
  | arr sz rows =>
    unfold ObOK at h ⊢
    obtain ⟨h0, h1, hm, h2⟩ := h
    refine ⟨h0, h1, hm, ?_⟩
    rw [s.same p hp]
    cases hq : ρ p with
    | live b z cap =>
      simp only [hq] at h2 ⊢
      obtain ⟨e1, e2, e3, cs, t, fr, hh, hs, hf, hr⟩ := h2
      refine ⟨e1, e2, e3, cs, t, fr, ?_, hs, hf, DRows.keep (s.keeps m) s.slots _ _ hr⟩
      rw [s.block b (heap_lt hh) ?_]
      · exact hh
      · intro q z' c' hq' e
        exact hp (m.inj q p b z' c' z cap e hq ▸ hq')
    | null => simpa only [hq] using h2
    | hole => simp only [hq] at h2
    | dead => simp only [hq] at h2
def upd (H : Nat → Ob) (ups : List (Nat × Ob)) (p : Nat) : Ob := match ups.lookup p with | some x => x | none => H p
def updE (E : Nat → Option D) (dst : Option Nat) (d : D) (t : Nat) : Option D := if dst = some t then some d else E t
theorem Real.step {G : Nat → Option (List V)} {E : Nat → Option D} {H H' : Nat → Ob} {a : Act} (r : Real G X ρ w E H a.tmps) (s : Step fp X ρ w X' ρ' w') (dst : Option Nat) {d : D} {v : Value} (hd : DCell X' ρ' w' d v)
    (hlt : ∀ t, dst = some t → t < a.tmps.size) (hH : ∀ p, (fp p → ObOK X' ρ' w' p (H' p)) ∧ (¬ fp p → H' p = H p)) :
    Real G X' ρ' w' (updE E dst d) H' (a.put dst v).tmps := by
  refine ⟨fun g cs h => VCell.keep (s.keeps r.mem) _ _ (r.glob g cs h), s.mem, fun t e he => ?_, fun p => ?_⟩
  · unfold updE at he
    by_cases ht : dst = some t
    · rw [if_pos ht] at he
      injection he with he; subst he; subst ht
      refine ⟨v, ?_, hd⟩
      simp [Act.put, hlt t rfl]
    · rw [if_neg ht] at he
      obtain ⟨u, hu, hc⟩ := r.env t e he
      refine ⟨u, ?_, DCell.keep (s.keeps r.mem) s.slots _ _ hc⟩
      cases dst with
      | none => exact hu
      | some k =>
        have : k ≠ t := fun h => ht (by rw [h])
        simp [Act.put, Array.getElem?_setIfInBounds_ne this, hu]
  · by_cases hp : fp p
    · exact (hH p).1 hp
    · rw [(hH p).2 hp]; exact (r.obs p).keep s r.mem hp
end
end Go.DL
