/- Merged: Dl0, Dl1, Dl2, Dl3, Dl4, Dl5, Dl6, Dl7, Dl8. Own work; no condition. -/
import Derived.Orders
import Derived.Below
import Derived.Tactics
import Derived.KernelRfl
import Derived.Laws.Tables
import Derived.Laws.CopyRow
import Derived.Laws.Cells
import Derived.Deep.Draws
import Derived.Laws.StructEq
import Derived.Laws.Panics
import Derived.Deep.AppendSrc
/- DL, part 0: abstract values and what it means that a value of the machine stands for one. Own work; no condition. -/
set_option linter.unusedVariables false
set_option linter.unusedSimpArgs false
namespace Go.DL
open Go.RowKit

/-- Closed data: what no later step changes. -/
inductive V where
  | int (k : IntKind) (n : Int)
  | bool (b : Bool)
  | str (s : ByteArray)
  | raw (u : Value)
  | sl (sz : Nat) (z : Bool) (xs : List (List V))
  | agg (cs : List V)
  | tup (cs : List V)
  | iptr (cs : List V)
  | fn (f : FuncId) (cs : List V)

/-- What a slot holds: closed data, or a reference to one of the call's own objects. -/
inductive D where
  | any
  | v (x : V)
  | arr (p o n : Nat)
  | ptr (p i j : Nat)
  | agg (ds : List D)
  | tup (ds : List D)
  | fn (f : FuncId) (ds : List D)

/-- Where an object lies. -/
inductive Slot where
  | hole
  | dead
  | null
  | live (b sz cap : Nat)

def capMax : Nat := 9223372036854775807
def lenMax : Nat := 140737488355328

def V.one : V → Bool
  | .agg _ | .tup _ => false
  | .raw u => u.oneCell'
  | _ => true
def D.one : D → Bool
  | .v x => x.one
  | .arr .. | .ptr .. | .fn .. => true
  | _ => false

mutual
def VCell (X : Nat → Prop) (w : World) : V → Value → Prop
  | .int k n, v => v = .int k n
  | .bool b, v => v = .bool b
  | .str s, v => v = .string s
  | .raw u, v => v = u
  | .sl sz z xs, v => 0 < sz ∧ (∀ r ∈ xs, r.length = sz ∧ r.all V.one = true) ∧ xs.length ≤ lenMax ∧ (z = true → ∃ A, v = .slice A 0 0) ∧
      ∃ A c, v = .slice A xs.length c ∧ xs.length ≤ c ∧ c ≤ capMax ∧
        (xs ≠ [] → ∃ b o cs t fr, A = some ⟨b, o, none⟩ ∧ ¬ X b ∧ w.heap[b]? = some (.cells cs t fr) ∧ VRows X w xs (cs.toList.drop o))
  | .agg cs, v => ∃ vs : List Value, v = .agg vs.toArray ∧ vs.length = cs.length ∧ VCells X w cs vs
  | .tup cs, v => ∃ vs : List Value, v = .tuple vs.toArray ∧ vs.length = cs.length ∧ VCells X w cs vs
  | .iptr cs, v => ∃ b o arr t fr, v = .pointer (some ⟨b, o, none⟩) ∧ ¬ X b ∧ w.heap[b]? = some (.cells arr t fr) ∧ VCells X w cs (arr.toList.drop o)
  | .fn f cs, v => ∃ vs : List Value, v = .func (.func f) #[] vs.toArray ∧ vs.length = cs.length ∧ VCells X w cs vs
def VCells (X : Nat → Prop) (w : World) : List V → List Value → Prop
  | [], _ => True
  | _ :: _, [] => False
  | d :: ds, v :: vs => VCell X w d v ∧ VCells X w ds vs
def VRows (X : Nat → Prop) (w : World) : List (List V) → List Value → Prop
  | [], _ => True
  | r :: rs, vs => VCells X w r vs ∧ VRows X w rs (vs.drop r.length)
end

mutual
def DCell (X : Nat → Prop) (ρ : Nat → Slot) (w : World) : D → Value → Prop
  | .any, _ => True
  | .v x, v => VCell X w x v
  | .arr p o n, v => match ρ p with
    | .hole => False
    | .dead => v.oneCell' = true
    | .null => (∃ A, v = .slice A 0 0) ∧ o = 0 ∧ n = 0
    | .live b sz cap => o + n ≤ cap ∧ (o < cap → v = .slice (some ⟨b, o * sz, none⟩) n (cap - o)) ∧ (o = cap → ∃ A, v = .slice (some A) 0 0)
  | .ptr p i j, v => match ρ p with
    | .hole => False
    | .dead => v.oneCell' = true
    | .null => False
    | .live b sz _ => v = .pointer (some ⟨b, i * sz + j, none⟩)
  | .agg ds, v => ∃ vs : List Value, v = .agg vs.toArray ∧ vs.length = ds.length ∧ DCells X ρ w ds vs
  | .tup ds, v => ∃ vs : List Value, v = .tuple vs.toArray ∧ vs.length = ds.length ∧ DCells X ρ w ds vs
  | .fn f ds, v => ∃ vs : List Value, v = .func (.func f) #[] vs.toArray ∧ vs.length = ds.length ∧ DCells X ρ w ds vs
def DCells (X : Nat → Prop) (ρ : Nat → Slot) (w : World) : List D → List Value → Prop
  | [], _ => True
  | _ :: _, [] => False
  | d :: ds, v :: vs => DCell X ρ w d v ∧ DCells X ρ w ds vs
end
def DRows (X : Nat → Prop) (ρ : Nat → Slot) (w : World) : List (List D) → List Value → Prop
  | [], _ => True
  | r :: rs, vs => DCells X ρ w r vs ∧ DRows X ρ w rs (vs.drop r.length)

/-- From (X, w) to (X', w'): what closed data may lie in is as it was. -/
structure Keeps (X : Nat → Prop) (w : World) (X' : Nat → Prop) (w' : World) : Prop where
  out : ∀ b, b < w.heap.size → ¬ X b → ¬ X' b
  block : ∀ b, b < w.heap.size → ¬ X b → w'.heap[b]? = w.heap[b]?

theorem heap_lt {w : World} {b : Nat} {o : Obj} (h : w.heap[b]? = some o) : b < w.heap.size := by
  rcases Nat.lt_or_ge b w.heap.size with h' | h'
  · exact h'
  · rw [Array.getElem?_eq_none h'] at h; cases h

mutual
theorem VCell.keep {X X' : Nat → Prop} {w w' : World} (k : Keeps X w X' w') : ∀ (x : V) (v : Value), VCell X w x v → VCell X' w' x v
  | .int _ _, v, h => h
  | .bool _, v, h => h
  | .str _, v, h => h
  | .raw _, v, h => h
  | .sl sz z xs, v, h => by
    obtain ⟨h0, hr, hm, hz, A, c, hv, hl, hc, hx⟩ := h
    refine ⟨h0, hr, hm, hz, A, c, hv, hl, hc, fun hne => ?_⟩
    obtain ⟨b, o, cs, t, fr, hA, hX, hh, hR⟩ := hx hne
    exact ⟨b, o, cs, t, fr, hA, k.out b (heap_lt hh) hX, (k.block b (heap_lt hh) hX).trans hh, VRows.keep k xs _ hR⟩
  | .agg cs, v, h => by
    obtain ⟨vs, hv, hl, hc⟩ := h
    exact ⟨vs, hv, hl, VCells.keep k cs _ hc⟩
  | .tup cs, v, h => by
    obtain ⟨vs, hv, hl, hc⟩ := h
    exact ⟨vs, hv, hl, VCells.keep k cs _ hc⟩
  | .iptr cs, v, h => by
    obtain ⟨b, o, arr, t, fr, hA, hX, hh, hR⟩ := h
    exact ⟨b, o, arr, t, fr, hA, k.out b (heap_lt hh) hX, (k.block b (heap_lt hh) hX).trans hh, VCells.keep k cs _ hR⟩
  | .fn f cs, v, h => by
    obtain ⟨vs, hv, hl, hc⟩ := h
    exact ⟨vs, hv, hl, VCells.keep k cs _ hc⟩
theorem VCells.keep {X X' : Nat → Prop} {w w' : World} (k : Keeps X w X' w') : ∀ (xs : List V) (vs : List Value), VCells X w xs vs → VCells X' w' xs vs
  | [], _, _ => trivial
  | _ :: _, [], h => h
  | d :: ds, v :: vs, h => ⟨VCell.keep k d v h.1, VCells.keep k ds vs h.2⟩
theorem VRows.keep {X X' : Nat → Prop} {w w' : World} (k : Keeps X w X' w') : ∀ (xs : List (List V)) (vs : List Value), VRows X w xs vs → VRows X' w' xs vs
  | [], _, _ => trivial
  | r :: rs, vs, h => ⟨VCells.keep k r vs h.1, VRows.keep k rs _ h.2⟩
end

/-- How the places of the objects may change under what is kept. -/
def Slots (ρ ρ' : Nat → Slot) : Prop := ∀ p, ρ p = .hole ∨ ρ' p = ρ p ∨ ρ' p = .dead

theorem DCell.arr_one {X : Nat → Prop} {ρ : Nat → Slot} {w : World} {p o n : Nat} {v : Value} (h : DCell X ρ w (.arr p o n) v) : v.oneCell' = true := by
  unfold DCell at h
  split at h
  · exact h.elim
  · exact h
  · obtain ⟨A, hA⟩ := h.1; rw [hA]; rfl
  · obtain ⟨h1, h2, h3⟩ := h
    rename_i b sz cap _
    by_cases hc : o < cap
    · rw [h2 hc]; rfl
    · obtain ⟨A, hA⟩ := h3 (by omega)
      rw [hA]; rfl
theorem DCell.ptr_one {X : Nat → Prop} {ρ : Nat → Slot} {w : World} {p i j : Nat} {v : Value} (h : DCell X ρ w (.ptr p i j) v) : v.oneCell' = true := by
  unfold DCell at h
  split at h
  · exact h.elim
  · exact h
  · exact h.elim
  · rw [h]; rfl
mutual
theorem DCell.keep {X X' : Nat → Prop} {ρ ρ' : Nat → Slot} {w w' : World} (k : Keeps X w X' w') (s : Slots ρ ρ') : ∀ (x : D) (v : Value), DCell X ρ w x v → DCell X' ρ' w' x v
  | .any, v, h => trivial
  | .v x, v, h => VCell.keep k x v h
  | .arr p o n, v, h => by
    have h1 := DCell.arr_one h
    unfold DCell at h ⊢
    rcases s p with e | e | e
    · rw [e] at h; exact h.elim
    · rw [e]; exact h
    · rw [e]; exact h1
  | .ptr p i j, v, h => by
    have h1 := DCell.ptr_one h
    unfold DCell at h ⊢
    rcases s p with e | e | e
    · rw [e] at h; exact h.elim
    · rw [e]; exact h
    · rw [e]; exact h1
  | .agg cs, v, h => by
    obtain ⟨vs, hv, hl, hc⟩ := h
    exact ⟨vs, hv, hl, DCells.keep k s cs _ hc⟩
  | .tup cs, v, h => by
    obtain ⟨vs, hv, hl, hc⟩ := h
    exact ⟨vs, hv, hl, DCells.keep k s cs _ hc⟩
  | .fn f cs, v, h => by
    obtain ⟨vs, hv, hl, hc⟩ := h
    exact ⟨vs, hv, hl, DCells.keep k s cs _ hc⟩
theorem DCells.keep {X X' : Nat → Prop} {ρ ρ' : Nat → Slot} {w w' : World} (k : Keeps X w X' w') (s : Slots ρ ρ') : ∀ (xs : List D) (vs : List Value), DCells X ρ w xs vs → DCells X' ρ' w' xs vs
  | [], _, _ => trivial
  | _ :: _, [], h => h
  | d :: ds, v :: vs, h => ⟨DCell.keep k s d v h.1, DCells.keep k s ds vs h.2⟩
end
theorem DRows.keep {X X' : Nat → Prop} {ρ ρ' : Nat → Slot} {w w' : World} (k : Keeps X w X' w') (s : Slots ρ ρ') : ∀ (xs : List (List D)) (vs : List Value), DRows X ρ w xs vs → DRows X' ρ' w' xs vs
  | [], _, _ => trivial
  | r :: rs, vs, h => ⟨DCells.keep k s r vs h.1, DRows.keep k s rs _ h.2⟩

theorem Slots.refl (ρ : Nat → Slot) : Slots ρ ρ := fun _ => .inr (.inl rfl)

/-! lists of cells -/
section
variable {X : Nat → Prop} {ρ : Nat → Slot} {w : World}
theorem DCells.get : ∀ {ds : List D} {vs : List Value}, DCells X ρ w ds vs → ∀ {i : Nat} {d : D}, ds[i]? = some d → ∃ v, vs[i]? = some v ∧ DCell X ρ w d v
  | [], _, _, i, d, hi => by simp at hi
  | _ :: _, [], h, i, d, hi => h.elim
  | e :: ds, v :: vs, h, 0, d, hi => by simp at hi; subst hi; exact ⟨v, rfl, h.1⟩
  | e :: ds, v :: vs, h, i + 1, d, hi => by simp at hi ⊢; exact DCells.get h.2 hi
theorem DCells.drop : ∀ {ds : List D} {vs : List Value} (n : Nat), DCells X ρ w ds vs → DCells X ρ w (ds.drop n) (vs.drop n)
  | ds, vs, 0, h => h
  | [], _, n + 1, h => by simp [DCells]
  | _ :: _, [], n + 1, h => h.elim
  | e :: ds, v :: vs, n + 1, h => by simpa using DCells.drop n h.2
theorem DCells.take : ∀ {ds : List D} {vs : List Value} (n : Nat), DCells X ρ w ds vs → DCells X ρ w (ds.take n) (vs.take n)
  | ds, vs, 0, h => by simp [DCells]
  | [], _, n + 1, h => by simp [DCells]
  | _ :: _, [], n + 1, h => h.elim
  | e :: ds, v :: vs, n + 1, h => ⟨h.1, DCells.take n h.2⟩
theorem DCells.len : ∀ {ds : List D} {vs : List Value}, DCells X ρ w ds vs → ds.length ≤ vs.length
  | [], _, _ => by simp
  | _ :: _, [], h => h.elim
  | e :: ds, v :: vs, h => by simpa using DCells.len h.2
theorem DCells.append : ∀ {ds es : List D} {vs : List Value}, DCells X ρ w ds vs → DCells X ρ w es (vs.drop ds.length) → DCells X ρ w (ds ++ es) vs
  | [], _, _, _, k => by simpa using k
  | _ :: _, _, [], h, _ => h.elim
  | e :: ds, es, v :: vs, h, k => ⟨h.1, DCells.append h.2 (by simpa using k)⟩
theorem DCells.more : ∀ {ds : List D} {vs us : List Value}, DCells X ρ w ds vs → DCells X ρ w ds (vs ++ us)
  | [], _, _, _ => trivial
  | _ :: _, [], _, h => h.elim
  | e :: ds, v :: vs, us, h => ⟨h.1, DCells.more h.2⟩
theorem VCells.get : ∀ {ds : List V} {vs : List Value}, VCells X w ds vs → ∀ {i : Nat} {d : V}, ds[i]? = some d → ∃ v, vs[i]? = some v ∧ VCell X w d v
  | [], _, _, i, d, hi => by simp at hi
  | _ :: _, [], h, i, d, hi => h.elim
  | e :: ds, v :: vs, h, 0, d, hi => by simp at hi; subst hi; exact ⟨v, rfl, h.1⟩
  | e :: ds, v :: vs, h, i + 1, d, hi => by simp at hi ⊢; exact VCells.get h.2 hi
theorem VCells.drop : ∀ {ds : List V} {vs : List Value} (n : Nat), VCells X w ds vs → VCells X w (ds.drop n) (vs.drop n)
  | ds, vs, 0, h => h
  | [], _, n + 1, h => by simp [VCells]
  | _ :: _, [], n + 1, h => h.elim
  | e :: ds, v :: vs, n + 1, h => by simpa using VCells.drop n h.2
theorem VCells.take : ∀ {ds : List V} {vs : List Value} (n : Nat), VCells X w ds vs → VCells X w (ds.take n) (vs.take n)
  | ds, vs, 0, h => by simp [VCells]
  | [], _, n + 1, h => by simp [VCells]
  | _ :: _, [], n + 1, h => h.elim
  | e :: ds, v :: vs, n + 1, h => ⟨h.1, VCells.take n h.2⟩
theorem VCells.len : ∀ {ds : List V} {vs : List Value}, VCells X w ds vs → ds.length ≤ vs.length
  | [], _, _ => by simp
  | _ :: _, [], h => h.elim
  | e :: ds, v :: vs, h => by simpa using VCells.len h.2
theorem VRows.get {sz : Nat} : ∀ {xs : List (List V)} {vs : List Value}, (∀ r ∈ xs, r.length = sz) → VRows X w xs vs → ∀ {i : Nat} {r : List V}, xs[i]? = some r → VCells X w r (vs.drop (i * sz))
  | [], _, _, _, i, d, hi => by simp at hi
  | e :: xs, vs, hs, h, 0, r, hi => by simp at hi; subst hi; simpa using h.1
  | e :: xs, vs, hs, h, i + 1, r, hi => by
    have := VRows.get (sz := sz) (fun r hr => hs r (List.mem_cons_of_mem _ hr)) h.2 (i := i) (r := r) (by simpa using hi)
    rw [hs e List.mem_cons_self, List.drop_drop] at this
    rwa [Nat.add_mul, Nat.one_mul, Nat.add_comm]
theorem DRows.get {sz : Nat} : ∀ {xs : List (List D)} {vs : List Value}, (∀ r ∈ xs, r.length = sz) → DRows X ρ w xs vs → ∀ {i : Nat} {r : List D}, xs[i]? = some r → DCells X ρ w r (vs.drop (i * sz))
  | [], _, _, _, i, d, hi => by simp at hi
  | e :: xs, vs, hs, h, 0, r, hi => by simp at hi; subst hi; simpa using h.1
  | e :: xs, vs, hs, h, i + 1, r, hi => by
    have := DRows.get (sz := sz) (fun r hr => hs r (List.mem_cons_of_mem _ hr)) h.2 (i := i) (r := r) (by simpa using hi)
    rw [hs e List.mem_cons_self, List.drop_drop] at this
    rwa [Nat.add_mul, Nat.one_mul, Nat.add_comm]
end

theorem VCell.one {X : Nat → Prop} {w : World} {x : V} {v : Value} (h1 : x.one = true) (h : VCell X w x v) : v.oneCell' = true := by
  cases x <;> simp [V.one] at h1 <;> unfold VCell at h
  · subst h; rfl
  · subst h; rfl
  · subst h; rfl
  · subst h; exact h1
  · obtain ⟨_, _, _, _, A, c, rfl, _⟩ := h; rfl
  · obtain ⟨b, o, _, _, _, rfl, _⟩ := h; rfl
  · obtain ⟨vs, rfl, _⟩ := h; rfl
theorem DCell.one {X : Nat → Prop} {ρ : Nat → Slot} {w : World} {x : D} {v : Value} (h1 : x.one = true) (h : DCell X ρ w x v) : v.oneCell' = true := by
  cases x with
  | any => simp [D.one] at h1
  | v x => exact VCell.one h1 h
  | arr p o n => exact DCell.arr_one h
  | ptr p i j => exact DCell.ptr_one h
  | agg ds => simp [D.one] at h1
  | tup ds => simp [D.one] at h1
  | fn f ds => obtain ⟨vs, rfl, _⟩ := h; rfl
theorem DCells.one {X : Nat → Prop} {ρ : Nat → Slot} {w : World} : ∀ {ds : List D} {vs : List Value}, ds.all (·.one) = true → ds.length = vs.length → DCells X ρ w ds vs → ∀ v ∈ vs, v.oneCell' = true
  | [], [], _, _, _, v, hv => by cases hv
  | [], _ :: _, _, hl, _, v, hv => by simp at hl
  | _ :: _, [], _, _, h, _, _ => h.elim
  | d :: ds, u :: vs, h1, hl, h, v, hv => by
    simp at h1 hl
    rcases List.mem_cons.1 hv with rfl | hv
    · exact DCell.one h1.1 h.1
    · exact DCells.one (by simpa using h1.2) hl h.2 v hv
end Go.DL

/- DL, part 1: types as tables, the state, and what one operation does to it. Own work; no condition. -/
set_option linter.unusedVariables false
set_option linter.unusedSimpArgs false
namespace Go.DL
open Go.RowKit

/-! #### types -/
inductive Ty where
  | bool | int (k : IntKind) | str | ptr (e : Nat) | slice (e : Nat) | array (n e : Nat) | struct (fs : List (Nat × Nat)) | func | tuple | iface | other
structure TI where
  d : Ty
  agg : Bool
  size : Nat
  bytes : Nat
  zero : List V
  eqok : Bool
def TI.none : TI := ⟨.other, false, 0, 0, [], false⟩
def tyD (P : Program) (t : Nat) : Ty :=
  match P.underlying t with
  | some .bool => .bool | some (.int k) => .int k | some .string => .str | some (.pointer e) => .ptr e | some (.slice e) => .slice e
  | some (.array n e) => .array n e | some (.struct fs) => .struct (fs.toList.map fun f => (f.type, f.offset))
  | some (.func ..) => .func | some (.tuple ..) => .tuple | some (.interface ..) => .iface | _ => .other
def cellTys (P : Program) : Nat → Nat → List Nat
  | 0, _ => []
  | d + 1, t => match P.underlying t with
    | some (.struct fs) => fs.toList.flatMap fun f => cellTys P d f.type
    | some (.array n e) => (List.replicate n ()).flatMap fun _ => cellTys P d e
    | _ => [t]
/-- How many cells an element of a slice type has (1 where it is none). -/
def elemSz (P : Program) (t : Nat) : Nat := match P.underlying t with | some (.slice e) => max (P.cellsOf e) 1 | _ => 1
def vOf (sz : Nat) : Value → V
  | .int k n => .int k n
  | .bool b => .bool b
  | .string s => .str s
  | .slice none 0 0 => .sl sz true []
  | v => .raw v
def zeroV : List Nat → List Value → List V
  | s :: ss, v :: vs => vOf s v :: zeroV ss vs
  | [], v :: vs => vOf 1 v :: zeroV [] vs
  | _, [] => []
def tiOf (P : Program) (t : Nat) : TI :=
  match P.info? t, P.underlying t with
  | some i, some u => ⟨tyD P t, (match u with | .struct _ | .array _ _ => true | _ => false), i.size, i.bytes,
      (match i.zero with | some z => zeroV ((cellTys P 8 t).map (elemSz P)) z.cells.toList | none => []),
      !P.stoodInHeld t && !P.eqGuardType P.depth t && (match u with | .struct fs => fs.all fun f => f.name != "_" | _ => true)⟩
  | _, _ => TI.none
/-- A table of types that is right for a program. -/
structure Tab (P : Program) where
  ty : Nat → TI
  ok : ∀ t, ty t = tiOf P t ∨ ty t = TI.none
  mixed : P.follows .mixedOrders = true
  glob : Nat → Option (List V)

theorem vOf_cell {X : Nat → Prop} {w : World} {s : Nat} (h : 0 < s) (v : Value) : VCell X w (vOf s v) v := by
  unfold vOf
  split <;> try (unfold VCell; rfl)
  unfold VCell
  exact ⟨h, by simp, by simp, fun _ => ⟨none, rfl⟩, none, 0, rfl, by simp, by simp, fun h => absurd rfl h⟩
theorem zeroV_cells {X : Nat → Prop} {w : World} : ∀ (ss : List Nat) (vs : List Value), (∀ s ∈ ss, 0 < s) → VCells X w (zeroV ss vs) vs ∧ (zeroV ss vs).length = vs.length
  | s :: ss, v :: vs, h => by
    have := zeroV_cells (X := X) (w := w) ss vs (fun x hx => h x (List.mem_cons_of_mem _ hx))
    exact ⟨⟨vOf_cell (h s List.mem_cons_self) v, this.1⟩, by simp [zeroV, this.2]⟩
  | [], v :: vs, h => by
    have := zeroV_cells (X := X) (w := w) [] vs h
    exact ⟨⟨vOf_cell (by decide) v, this.1⟩, by simp [zeroV, this.2]⟩
  | [], [], _ => ⟨trivial, rfl⟩
  | _ :: _, [], _ => ⟨trivial, rfl⟩
theorem elemSz_pos (P : Program) (t : Nat) : 0 < elemSz P t := by
  unfold elemSz; split <;> omega

section
variable {P : Program} (T : Tab P) {t : Nat}
theorem Tab.info (h : 0 < (T.ty t).size) : ∃ i u, P.info? t = some i ∧ P.underlying t = some u ∧ i.size = (T.ty t).size ∧ i.bytes = (T.ty t).bytes ∧ T.ty t = tiOf P t := by
  rcases T.ok t with e | e
  · cases hi : P.info? t with
    | none => rw [e] at h; simp [tiOf, hi, TI.none] at h
    | some i =>
      cases hu : P.underlying t with
      | none => rw [e] at h; simp [tiOf, hi, hu, TI.none] at h
      | some u => refine ⟨i, u, rfl, rfl, ?_, ?_, e⟩ <;> rw [e] <;> simp [tiOf, hi, hu]
  · rw [e] at h; simp [TI.none] at h
theorem Tab.und (h : (T.ty t).d ≠ .other) : (T.ty t).d = tyD P t := by
  rcases T.ok t with e | e
  · cases hi : P.info? t with
    | none => rw [e] at h; simp [tiOf, hi, TI.none] at h
    | some i =>
      cases hu : P.underlying t with
      | none => rw [e] at h; simp [tiOf, hi, hu, TI.none] at h
      | some u => rw [e]; simp [tiOf, hi, hu]
  · rw [e] at h; simp [TI.none] at h
theorem Tab.int {k : IntKind} (h : (T.ty t).d = .int k) : P.underlying t = some (.int k) := by
  have := T.und (by rw [h]; simp); rw [h] at this; unfold tyD at this; split at this <;> simp_all
theorem Tab.bool (h : (T.ty t).d = .bool) : P.underlying t = some .bool := by
  have := T.und (by rw [h]; simp); rw [h] at this; unfold tyD at this; split at this <;> simp_all
theorem Tab.str (h : (T.ty t).d = .str) : P.underlying t = some .string := by
  have := T.und (by rw [h]; simp); rw [h] at this; unfold tyD at this; split at this <;> simp_all
theorem Tab.slice {e : Nat} (h : (T.ty t).d = .slice e) : P.underlying t = some (.slice e) := by
  have := T.und (by rw [h]; simp); rw [h] at this; unfold tyD at this; split at this <;> simp_all
theorem Tab.ptr {e : Nat} (h : (T.ty t).d = .ptr e) : P.underlying t = some (.pointer e) := by
  have := T.und (by rw [h]; simp); rw [h] at this; unfold tyD at this; split at this <;> simp_all
theorem Tab.array {n e : Nat} (h : (T.ty t).d = .array n e) : P.underlying t = some (.array n e) := by
  have := T.und (by rw [h]; simp); rw [h] at this; unfold tyD at this; split at this <;> simp_all
theorem Tab.struct {fs : List (Nat × Nat)} (h : (T.ty t).d = .struct fs) : ∃ gs, P.underlying t = some (.struct gs) ∧ fs = gs.toList.map fun f => (f.type, f.offset) := by
  have := T.und (by rw [h]; simp); rw [h] at this; unfold tyD at this; split at this <;> simp_all
theorem Tab.run_isAgg (h : 0 < (T.ty t).size) (w : World) : (Go.isAgg t).run P w = .ok (T.ty t).agg w := by
  obtain ⟨i, u, hi, hu, _, _, e⟩ := T.info h
  rw [e]
  simp [Go.isAgg, run_underlying hu, tiOf, hi, hu]
  cases u <;> simp
theorem Tab.run_size (h : 0 < (T.ty t).size) (w : World) : (Go.sizeOf t).run P w = .ok (T.ty t).size w := by
  obtain ⟨i, u, hi, hu, hs, _, e⟩ := T.info h
  simp [Go.sizeOf, Go.typeInfo, hi, hs]
theorem Tab.run_zero (h : (T.ty t).zero ≠ []) (w : World) : ∃ z, (Go.zeroValue t).run P w = .ok z w ∧ z.cells.size = (T.ty t).zero.length ∧ ∀ X w', VCells X w' (T.ty t).zero z.cells.toList := by
  have h0 : T.ty t = tiOf P t := by
    rcases T.ok t with e | e
    · exact e
    · rw [e] at h; simp [TI.none] at h
  rw [h0] at h ⊢
  unfold tiOf at h ⊢
  cases hi : P.info? t with
  | none => simp [hi, TI.none] at h
  | some i =>
    cases hu : P.underlying t with
    | none => simp [hi, hu, TI.none] at h
    | some u =>
      simp only [hi, hu] at h ⊢
      cases hz : i.zero with
      | none => simp [hz] at h
      | some z =>
        have hp : ∀ s ∈ (cellTys P 8 t).map (elemSz P), 0 < s := by
          intro s hs
          obtain ⟨x, _, rfl⟩ := List.mem_map.1 hs
          exact elemSz_pos P x
        refine ⟨z, by simp [Go.zeroValue, Go.typeInfo, hi, hz], ?_, fun X w' => (zeroV_cells _ _ hp).1⟩
        have := (zeroV_cells (X := fun _ => True) (w := w) _ z.cells.toList hp).2
        simpa using this.symm
end

theorem Tab.zero_info {P : Program} (T : Tab P) {t : Nat} (h : (T.ty t).zero ≠ []) : ∃ i z, P.info? t = some i ∧ i.zero = some z ∧ z.cells.size = (T.ty t).zero.length := by
  have h0 : T.ty t = tiOf P t := by
    rcases T.ok t with e | e
    · exact e
    · rw [e] at h; simp [TI.none] at h
  rw [h0] at h ⊢
  unfold tiOf at h ⊢
  cases hi : P.info? t with
  | none => simp [hi, TI.none] at h
  | some i =>
    cases hu : P.underlying t with
    | none => simp [hi, hu, TI.none] at h
    | some u =>
      simp only [hi, hu] at h ⊢
      cases hz : i.zero with
      | none => simp [hz] at h
      | some z =>
        have hp : ∀ s ∈ (cellTys P 8 t).map (elemSz P), 0 < s := by
          intro s hs
          obtain ⟨x, _, rfl⟩ := List.mem_map.1 hs
          exact elemSz_pos P x
        refine ⟨i, z, rfl, hz, ?_⟩
        have := (zeroV_cells (X := fun _ => True) (w := default) _ z.cells.toList hp).2
        simpa using this.symm

/-! #### the state -/
inductive Ob where
  | gone
  | arr (sz : Nat) (rows : List (List D))
  /-- No object: what is known of the capacity at place p. -/
  | cap (p c : Nat)
  /-- A walk over a text, at a place. -/
  | iter (s : ByteArray) (pos : Nat)
def ObOK (X : Nat → Prop) (ρ : Nat → Slot) (w : World) (p : Nat) : Ob → Prop
  | .gone => True
  | .cap q c => ρ q ≠ .hole ∧ (ρ q = .null → c = 0) ∧ ∀ b s k, ρ q = .live b s k → k = c
  | .iter s n => ∃ b z k, ρ p = .live b z k ∧ w.heap[b]? = some (.stringIter s n)
  | .arr sz rows => 0 < sz ∧ (∀ r ∈ rows, r.length = sz ∧ r.all D.one = true) ∧ rows.length ≤ lenMax ∧ match ρ p with
    | .live b s cap => s = sz ∧ rows.length ≤ cap ∧ cap ≤ capMax ∧ ∃ cs t fr, w.heap[b]? = some (.cells cs t fr) ∧ cs.size = cap * sz ∧ (∀ i, i ≤ cs.size → ¬ (fr.1 ≤ i ∧ i < fr.2)) ∧ DRows X ρ w rows cs.toList
    | .null => rows = []
    | _ => False
structure Mem (X : Nat → Prop) (ρ : Nat → Slot) (w : World) : Prop where
  lt : ∀ b, X b → b < w.heap.size
  live : ∀ p b sz cap, ρ p = .live b sz cap → X b
  inj : ∀ p q b sz cap sz' cap', ρ p = .live b sz cap → ρ q = .live b sz' cap' → p = q
/-- The machine's slots and memory stand for (E, H). -/
structure Real (G : Nat → Option (List V)) (X : Nat → Prop) (ρ : Nat → Slot) (w : World) (E : Nat → Option D) (H : Nat → Ob) (tmps : Array Value) : Prop where
  glob : ∀ g cs, G g = some cs → VCell X w (.iptr cs) (.pointer (some ⟨g, 0, none⟩))
  mem : Mem X ρ w
  env : ∀ t d, E t = some d → ∃ v, tmps[t]? = some v ∧ DCell X ρ w d v
  obs : ∀ p, ObOK X ρ w p (H p)
/-- What a piece of a run may do: of the objects that were there, it may write those of fp. -/
structure Step (fp : Nat → Prop) (X : Nat → Prop) (ρ : Nat → Slot) (w : World) (X' : Nat → Prop) (ρ' : Nat → Slot) (w' : World) : Prop where
  os : w'.os = w.os
  tape : w'.tape = w.tape
  output : w'.output = w.output
  size : w.heap.size ≤ w'.heap.size
  block : ∀ b, b < w.heap.size → (∀ p sz cap, fp p → ρ p ≠ .live b sz cap) → w'.heap[b]? = w.heap[b]?
  slots : Slots ρ ρ'
  same : ∀ p, ¬ fp p → ρ' p = ρ p
  xin : ∀ b, X b → X' b ∨ ∃ p sz cap, fp p ∧ ρ p = .live b sz cap
  xout : ∀ b, X' b → X b ∨ w.heap.size ≤ b
  src : ∀ p b sz cap, ρ' p = .live b sz cap → (∃ q s c, ρ q = .live b s c) ∨ w.heap.size ≤ b
  mem : Mem X' ρ' w'

section
variable {fp fp' : Nat → Prop} {X X' X'' : Nat → Prop} {ρ ρ' ρ'' : Nat → Slot} {w w' w'' : World}
theorem Step.keeps (s : Step fp X ρ w X' ρ' w') (m : Mem X ρ w) : Keeps X w X' w' :=
  ⟨fun b hb hX hX' => (s.xout b hX').elim hX (by omega), fun b hb hX => s.block b hb fun p sz cap _ e => hX (m.live p b sz cap e)⟩
theorem Step.refl (m : Mem X ρ w) : Step fp X ρ w X ρ w :=
  ⟨rfl, rfl, rfl, Nat.le_refl _, fun _ _ _ => rfl, Slots.refl _, fun _ _ => rfl, fun _ h => .inl h, fun _ h => .inl h, fun p b sz cap h => .inl ⟨p, sz, cap, h⟩, m⟩
theorem Step.drew (m : Mem X ρ w) (n : Nat) : Step fp X ρ w X ρ (w.drewN n) :=
  ⟨rfl, rfl, rfl, Nat.le_refl _, fun _ _ _ => rfl, Slots.refl _, fun _ _ => rfl, fun _ h => .inl h, fun _ h => .inl h, fun p b sz cap h => .inl ⟨p, sz, cap, h⟩, ⟨m.lt, m.live, m.inj⟩⟩
theorem Slots.trans {a b c : Nat → Slot} (h : Slots a b) (k : Slots b c) : Slots a c := fun p => by
  rcases h p with e | e | e
  · exact .inl e
  · rcases k p with f | f | f
    · exact .inl (e ▸ f)
    · exact .inr (.inl (f.trans e))
    · exact .inr (.inr f)
  · rcases k p with f | f | f
    · rw [e] at f; cases f
    · exact .inr (.inr (f.trans e))
    · exact .inr (.inr f)
/-- Two pieces, one behind the other, seen from the first's start: all objects may have been written. -/
theorem Step.trans (s : Step fp X ρ w X' ρ' w') (s' : Step fp' X' ρ' w' X'' ρ'' w'') (m : Mem X ρ w) : Step (fun _ => True) X ρ w X'' ρ'' w'' := by
  have live' : ∀ b p sz cap, ρ' p = .live b sz cap → b < w.heap.size → ∃ q s c, ρ q = .live b s c := by
    intro b p sz cap h hb
    rcases s.src p b sz cap h with h | h
    · exact h
    · omega
  refine ⟨s'.os.trans s.os, s'.tape.trans s.tape, s'.output.trans s.output, Nat.le_trans s.size s'.size, ?_, s.slots.trans s'.slots, fun p h => absurd trivial h, ?_, ?_, ?_, s'.mem⟩
  · intro b hb hn
    rw [s'.block b (Nat.lt_of_lt_of_le hb s.size) ?_, s.block b hb (fun p sz cap _ => hn p sz cap trivial)]
    intro p sz cap _ e
    obtain ⟨q, s1, c, hq⟩ := live' b p sz cap e hb
    exact hn q s1 c trivial hq
  · intro b hX
    rcases s.xin b hX with h | ⟨p, sz, cap, _, h⟩
    · rcases s'.xin b h with h' | ⟨p, sz, cap, _, h'⟩
      · exact .inl h'
      · obtain ⟨q, s1, c, hq⟩ := live' b p sz cap h' (m.lt b hX)
        exact .inr ⟨q, s1, c, trivial, hq⟩
    · exact .inr ⟨p, sz, cap, trivial, h⟩
  · intro b hX
    rcases s'.xout b hX with h | h
    · exact s.xout b h
    · exact .inr (Nat.le_trans s.size h)
  · intro p b sz cap h
    rcases s'.src p b sz cap h with ⟨q, s1, c, hq⟩ | h
    · exact s.src q b s1 c hq
    · exact .inr (Nat.le_trans s.size h)
/-- An object that a step does not name is as it was. -/
theorem ObOK.keep (s : Step fp X ρ w X' ρ' w') (m : Mem X ρ w) {p : Nat} {x : Ob} (hp : ¬ fp p) (h : ObOK X ρ w p x) : ObOK X' ρ' w' p x := by
  cases x with
  | gone => trivial
  | cap q c =>
    obtain ⟨h1, h2, h3⟩ := h
    refine ⟨fun e => ?_, fun e => ?_, fun b s' k e => ?_⟩
    · rcases s.slots q with g | g | g
      · exact h1 g
      · rw [g] at e; exact h1 e
      · rw [g] at e; cases e
    · rcases s.slots q with g | g | g
      · exact absurd g h1
      · rw [g] at e; exact h2 e
      · rw [g] at e; cases e
    · rcases s.slots q with g | g | g
      · exact absurd g h1
      · rw [g] at e; exact h3 b s' k e
      · rw [g] at e; cases e
  | iter s' n =>
    obtain ⟨b, z, k, h1, h2⟩ := h
    refine ⟨b, z, k, by rw [s.same p hp]; exact h1, ?_⟩
    rw [s.block b (heap_lt h2) ?_]
    · exact h2
    · intro q z' c' hq' e
      exact hp (m.inj q p b z' c' z k e h1 ▸ hq')
  | arr sz rows =>
    unfold ObOK at h ⊢
    obtain ⟨h0, h1, hm, h2⟩ := h
    refine ⟨h0, h1, hm, ?_⟩
    rw [s.same p hp]
    cases hq : ρ p with
    | live b z cap =>
      simp only [hq] at h2 ⊢
      obtain ⟨e1, e2, e3, cs, t, fr, hh, hs, hf, hr⟩ := h2
      refine ⟨e1, e2, e3, cs, t, fr, ?_, hs, hf, DRows.keep (s.keeps m) s.slots _ _ hr⟩
      rw [s.block b (heap_lt hh) ?_]
      · exact hh
      · intro q z' c' hq' e
        exact hp (m.inj q p b z' c' z cap e hq ▸ hq')
    | null => simpa only [hq] using h2
    | hole => simp only [hq] at h2
    | dead => simp only [hq] at h2
def upd (H : Nat → Ob) (ups : List (Nat × Ob)) (p : Nat) : Ob := match ups.lookup p with | some x => x | none => H p
def updE (E : Nat → Option D) (dst : Option Nat) (d : D) (t : Nat) : Option D := if dst = some t then some d else E t
theorem Real.step {G : Nat → Option (List V)} {E : Nat → Option D} {H H' : Nat → Ob} {a : Act} (r : Real G X ρ w E H a.tmps) (s : Step fp X ρ w X' ρ' w') (dst : Option Nat) {d : D} {v : Value} (hd : DCell X' ρ' w' d v)
    (hlt : ∀ t, dst = some t → t < a.tmps.size) (hH : ∀ p, (fp p → ObOK X' ρ' w' p (H' p)) ∧ (¬ fp p → H' p = H p)) :
    Real G X' ρ' w' (updE E dst d) H' (a.put dst v).tmps := by
  refine ⟨fun g cs h => VCell.keep (s.keeps r.mem) _ _ (r.glob g cs h), s.mem, fun t e he => ?_, fun p => ?_⟩
  · unfold updE at he
    by_cases ht : dst = some t
    · rw [if_pos ht] at he
      injection he with he; subst he; subst ht
      refine ⟨v, ?_, hd⟩
      simp [Act.put, hlt t rfl]
    · rw [if_neg ht] at he
      obtain ⟨u, hu, hc⟩ := r.env t e he
      refine ⟨u, ?_, DCell.keep (s.keeps r.mem) s.slots _ _ hc⟩
      cases dst with
      | none => exact hu
      | some k =>
        have : k ≠ t := fun h => ht (by rw [h])
        simp [Act.put, Array.getElem?_setIfInBounds_ne this, hu]
  · by_cases hp : fp p
    · exact (hH p).1 hp
    · rw [(hH p).2 hp]; exact (r.obs p).keep s r.mem hp
end
end Go.DL

/- DL, part 2: operations that leave memory alone. Own work; no condition. -/
set_option linter.unusedVariables false
set_option linter.unusedSimpArgs false
namespace Go.DL
open Go.RowKit

/-- What an operation does, whatever stands for (E, H): it comes to one of the outcomes R. nw: the places that it fills anew. -/
def Does {P : Program} (T : Tab P) (o : Oper) (E : Nat → Option D) (H : Nat → Ob) (nw : List Nat) (R : D → List (Nat × Ob) → Prop) : Prop :=
  ∀ X ρ w (a : Act) Q K, Real T.glob X ρ w E H a.tmps → (∀ p ∈ nw, ρ p = .hole) →
    (∀ d ups v w' X' ρ', R d ups → Step (fun p => p ∈ ups.map (·.1)) X ρ w X' ρ' w' → DCell X' ρ' w' d v → (∀ x ∈ ups, ObOK X' ρ' w' x.1 x.2) → K (a.put o.dst v) w') →
    o.wp P a w K Q
def Just (d : D) (u : List (Nat × Ob)) : D → List (Nat × Ob) → Prop := fun d' u' => d' = d ∧ u' = u

section
variable {P : Program} {T : Tab P} {o : Oper} {E : Nat → Option D} {H : Nat → Ob}
theorem does_value {d : D} (h : ∀ X ρ w (a : Act), Real T.glob X ρ w E H a.tmps → ∃ v, (execOp a.eval o).run P w = .ok (.value v) w ∧ DCell X ρ w d v) : Does T o E H [] (Just d []) := by
  intro X ρ w a Q K r hQ hK
  obtain ⟨v, hv, hd⟩ := h X ρ w a r
  unfold Oper.wp
  rw [hv]
  exact hK d [] v w X ρ ⟨rfl, rfl⟩ (Step.refl r.mem) hd (by simp)

def Tab.esz (T : Tab P) (t : Nat) : Nat := match (T.ty t).d with | .slice e => max (T.ty e).size 1 | _ => 1
theorem Tab.esz_pos (T : Tab P) (t : Nat) : 0 < T.esz t := by unfold Tab.esz; split <;> omega
def ev (T : Tab P) (E : Nat → Option D) (t : Nat) : Operand → Option D
  | .tmp i => E i
  | .const v => some (.v (vOf (T.esz t) v))
  | .global g => (T.glob g).map fun cs => .v (.iptr cs)
  | .func f => some (.v (.fn f []))
theorem ev_cell {X : Nat → Prop} {ρ : Nat → Slot} {w : World} {a : Act} (r : Real T.glob X ρ w E H a.tmps) {t : Nat} {x : Operand} {d : D} (h : ev T E t x = some d) : DCell X ρ w d (a.eval x) := by
  cases x with
  | tmp i =>
    obtain ⟨v, hv, hd⟩ := r.env i d h
    simpa [Act.eval, hv] using hd
  | const v => simp [ev] at h; subst h; exact vOf_cell (T.esz_pos t) v
  | global g =>
    simp [ev] at h
    obtain ⟨cs, hc, rfl⟩ := h
    exact r.glob g cs hc
  | func f => simp [ev] at h; subst h; exact ⟨[], rfl, rfl, trivial⟩

/-! #### closed readings of a D -/
mutual
def D.toV : D → Option V
  | .v x => some x
  | .agg ds => (D.toVs ds).map .agg
  | .tup ds => (D.toVs ds).map .tup
  | .fn f ds => (D.toVs ds).map (.fn f)
  | _ => none
def D.toVs : List D → Option (List V)
  | [] => some []
  | d :: ds => match d.toV, D.toVs ds with
    | some x, some xs => some (x :: xs)
    | _, _ => none
end
mutual
theorem D.toV_cell {X : Nat → Prop} {ρ : Nat → Slot} {w : World} : ∀ (d : D) {x : V} {u : Value}, d.toV = some x → DCell X ρ w d u → VCell X w x u
  | .any, x, u, h, _ => by simp [D.toV] at h
  | .v y, x, u, h, k => by simp [D.toV] at h; subst h; exact k
  | .arr .., x, u, h, _ => by simp [D.toV] at h
  | .ptr .., x, u, h, _ => by simp [D.toV] at h
  | .agg ds, x, u, h, k => by
    simp [D.toV] at h
    obtain ⟨xs, hx, rfl⟩ := h
    obtain ⟨vs, hv, hl, hc⟩ := k
    obtain ⟨h1, h2⟩ := D.toVs_cell ds hx hc
    exact ⟨vs, hv, hl.trans h2, h1⟩
  | .tup ds, x, u, h, k => by
    simp [D.toV] at h
    obtain ⟨xs, hx, rfl⟩ := h
    obtain ⟨vs, hv, hl, hc⟩ := k
    obtain ⟨h1, h2⟩ := D.toVs_cell ds hx hc
    exact ⟨vs, hv, hl.trans h2, h1⟩
  | .fn f ds, x, u, h, k => by
    simp [D.toV] at h
    obtain ⟨xs, hx, rfl⟩ := h
    obtain ⟨vs, hv, hl, hc⟩ := k
    obtain ⟨h1, h2⟩ := D.toVs_cell ds hx hc
    exact ⟨vs, hv, hl.trans h2, h1⟩
theorem D.toVs_cell {X : Nat → Prop} {ρ : Nat → Slot} {w : World} : ∀ (ds : List D) {xs : List V} {vs : List Value}, D.toVs ds = some xs → DCells X ρ w ds vs → VCells X w xs vs ∧ ds.length = xs.length
  | [], xs, vs, h, _ => by simp [D.toVs] at h; subst h; exact ⟨trivial, rfl⟩
  | d :: ds, xs, [], h, k => k.elim
  | d :: ds, xs, u :: vs, h, k => by
    simp only [D.toVs] at h
    split at h
    · rename_i x ys hx hy
      injection h with h; subst h
      obtain ⟨h1, h2⟩ := D.toVs_cell ds hy k.2
      exact ⟨⟨D.toV_cell d hx k.1, h1⟩, by simp [h2]⟩
    · cases h
end
/-- The cells of a value. -/
def D.cells : D → Option (List D)
  | .any => none
  | .agg ds => some ds
  | .v (.agg cs) => some (cs.map .v)
  | .v (.tup _) => none
  | .tup _ => none
  | d => some [d]
theorem VCells.toD {X : Nat → Prop} {ρ : Nat → Slot} {w : World} : ∀ {cs : List V} {vs : List Value}, VCells X w cs vs → DCells X ρ w (cs.map .v) vs
  | [], _, _ => trivial
  | _ :: _, [], h => h.elim
  | c :: cs, v :: vs, h => ⟨h.1, VCells.toD h.2⟩

/-! #### arithmetic and comparison on closed data -/
def IntKind.same : IntKind → IntKind → Bool
  | .i8, .i8 | .i16, .i16 | .i32, .i32 | .i64, .i64 | .u8, .u8 | .u16, .u16 | .u32, .u32 | .u64, .u64 => true
  | _, _ => false
theorem IntKind.same_eq {j k : IntKind} (h : IntKind.same j k = true) : j = k := by cases j <;> cases k <;> simp [IntKind.same] at h <;> rfl
/-- Go's order on strings. -/
def sLt (a b : ByteArray) : Bool := Op.bytesLess a.toList b.toList
def binV (ty : Ty) (op : BinOp) (x y : V) (K : V → Prop) : Prop :=
  match x, y with
  | .int k a, .int k' b =>
    match op with
    | .shl => 0 ≤ b ∧ K (.int k (k.wrap (a * 2 ^ (min b.toNat k.bits))))
    | .shr => 0 ≤ b ∧ K (.int k (a.fdiv (2 ^ (min b.toNat k.bits))))
    | _ =>
      match IntKind.same k k' with
      | false => False
      | true =>
        match op with
        | .add => K (.int k (k.wrap (a + b)))
        | .sub => K (.int k (k.wrap (a - b)))
        | .mul => K (.int k (k.wrap (a * b)))
        | .quo => b ≠ 0 ∧ K (.int k (k.wrap (a.tdiv b)))
        | .rem => b ≠ 0 ∧ K (.int k (a.tmod b))
        | .and => K (.int k (k.wrap (BitVec.ofInt k.bits a &&& BitVec.ofInt k.bits b).toNat))
        | .or => K (.int k (k.wrap (BitVec.ofInt k.bits a ||| BitVec.ofInt k.bits b).toNat))
        | .xor => K (.int k (k.wrap (BitVec.ofInt k.bits a ^^^ BitVec.ofInt k.bits b).toNat))
        | .eql => K (.bool (a == b))
        | .neq => K (.bool (a != b))
        | .lss => K (.bool (decide (a < b)))
        | .leq => K (.bool (decide (a ≤ b)))
        | .gtr => K (.bool (decide (a > b)))
        | .geq => K (.bool (decide (a ≥ b)))
        | _ => False
  | .bool a, .bool b =>
    match ty, op with
    | .bool, .eql => K (.bool (a == b))
    | .bool, .neq => K (.bool (a != b))
    | _, _ => False
  | .str a, .str b =>
    match op with
    | .add => a.size + b.size ≤ 9223372036854775807 ∧ K (.str (a ++ b))
    | .eql => K (.bool (decide (a = b)))
    | .neq => K (.bool (!decide (a = b)))
    | .lss => K (.bool (sLt a b))
    | .leq => K (.bool (sLt a b || decide (a = b)))
    | .gtr => K (.bool (!(sLt a b || decide (a = b))))
    | .geq => K (.bool (!sLt a b))
    | _ => False
  | _, _ => False
theorem str_eq_iff (a b : ByteArray) : (a.toList == b.toList) = decide (a = b) := by
  rw [Bool.eq_iff_iff]; simp
  rw [ByteArray.toList_eq, ByteArray.toList_eq]
  constructor
  · intro h
    obtain ⟨⟨x⟩⟩ := a
    obtain ⟨⟨y⟩⟩ := b
    simp at h
    rw [h]
  · rintro rfl; rfl
theorem binV_run {ty : Ty} {op : BinOp} {x y : V} {K : V → Prop} {t : Nat} (h : binV ty op x y K) (hty : ty = .bool → P.underlying t = some .bool) (X : Nat → Prop) (w : World) (u v : Value) (xo yo : Operand)
    (hu : VCell X w x u) (hv : VCell X w y v) : ∃ z, K z ∧ ∃ r, (do eqGuard op t xo yo u v; binOp op t u v : Sem Value).run P w = .ok r w ∧ ∀ X' w', VCell X' w' z r := by
  cases x with
  | int k a =>
    cases y with
    | int k' b =>
      unfold VCell at hu hv
      subst hu; subst hv
      simp only [binV] at h
      have hg : (eqGuard op t xo yo (.int k a) (.int k' b)).run P w = .ok () w := by cases op <;> simp [eqGuard]
      simp only [Sem.run_bind, hg, Result.andThen_ok]
      have done : ∀ {j : IntKind} {m : Int}, K (.int j m) → (binOp op t (.int k a) (.int k' b)).run P w = .ok (.int j m) w → ∃ z, K z ∧ ∃ r, (binOp op t (.int k a) (.int k' b)).run P w = .ok r w ∧ ∀ X' w', VCell X' w' z r :=
        fun hk hr => ⟨_, hk, _, hr, fun _ _ => rfl⟩
      have doneb : ∀ {m : Bool}, K (.bool m) → (binOp op t (.int k a) (.int k' b)).run P w = .ok (.bool m) w → ∃ z, K z ∧ ∃ r, (binOp op t (.int k a) (.int k' b)).run P w = .ok r w ∧ ∀ X' w', VCell X' w' z r :=
        fun hk hr => ⟨_, hk, _, hr, fun _ _ => rfl⟩
      split at h
      · exact done h.2 (by simp [binOp, Op.shift, Int.not_lt.2 h.1])
      · exact done h.2 (by simp [binOp, Op.shift, Int.not_lt.2 h.1])
      · split at h
        · exact h.elim
        · rename_i hsame
          have := IntKind.same_eq hsame
          subst this
          cases op <;> simp only at h <;> first
            | exact h.elim
            | contradiction
            | exact done h (by simp only [binOp]; rw [if_neg (by simp)]; rfl)
            | exact doneb h (by simp only [binOp]; rw [if_neg (by simp)]; rfl)
            | exact done h.2 (by simp only [binOp]; rw [if_neg (by simp)]; simp only [Op.intDiv]; rw [if_neg h.1]; rfl)
    | _ => simp [binV] at h
  | bool a =>
    cases y with
    | bool b =>
      unfold VCell at hu hv
      subst hu; subst hv
      simp only [binV] at h
      have hg : (eqGuard op t xo yo (.bool a) (.bool b)).run P w = .ok () w := by cases op <;> simp [eqGuard]
      simp only [Sem.run_bind, hg, Result.andThen_ok]
      split at h
      · have e : (Op.equal t (.bool a) (.bool b)).run P w = .ok (a == b) w := run_equalIn_bool' w 9999 t a b (hty rfl)
        exact ⟨_, h, _, by simp only [binOp, Sem.run_bind, e, Result.andThen_ok, Sem.run_pure], fun _ _ => rfl⟩
      · have e : (Op.equal t (.bool a) (.bool b)).run P w = .ok (a == b) w := run_equalIn_bool' w 9999 t a b (hty rfl)
        exact ⟨_, h, _, by simp only [binOp, Sem.run_bind, e, Result.andThen_ok, Sem.run_pure]; rfl, fun _ _ => rfl⟩
      · exact h.elim
    | _ => simp [binV] at h
  | str a =>
    cases y with
    | str b =>
      unfold VCell at hu hv
      subst hu; subst hv
      simp only [binV] at h
      have hg : (eqGuard op t xo yo (.string a) (.string b)).run P w = .ok () w := by cases op <;> simp [eqGuard]
      simp only [Sem.run_bind, hg, Result.andThen_ok]
      have done : ∀ {z : V} {r : Value}, K z → (∀ X' w', VCell X' w' z r) → (binOp op t (.string a) (.string b)).run P w = .ok r w → ∃ z, K z ∧ ∃ r, (binOp op t (.string a) (.string b)).run P w = .ok r w ∧ ∀ X' w', VCell X' w' z r :=
        fun hk hc hr => ⟨_, hk, _, hr, hc⟩
      cases op <;> simp only at h <;> first
        | exact h.elim
        | (refine done h.2 (fun _ _ => rfl) ?_
           have h1 := h.1
           simp only [binOp, Op.stringOp]
           rw [if_neg (by simp [IntKind.max, IntKind.signed, IntKind.bits]; omega)]
           rfl)
        | exact done h (fun _ _ => rfl) (by simp only [binOp, Op.stringOp, str_eq_iff]; rfl)
    | _ => simp [binV] at h
  | _ => simp [binV] at h
end
end Go.DL

/- DL, part 3: operations on structs, pointers and slices that leave memory alone. Own work; no condition. -/
set_option linter.unusedVariables false
set_option linter.unusedSimpArgs false
namespace Go.DL
open Go.RowKit

structure Br (b : Bool) (A B : Prop) : Prop where
  t : b = true → A
  f : b = false → B
theorem Br.tt {A B : Prop} (h : A) : Br true A B := ⟨fun _ => h, fun h => by cases h⟩
theorem Br.ff {A B : Prop} (h : B) : Br false A B := ⟨(fun h => by cases h), fun _ => h⟩
def forceL {α : Type} : List α → (List α → Prop) → Prop
  | [], K => K []
  | x :: xs, K => forceL xs fun ys => K (x :: ys)
theorem forceL_eq {α : Type} : ∀ (l : List α) (K : List α → Prop), forceL l K = K l
  | [], K => rfl
  | x :: xs, K => by simp only [forceL, forceL_eq xs]
def forceLL {α : Type} : List (List α) → (List (List α) → Prop) → Prop
  | [], K => K []
  | x :: xs, K => forceL x fun y => forceLL xs fun ys => K (y :: ys)
theorem forceLL_eq {α : Type} : ∀ (l : List (List α)) (K : List (List α) → Prop), forceLL l K = K l
  | [], K => rfl
  | x :: xs, K => by simp only [forceLL, forceL_eq, forceLL_eq xs]
def takeN {α : Type} : Nat → List α → Option (List α)
  | 0, _ => some []
  | _ + 1, [] => none
  | n + 1, x :: xs => (takeN n xs).map (x :: ·)
theorem takeN_eq {α : Type} : ∀ {n : Nat} {l r : List α}, takeN n l = some r → r = l.take n ∧ n ≤ l.length
  | 0, l, r, h => by simp [takeN] at h; simp [h]
  | n + 1, [], r, h => by simp [takeN] at h
  | n + 1, x :: xs, r, h => by
    simp [takeN] at h
    obtain ⟨s, hs, rfl⟩ := h
    obtain ⟨h1, h2⟩ := takeN_eq hs
    simp [h1, h2]
def splice {α : Type} (l : List α) (o : Nat) (c : List α) : List α := l.take o ++ c ++ l.drop (o + c.length)
theorem splice_length {α : Type} {l c : List α} {o : Nat} (h : o + c.length ≤ l.length) : (splice l o c).length = l.length := by
  simp [splice]; omega

section
variable {P : Program} {T : Tab P} {o : Oper} {E : Nat → Option D} {H : Nat → Ob} {K : D → List (Nat × Ob) → Prop}
variable {X : Nat → Prop} {ρ : Nat → Slot} {w : World}

theorem DCells.splice : ∀ {l c : List D} {vs us : List Value} {o : Nat}, DCells X ρ w l vs → DCells X ρ w c us → c.length = us.length → o + c.length ≤ l.length → DCells X ρ w (splice l o c) (splice vs o us)
  | l, c, vs, us, o, hl, hc, he, ho => by
    unfold DL.splice
    have h1 := DCells.take o hl
    have h2 := DCells.drop (o + c.length) hl
    have hlen := DCells.len hl
    have e1 : (l.take o).length = (vs.take o).length := by simp; omega
    have app : ∀ {a b : List D} {p q : List Value}, DCells X ρ w a p → a.length = p.length → DCells X ρ w b q → DCells X ρ w (a ++ b) (p ++ q) := by
      intro a b p q ha hab hb
      exact DCells.append (DCells.more ha) (by rw [hab, List.drop_left]; exact hb)
    rw [he] at h2 ⊢
    exact app (app h1 e1 hc) (by simp [he]; omega) h2

/-! ##### struct parts -/
def partK (T : Tab P) (t off : Nat) (cs : List D) (K : D → Prop) : Prop :=
  match (T.ty t).size with
  | 0 => False
  | n + 1 => match (T.ty t).agg with
    | true => match takeN (n + 1) (cs.drop off) with | some r => forceL r fun r => K (.agg r) | none => False
    | false => match cs.drop off with | c :: _ => K c | [] => False
theorem partK_part {t off : Nat} {cs : List D} {J : D → Prop} (h : partK T t off cs J) {vs : List Value} (hc : DCells X ρ w cs vs) (hl : vs.length = cs.length) :
    ∃ d, J d ∧ ∃ v, (part t vs.toArray off).run P w = .ok v w ∧ DCell X ρ w d v := by
  unfold partK at h
  simp only [forceL_eq] at h
  split at h
  · exact h.elim
  · rename_i n hn
    have hs : 0 < (T.ty t).size := by rw [hn]; omega
    split at h
    · rename_i ha
      split at h
      · rename_i r hr
        obtain ⟨h1, h2⟩ := takeN_eq hr
        subst h1
        refine ⟨_, h, .agg (vs.toArray.extract off (off + (n + 1))), ?_, ?_⟩
        · simp only [part, Sem.run_bind, T.run_isAgg hs, Result.andThen_ok, ha, if_true, T.run_size hs, hn, Sem.run_pure]
        · refine ⟨(vs.drop off).take (n + 1), ?_, ?_, DCells.take _ (DCells.drop off hc)⟩
          · congr 1
            rw [← Array.toList_inj]
            simp [List.extract_eq_take_drop]
          · simp at h2 ⊢; omega
      · exact h.elim
    · rename_i ha
      split at h
      · rename_i c rest hr
        have hg : cs[off]? = some c := by
          have := congrArg (fun l => l[0]?) hr
          simpa using this
        obtain ⟨v, hv, hd⟩ := DCells.get hc hg
        refine ⟨c, h, v, ?_, hd⟩
        simp only [part, Sem.run_bind, T.run_isAgg hs, Result.andThen_ok, ha, Bool.false_eq_true, if_false]
        have : vs.toArray[off]? = some v := by simpa using hv
        simp [this]
      · exact h.elim

theorem partK_all {t off : Nat} {cs : List D} {J : D → Prop} (h : partK T t off cs J) :
    ∃ d, J d ∧ ∀ X ρ w (vs : List Value), DCells X ρ w cs vs → vs.length = cs.length → ∃ v, (part t vs.toArray off).run P w = .ok v w ∧ DCell X ρ w d v := by
  have key : ∃ d, J d ∧ partK T t off cs (· = d) := by
    unfold partK at h ⊢
    simp only [forceL_eq] at h ⊢
    split at h
    · exact h.elim
    · split at h
      · split at h
        · exact ⟨_, h, by simp_all⟩
        · exact h.elim
      · split at h
        · exact ⟨_, h, by simp_all⟩
        · exact h.elim
  obtain ⟨d, hJ, hp⟩ := key
  refine ⟨d, hJ, fun X ρ w vs hc hl => ?_⟩
  obtain ⟨d', rfl, v, hv, hd⟩ := partK_part hp hc hl
  exact ⟨v, hv, hd⟩
/-! ##### memory read -/
theorem cell_at {b off : Nat} {arr : Array Value} {e : TypeId} {fr : Nat × Nat} (hb : w.heap[b]? = some (.cells arr e fr)) (j : Nat) (u : Value) (hu : (arr.toList.drop off)[j]? = some u) :
    w.cell? ((⟨b, off, none⟩ : Addr).add j) = some u := by
  have : (⟨b, off, none⟩ : Addr).add j = ⟨b, off + j, none⟩ := by unfold Addr.add; split <;> simp_all
  rw [this]
  simp [World.cell?, hb]
  simpa using hu
theorem run_loadVar_agg {t b off : Nat} (hs : 0 < (T.ty t).size) (ha : (T.ty t).agg = true) {arr : Array Value} {e : TypeId} {fr : Nat × Nat} (hb : w.heap[b]? = some (.cells arr e fr)) (hle : (T.ty t).size ≤ (arr.toList.drop off).length) :
    (loadVar t ⟨b, off, none⟩).run P w = .ok (.agg ((arr.toList.drop off).take (T.ty t).size).toArray) w := by
  have hl : ((arr.toList.drop off).take (T.ty t).size).length = (T.ty t).size := by rw [List.length_take]; omega
  have := run_loadCells_list (P := P) (w := w) ⟨b, off, none⟩ ((arr.toList.drop off).take (T.ty t).size) (fun j u hu => cell_at hb j u (by
    rw [List.getElem?_take] at hu; split at hu <;> simp_all))
  rw [hl] at this
  simp only [loadVar, Sem.run_bind, T.run_isAgg hs, Result.andThen_ok, ha, if_true, T.run_size hs, this, Sem.run_pure]
theorem run_loadVar_one {t b off : Nat} (hs : 0 < (T.ty t).size) (ha : (T.ty t).agg = false) {arr : Array Value} {e : TypeId} {fr : Nat × Nat} (hb : w.heap[b]? = some (.cells arr e fr)) {v : Value} (hv : (arr.toList.drop off)[0]? = some v) :
    (loadVar t ⟨b, off, none⟩).run P w = .ok v w := by
  have := cell_at hb 0 v hv
  simp only [loadVar, Sem.run_bind, T.run_isAgg hs, Result.andThen_ok, ha, if_false, Bool.false_eq_true]
  have h0 : (⟨b, off, none⟩ : Addr).add 0 = ⟨b, off, none⟩ := rfl
  rw [h0] at this
  simp [run_load, this]
theorem load_part {t b off : Nat} {arr : Array Value} {e : TypeId} {fr : Nat × Nat} (hb : w.heap[b]? = some (.cells arr e fr)) {cs : List D} (hc : DCells X ρ w cs (arr.toList.drop off)) {J : D → Prop} (h : partK T t 0 cs J) :
    ∃ d, J d ∧ ∃ v, (loadVar t ⟨b, off, none⟩).run P w = .ok v w ∧ DCell X ρ w d v := by
  unfold partK at h
  simp only [forceL_eq] at h
  split at h
  · exact h.elim
  · rename_i n hn
    have hs : 0 < (T.ty t).size := by rw [hn]; omega
    split at h
    · rename_i ha
      split at h
      · rename_i r hr
        obtain ⟨h1, h2⟩ := takeN_eq hr
        subst h1
        simp only [List.drop_zero] at h2 h ⊢
        have hl := DCells.len hc
        refine ⟨_, h, _, run_loadVar_agg hs ha hb (by omega), _, rfl, ?_, ?_⟩
        · rw [List.length_take, List.length_take]; omega
        · rw [hn]; exact DCells.take _ hc
      · exact h.elim
    · rename_i ha
      split at h
      · rename_i c rest hr
        simp only [List.drop_zero] at hr
        subst hr
        obtain ⟨v, hv, hd⟩ := DCells.get hc (i := 0) rfl
        exact ⟨c, h, v, run_loadVar_one hs ha hb hv, hd⟩
      · exact h.elim
theorem partK_load {t : Nat} {cs : List D} {J : D → Prop} (h : partK T t 0 cs J) :
    ∃ d, J d ∧ ∀ X ρ w b off (arr : Array Value) e fr, w.heap[b]? = some (.cells arr e fr) → DCells X ρ w cs (arr.toList.drop off) → ∃ v, (loadVar t ⟨b, off, none⟩).run P w = .ok v w ∧ DCell X ρ w d v := by
  have key : ∃ d, J d ∧ partK T t 0 cs (· = d) := by
    unfold partK at h ⊢
    simp only [forceL_eq] at h ⊢
    split at h
    · exact h.elim
    · split at h
      · split at h
        · exact ⟨_, h, by simp_all⟩
        · exact h.elim
      · split at h
        · exact ⟨_, h, by simp_all⟩
        · exact h.elim
  obtain ⟨d, hJ, hp⟩ := key
  refine ⟨d, hJ, fun X ρ w b off arr e fr hb hc => ?_⟩
  obtain ⟨d', rfl, v, hv, hd⟩ := load_part hb hc hp
  exact ⟨v, hv, hd⟩
/-- One row of an object. -/
def rowK (o : Option (List D)) (K : List D → Prop) : Prop := match o with | some row => K row | none => False
/-- The cells behind a pointer. -/
def derefK (H : Nat → Ob) (d : Option D) (K : List D → Prop) : Prop :=
  match d with
  | some (.ptr p i j) => match H p with
    | .arr sz rows => rowK rows[i]? fun row => K (row.drop j)
    | _ => False
  | some (.v (.iptr cs)) => K (cs.map .v)
  | _ => False
theorem derefK_at {d : Option D} {J : List D → Prop} (h : derefK H d J) {tmps : Array Value} (r : Real T.glob X ρ w E H tmps) {x : D} {v : Value} (hx : d = some x) (hv : DCell X ρ w x v) :
    ∃ cs b off arr e fr, J cs ∧ v = .pointer (some ⟨b, off, none⟩) ∧ w.heap[b]? = some (.cells arr e fr) ∧ DCells X ρ w cs (arr.toList.drop off) := by
  subst hx
  unfold derefK rowK at h
  split at h
  · rename_i p i j heq
    injection heq with heq; subst heq
    split at h
    · rename_i sz rows hp
      split at h
      · rename_i row hrow
        have ho := r.obs p
        rw [hp] at ho
        unfold ObOK at ho
        obtain ⟨h0, h1, hm, h2⟩ := ho
        unfold DCell at hv
        cases hq : ρ p with
        | live b z cap =>
          simp only [hq] at h2 hv
          obtain ⟨rfl, e2, e3, cs, t, fr, hh, hs, hf, hr⟩ := h2
          refine ⟨_, b, i * z + j, cs, t, fr, h, hv, hh, ?_⟩
          have := DRows.get (fun r hr => (h1 r hr).1) hr hrow
          have := DCells.drop j this
          rwa [List.drop_drop] at this
        | null => simp only [hq] at hv
        | hole => simp only [hq] at hv
        | dead => simp only [hq] at h2
      · exact h.elim
    · exact h.elim
  · rename_i cs heq
    injection heq with heq; subst heq
    obtain ⟨b, off, arr, e, fr, hp, hX, hh, hc⟩ := hv
    exact ⟨_, b, off, arr, e, fr, h, hp, hh, VCells.toD hc⟩
  · exact h.elim

theorem derefK_all {x : D} {J : List D → Prop} (h : derefK H (some x) J) :
    ∃ cs, J cs ∧ ∀ X ρ w E (tmps : Array Value), Real T.glob X ρ w E H tmps → ∀ v, DCell X ρ w x v → ∃ b off arr e fr, v = .pointer (some ⟨b, off, none⟩) ∧ w.heap[b]? = some (.cells arr e fr) ∧ DCells X ρ w cs (arr.toList.drop off) := by
  have key : ∃ cs, J cs ∧ derefK H (some x) (· = cs) := by
    unfold derefK rowK at h ⊢
    split at h
    · split at h
      · split at h
        · exact ⟨_, h, by simp_all⟩
        · exact h.elim
      · exact h.elim
    · exact ⟨_, h, by simp_all⟩
    · exact h.elim
  obtain ⟨cs, hJ, hp⟩ := key
  refine ⟨cs, hJ, fun X ρ w E tmps r v hv => ?_⟩
  obtain ⟨cs', b, off, arr, e, fr, rfl, h1, h2, h3⟩ := derefK_at hp r rfl hv
  exact ⟨b, off, arr, e, fr, h1, h2, h3⟩

/-! ##### the operations that only read -/
def flatTy (T : Tab P) (t : Nat) : Bool := match (T.ty t).d with | .int _ | .bool | .str => !(T.ty t).agg && (T.ty t).size == 1 | _ => false
def flatFs (T : Tab P) : Nat → List (Nat × Nat) → Bool
  | _, [] => true
  | n, (t, o) :: fs => flatTy T t && o == n && flatFs T (n + 1) fs
def eqV (ty : Ty) (x y : V) : Option Bool :=
  match ty, x, y with
  | .int _, .int k a, .int k' b => match IntKind.same k k' with | true => some (a == b) | false => none
  | .bool, .bool a, .bool b => some (a == b)
  | .str, .str a, .str b => some (decide (a = b))
  | _, _, _ => none
def eqCells (T : Tab P) : List (Nat × Nat) → List V → List V → Option Bool
  | [], [], [] => some true
  | (t, _) :: fs, x :: xs, y :: ys => match eqV (T.ty t).d x y, eqCells T fs xs ys with
    | some p, some q => some (p && q)
    | _, _ => none
  | _, _, _ => none
theorem eqV_run {t : Nat} {x y : V} {b : Bool} (h : eqV (T.ty t).d x y = some b) {u v : Value} (hu : VCell X w x u) (hv : VCell X w y v) (d : Nat) : (Op.equalIn (d + 1) t u v).run P w = .ok b w := by
  unfold eqV at h
  split at h
  · rename_i k k1 a k' b' hd
    split at h
    · injection h with h; subst h
      unfold VCell at hu hv; subst hu; subst hv
      have := IntKind.same_eq (by assumption); subst this
      exact run_equalIn_int w d t k1 k a b' (T.int hd)
    · cases h
  · rename_i a b' hd
    injection h with h; subst h
    unfold VCell at hu hv; subst hu; subst hv
    exact run_equalIn_bool' w d t a b' (T.bool hd)
  · rename_i a b' hd
    injection h with h; subst h
    unfold VCell at hu hv; subst hu; subst hv
    rw [run_equalIn_string w d t a b' (T.str hd), str_eq_iff]
  · cases h
theorem eqFields_run : ∀ (fs : List (Nat × Nat)) (gs : List Field) (n : Nat) (xs ys : List V) (us vs : List Value) (b : Bool) (d : Nat), fs = gs.map (fun f => (f.type, f.offset)) → (∀ f ∈ gs, f.name ≠ "_") → flatFs T n fs = true →
    eqCells T fs xs ys = some b → VCells X w xs (us.drop n) → VCells X w ys (vs.drop n) → (Op.eqFields (d + 1) us.toArray vs.toArray gs).run P w = .ok b w
  | [], [], n, xs, ys, us, vs, b, d, _, _, _, hb, _, _ => by
    cases xs <;> cases ys <;> simp [eqCells] at hb
    subst hb; simp [Op.eqFields]
  | [], _ :: _, n, xs, ys, us, vs, b, d, h, _, _, hb, _, _ => by simp at h
  | _ :: _, [], n, xs, ys, us, vs, b, d, h, _, _, hb, _, _ => by simp at h
  | (t, o) :: fs, g :: gs, n, xs, ys, us, vs, b, d, h, hn, hf, hb, hx, hy => by
    simp at h
    obtain ⟨⟨rfl, rfl⟩, h⟩ := h
    simp only [flatFs, Bool.and_eq_true, beq_iff_eq] at hf
    obtain ⟨⟨hf1, hf2⟩, hf3⟩ := hf
    cases xs with
    | nil => simp [eqCells] at hb
    | cons x xs =>
      cases ys with
      | nil => simp [eqCells] at hb
      | cons y ys =>
        simp only [eqCells] at hb
        split at hb
        · rename_i p q hp hq
          injection hb with hb; subst hb
          have ih := eqFields_run fs gs (n + 1) xs ys us vs q d h (fun f hf => hn f (List.mem_cons_of_mem _ hf)) hf3 hq (by simpa [List.drop_drop, Nat.add_comm] using VCells.drop 1 hx) (by simpa [List.drop_drop, Nat.add_comm] using VCells.drop 1 hy)
          obtain ⟨u, hu, hxu⟩ := VCells.get hx (i := 0) rfl
          obtain ⟨v, hv, hyv⟩ := VCells.get hy (i := 0) rfl
          have hsz : 0 < (T.ty g.type).size ∧ (T.ty g.type).agg = false := by
            unfold flatTy at hf1
            split at hf1 <;> simp at hf1 <;> exact ⟨by omega, hf1.1⟩
          have pt : ∀ (ws : List Value) (z : Value), (ws.drop n)[0]? = some z → (part g.type ws.toArray g.offset).run P w = .ok z w := by
            intro ws z hz
            simp only [part, Sem.run_bind, T.run_isAgg hsz.1, Result.andThen_ok, hsz.2, Bool.false_eq_true, if_false]
            have : ws.toArray[g.offset]? = some z := by rw [hf2]; simpa using hz
            simp [this]
          have hne : g.name ≠ "_" := hn g List.mem_cons_self
          rw [Op.eqFields]
          simp only [if_pos hne, Sem.run_bind, pt us u hu, pt vs v hv, eqV_run hp hxu hyv d, Result.andThen_ok]
          cases p
          · simp
          · simpa using ih
        · cases hb
theorem eqStruct_run {t : Nat} {fs : List (Nat × Nat)} (hd : (T.ty t).d = .struct fs) (hok : (T.ty t).eqok = true) (hf : flatFs T 0 fs = true) {xs ys : List V} {b : Bool} (hb : eqCells T fs xs ys = some b)
    {us vs : List Value} (hx : VCells X w xs us) (hy : VCells X w ys vs) (xo yo : Operand) (op : BinOp) :
    (do eqGuard op t xo yo (.agg us.toArray) (.agg vs.toArray) : Sem Unit).run P w = .ok () w ∧ (Op.equal t (.agg us.toArray) (.agg vs.toArray)).run P w = .ok b w := by
  obtain ⟨gs, hu, hfs⟩ := T.struct hd
  have e : T.ty t = tiOf P t := by
    rcases T.ok t with e | e
    · exact e
    · rw [e] at hd; simp [TI.none] at hd
  rw [e] at hok
  unfold tiOf at hok
  rw [hu] at hok
  cases hi : P.info? t with
  | none => simp [hi, TI.none] at hok
  | some i =>
    simp only [hi, Bool.and_eq_true, Bool.not_eq_true'] at hok
    obtain ⟨⟨h1, h2⟩, h3⟩ := hok
    have hF : P.fieldsOf t = gs := by simp [Program.fieldsOf, hu]
    refine ⟨?_, ?_⟩
    · unfold eqGuard
      cases op <;> simp [h2]
    · have := run_equalIn_struct (P := P) w 9999 t us.toArray vs.toArray (by rw [hF]; exact hu) h1
      rw [hF] at this
      show (Op.equalIn (9999 + 1) t _ _).run P w = _
      rw [this]
      refine eqFields_run (T := T) fs gs.toList 0 xs ys us vs b 9998 hfs ?_ hf hb (by simpa using hx) (by simpa using hy)
      intro f hf'
      have := (Array.all_eq_true_iff_forall_mem.1 h3) f (by simpa using hf')
      simpa using this
end
end Go.DL

/- DL, part 4: the operations that only read, in one table. Own work; no condition. -/
set_option linter.unusedVariables false
set_option linter.unusedSimpArgs false
namespace Go.DL
open Go.RowKit

section
variable {P : Program} {T : Tab P} {o : Oper} {E : Nat → Option D} {H : Nat → Ob} {K : D → List (Nat × Ob) → Prop}
variable {X : Nat → Prop} {ρ : Nat → Slot} {w : World}

/-- A value operation: an outcome that all that stands for the state comes to. -/
def Val {P : Program} (T : Tab P) (o : Oper) (E : Nat → Option D) (H : Nat → Ob) (d : D) : Prop :=
  ∀ X ρ w (a : Act), Real T.glob X ρ w E H a.tmps → ∃ v, (execOp a.eval o).run P w = .ok (.value v) w ∧ DCell X ρ w d v
theorem Val.does {d : D} (h : Val T o E H d) : Does T o E H [] (Just d []) := does_value h

/-! ##### bounds of a slice expression -/
def boundK (x : Option D) (dflt : Nat) (K : Int → Prop) : Option Operand → Prop
  | none => K dflt
  | some _ => match x with | some (.v (.int _ n)) => K n | _ => False
theorem run_sliceBound {k : IntKind} {n : Int} {y : Nat} {c : BoundsCode} (h0 : 0 ≤ n) (h1 : n ≤ y) : (Instr.sliceBound (.int k n) y c).run P w = .ok n.toNat w := by
  simp [Instr.sliceBound, asIntOf, h0, h1]
/-- The bounds as numbers: what stands for lo and hi. -/
theorem run_sliceBounds {isS : Bool} {len cap : Nat} {lo hi : Option Value} {l h : Int} (hl : (lo = none ∧ l = 0) ∨ ∃ k, lo = some (.int k l)) (hh : (hi = none ∧ h = len) ∨ ∃ k, hi = some (.int k h))
    (h0 : 0 ≤ l) (h1 : l ≤ h) (h2 : h ≤ cap) : (Instr.sliceBounds isS len cap lo hi none).run P w = .ok (l.toNat, h.toNat, cap) w := by
  unfold Instr.sliceBounds
  have hh0 : 0 ≤ h := Int.le_trans h0 h1
  rcases hh with ⟨rfl, rfl⟩ | ⟨k, rfl⟩
  · rcases hl with ⟨rfl, rfl⟩ | ⟨k', rfl⟩
    · simp
    · simp [run_sliceBound h0 (y := len) (by simpa using h1)]
  · simp only [Sem.run_bind, Sem.run_pure, Result.andThen_ok]
    rw [run_sliceBound hh0 h2]
    simp only [Result.andThen_ok]
    rcases hl with ⟨rfl, rfl⟩ | ⟨k', rfl⟩
    · simp
    · simp [run_sliceBound h0 (y := h.toNat) (by omega)]
def optE (T : Tab P) (E : Nat → Option D) : Option Operand → Option D
  | none => none
  | some x => ev T E 0 x
def IsBound {P : Program} (T : Tab P) (E : Nat → Option D) (H : Nat → Ob) (lo : Option Operand) (dflt : Nat) (n : Int) : Prop :=
  ∀ X ρ w (a : Act), Real T.glob X ρ w E H a.tmps → ((lo.map a.eval = none ∧ n = dflt) ∨ ∃ k, lo.map a.eval = some (.int k n))
theorem boundK_val {lo : Option Operand} {dflt : Nat} {J : Int → Prop} (h : boundK (optE T E lo) dflt J lo) : ∃ n, J n ∧ IsBound T E H lo dflt n := by
  cases lo with
  | none => exact ⟨dflt, h, fun X ρ w a r => .inl ⟨rfl, rfl⟩⟩
  | some x =>
    unfold boundK at h
    simp only [optE] at h
    split at h
    · rename_i k n hx
      refine ⟨n, h, fun X ρ w a r => ?_⟩
      have := ev_cell r hx
      unfold DCell VCell at this
      exact .inr ⟨k, by simp [this]⟩
    · exact h.elim
def sliceK (T : Tab P) (E : Nat → Option D) (H : Nat → Ob) (t : Nat) (x : Operand) (lo hi mx : Option Operand) (K : D → Prop) : Prop :=
  match mx with
  | some _ => False
  | none =>
    match ev T E t x, (T.ty t).d with
    | some (.v (.str s)), .str => boundK (optE T E hi) s.size (fun h => boundK (optE T E lo) 0 (fun l => 0 ≤ l ∧ l ≤ h ∧ h ≤ s.size ∧ K (.v (.str (s.extract l.toNat h.toNat)))) lo) hi
    | some (.v (.sl sz z xs)), .slice e => match (T.ty e).size == sz with
      | true => boundK (optE T E hi) xs.length (fun h => boundK (optE T E lo) 0 (fun l => 0 ≤ l ∧ l ≤ h ∧ h ≤ xs.length ∧ K (.v (.sl sz z ((xs.take h.toNat).drop l.toNat)))) lo) hi
      | false => False
    | some (.arr p o n), .slice e => match H p with
      | .arr sz rows => match (T.ty e).size == sz with
        | true => boundK (optE T E hi) n (fun h => boundK (optE T E lo) 0 (fun l => 0 ≤ l ∧ l ≤ h ∧ (h ≤ n ∨ o + h ≤ rows.length) ∧ K (.arr p (o + l.toNat) (h.toNat - l.toNat))) lo) hi
        | false => False
      | _ => False
    | _, _ => False
theorem addr_add (b o n : Nat) : (⟨b, o, none⟩ : Addr).add n = ⟨b, o + n, none⟩ := by unfold Addr.add; split <;> simp_all
theorem VRows.drop {sz : Nat} : ∀ {xs : List (List V)} {vs : List Value} (n : Nat), (∀ r ∈ xs, r.length = sz) → VRows X w xs vs → VRows X w (xs.drop n) (vs.drop (n * sz))
  | xs, vs, 0, _, h => by simpa using h
  | [], vs, n + 1, _, h => trivial
  | r :: xs, vs, n + 1, hs, h => by
    have := VRows.drop n (fun r hr => hs r (List.mem_cons_of_mem _ hr)) h.2
    rw [hs r List.mem_cons_self, List.drop_drop] at this
    rwa [Nat.add_mul, Nat.one_mul, Nat.add_comm (n * sz)]
theorem VRows.take : ∀ {xs : List (List V)} {vs : List Value} (n : Nat), VRows X w xs vs → VRows X w (xs.take n) vs
  | xs, vs, 0, h => trivial
  | [], vs, n + 1, h => trivial
  | r :: xs, vs, n + 1, h => ⟨h.1, VRows.take n h.2⟩
theorem VCell.slice_cut {sz : Nat} {z : Bool} {xs : List (List V)} {v : Value} (hv : VCell X w (.sl sz z xs) v) {l h : Nat} (hl : l ≤ h) (hh : h ≤ xs.length) :
    ∃ A c, v = .slice A xs.length c ∧ xs.length ≤ c ∧ VCell X w (.sl sz z ((xs.take h).drop l)) (.slice (if c = l then A else A.map (·.add (l * sz))) (h - l) (c - l)) := by
  obtain ⟨h0, hr, hm, hz, A, c, rfl, hlc, hc, hx⟩ := hv
  refine ⟨A, c, rfl, hlc, h0, ?_, ?_, ?_, (if c = l then A else A.map (·.add (l * sz))), c - l, ?_, ?_, ?_, ?_⟩
  · intro r hm; exact hr r (List.mem_of_mem_take (List.mem_of_mem_drop hm))
  · simp; omega
  · intro hz1
    obtain ⟨A', e⟩ := hz hz1
    injection e with e1 e2 e3
    subst e1 e3
    have : h = 0 := by omega
    have : l = 0 := by omega
    subst_vars
    exact ⟨A, by simp⟩
  · simp; omega
  · simp; omega
  · omega
  · intro hne
    have : l < h := by
      rcases Nat.lt_or_ge l h with h' | h'
      · exact h'
      · exfalso; apply hne; simp; omega
    obtain ⟨b, o, cs, t, fr, hA, hX, hh, hR⟩ := hx (by intro e; rw [e] at hh; simp at hh; omega)
    refine ⟨b, o + l * sz, cs, t, fr, ?_, hX, hh, ?_⟩
    · rw [if_neg (by omega), hA]; simp [addr_add]
    · have := VRows.drop l (fun r hm => (hr r (List.mem_of_mem_take hm)).1) (VRows.take h hR)
      rwa [List.drop_drop] at this
theorem sliceK_val {t : Nat} {x : Operand} {lo hi mx : Option Operand} {J : D → Prop} (h : sliceK T E H t x lo hi mx J) (ho : o.op = .slice t x lo hi mx) : ∃ d, J d ∧ Val T o E H d := by
  unfold sliceK at h
  cases mx with
  | some _ => exact h.elim
  | none =>
    simp only at h
    split at h
    · rename_i s hx hd
      obtain ⟨hb, h, bh⟩ := boundK_val (H := H) h
      obtain ⟨lb, h, bl⟩ := boundK_val (H := H) h
      obtain ⟨h0, h1, h2, hJ⟩ := h
      refine ⟨_, hJ, fun X ρ w a r => ?_⟩
      have hv := ev_cell r hx
      unfold DCell VCell at hv
      refine ⟨_, ?_, rfl⟩
      simp only [execOp, ho, hv, Sem.run_bind, Instr.sliceAt, run_underlying (T.str hd), Result.andThen_ok, Instr.slice, Option.map_none]
      simp [run_sliceBounds (bl X ρ w a r) (bh X ρ w a r) h0 h1 h2]
    · rename_i sz z xs e hx hd
      split at h
      · rename_i hsz
        have hsz : (T.ty e).size = sz := by simpa using hsz
        obtain ⟨hb, h, bh⟩ := boundK_val (H := H) h
        obtain ⟨lb, h, bl⟩ := boundK_val (H := H) h
        obtain ⟨h0, h1, h2, hJ⟩ := h
        refine ⟨_, hJ, fun X ρ w a r => ?_⟩
        have hv := ev_cell r hx
        unfold DCell at hv
        have hpos : 0 < sz := by unfold VCell at hv; exact hv.1
        obtain ⟨A, c, e1, e2, e3⟩ := VCell.slice_cut hv (l := lb.toNat) (h := hb.toNat) (by omega) (by omega)
        refine ⟨_, ?_, e3⟩
        simp only [execOp, ho, e1, Sem.run_bind, Instr.sliceAt, run_underlying (T.slice hd), Result.andThen_ok, Instr.slice, Option.map_none]
        rw [run_sliceBounds (bl X ρ w a r) (bh X ρ w a r) h0 h1 (by omega)]
        simp only [Result.andThen_ok, Sem.run_bind, T.run_size (by omega : 0 < (T.ty e).size), hsz, Sem.run_pure]
      · exact h.elim
    · rename_i p o' n e hx hd
      split at h
      · rename_i sz rows hp
        split at h
        · rename_i hsz
          have hsz : (T.ty e).size = sz := by simpa using hsz
          obtain ⟨hb, h, bh⟩ := boundK_val (H := H) h
          obtain ⟨lb, h, bl⟩ := boundK_val (H := H) h
          obtain ⟨h0, h1, h2, hJ⟩ := h
          refine ⟨_, hJ, fun X ρ w a r => ?_⟩
          have hv := ev_cell r hx
          have hob := r.obs p
          rw [hp] at hob
          unfold ObOK at hob
          obtain ⟨hz0, _, _, hob⟩ := hob
          unfold DCell at hv
          have run : ∀ (A : Option Addr) (cap : Nat), hb.toNat ≤ cap → a.eval x = .slice A n cap → (execOp a.eval o).run P w = .ok (.value (.slice (if cap = lb.toNat then A else A.map (·.add (lb.toNat * sz))) (hb.toNat - lb.toNat) (cap - lb.toNat))) w := by
            intro A cap hcap he
            simp only [execOp, ho, he, Sem.run_bind, Instr.sliceAt, run_underlying (T.slice hd), Result.andThen_ok, Instr.slice, Option.map_none]
            rw [run_sliceBounds (bl X ρ w a r) (bh X ρ w a r) h0 h1 (by omega)]
            simp only [Result.andThen_ok, Sem.run_bind, T.run_size (by omega : 0 < (T.ty e).size), hsz, Sem.run_pure]
          cases hq : ρ p with
          | hole => simp only [hq] at hv
          | dead => simp only [hq] at hob
          | null =>
            simp only [hq] at hv hob
            obtain ⟨⟨A, hv⟩, rfl, rfl⟩ := hv
            subst hob
            simp only [List.length_nil] at h2
            refine ⟨_, run A 0 (by omega) hv, ?_⟩
            have h3 : hb.toNat = 0 := by omega
            have h4 : lb.toNat = 0 := by omega
            unfold DCell
            simp [hq, h3, h4]
          | live b s cap =>
            simp only [hq] at hv hob
            obtain ⟨rfl, hrc, _⟩ := hob
            obtain ⟨hv1, hv2, hv3⟩ := hv
            by_cases hoc : o' < cap
            · refine ⟨_, run _ _ (by omega) (hv2 hoc), ?_⟩
              unfold DCell
              simp only [hq]
              refine ⟨by omega, fun hlt => ?_, fun heq => ?_⟩
              · rw [if_neg (by omega)]
                simp only [Option.map_some, addr_add]
                congr 1
                · congr 2; rw [Nat.add_mul]
                · omega
              · have h5 : hb.toNat - lb.toNat = 0 := by omega
                have h6 : cap - o' - lb.toNat = 0 := by omega
                rw [h5, h6, if_pos (by omega)]
                exact ⟨_, rfl⟩
            · obtain ⟨A, hA⟩ := hv3 (by omega)
              have hn : n = 0 := by omega
              subst hn
              have h3 : hb.toNat = 0 := by omega
              have h4 : lb.toNat = 0 := by omega
              refine ⟨_, run _ 0 (by omega) hA, ?_⟩
              unfold DCell
              simp only [hq]
              refine ⟨by omega, fun hlt => by omega, fun heq => ?_⟩
              simp [h3, h4]
        · exact h.elim
      · exact h.elim
    · exact h.elim

/-! ##### the table -/
def fieldK (T : Tab P) (s f : Nat) (K : Nat → Nat → Prop) : Prop :=
  match (T.ty s).d with
  | .struct fs => match fs[f]? with | some (t, off) => K t off | none => False
  | _ => False
theorem fieldK_at {s f : Nat} {J : Nat → Nat → Prop} (h : fieldK T s f J) : ∃ (fs : Array Field) (g : Field), P.underlying s = some (.struct fs) ∧ fs[f]? = some g ∧ J g.type g.offset := by
  unfold fieldK at h
  split at h
  · rename_i fs hd
    obtain ⟨gs, hu, rfl⟩ := T.struct hd
    split at h
    · rename_i t off hf
      simp at hf
      obtain ⟨g, hg, rfl, rfl⟩ := hf
      exact ⟨gs, g, hu, by simpa using hg, h⟩
    · exact h.elim
  · exact h.elim
/-- A byte of a string, as Go's index reads it. -/
def sAt (s : ByteArray) (i : Nat) : Int := ((s.data.toList.getD i 0).toNat : Int)
def indexAddrK (T : Tab P) (E : Nat → Option D) (H : Nat → Ob) (t : Nat) (x ix : Operand) (K : D → Prop) : Prop :=
  match (T.ty t).d, ev T E t x, ev T E 0 ix with
  | .slice e, some (.v (.sl sz _ xs)), some (.v (.int _ i)) => match (T.ty e).size == sz with
    | true => 0 ≤ i ∧ ∃ r, xs[i.toNat]? = some r ∧ K (.v (.iptr r))
    | false => False
  | .slice e, some (.arr p o n), some (.v (.int _ i)) => match H p with
    | .arr sz _ => match (T.ty e).size == sz with
      | true => 0 ≤ i ∧ i < n ∧ K (.ptr p (o + i.toNat) 0)
      | false => False
    | _ => False
  | .array n e, some (.v (.iptr cs)), some (.v (.int _ i)) => match (T.ty e).size with
    | 0 => False
    | m + 1 => 0 ≤ i ∧ i < n ∧ K (.v (.iptr (cs.drop (i.toNat * (m + 1)))))
  | .array n e, some (.ptr p a b), some (.v (.int _ i)) => match (T.ty e).size with
    | 0 => False
    | m + 1 => match H p with | .arr _ _ => 0 ≤ i ∧ i < n ∧ K (.ptr p a (b + i.toNat * (m + 1))) | _ => False
  | _, _, _ => False
def minmaxK (mx : Bool) : List (Option D) → (D → Prop) → Prop
  | [some (.v (.int k a)), some (.v (.int k' b))], K => match IntKind.same k k', mx with
    | true, true => K (.v (.int k (if b > a then b else a)))
    | true, false => K (.v (.int k (if b < a then b else a)))
    | false, _ => False
  | _, _ => False
def valK (T : Tab P) (E : Nat → Option D) (H : Nat → Ob) (o : Oper) (K : D → Prop) : Prop :=
  match o.op with
  | .move x | .assign x => match ev T E o.type x with | some d => K d | none => False
  | .pick c x y => match ev T E 0 c with
    | some (.v (.bool p)) => match ev T E o.type x, ev T E o.type y with
      | some (.v (.bool q)), some (.v (.bool q')) => K (.v (.bool (bif p then q else q')))
      | dx, dy => Br p (match dx with | some d => K d | none => False) (match dy with | some d => K d | none => False)
    | _ => False
  | .binOp op xt x y _ => match (T.ty xt).d with
    | .struct fs => match ev T E xt x, ev T E xt y with
      | some dx, some dy => match dx.toV, dy.toV, (T.ty xt).eqok, flatFs T 0 fs with
        | some (.agg xs), some (.agg ys), true, true => match eqCells T fs xs ys, op with
          | some b, .eql => K (.v (.bool b))
          | some b, .neq => K (.v (.bool (!b)))
          | _, _ => False
        | _, _, _, _ => False
      | _, _ => False
    | ty => match ev T E xt x, ev T E xt y with
      | some (.v a), some (.v b) => binV ty op a b fun z => K (.v z)
      | _, _ => False
  | .unOp op t x => match op, ev T E t x with
    | .not, some (.v (.bool b)) => K (.v (.bool (!b)))
    | .neg, some (.v (.int k n)) => K (.v (.int k (k.wrap (0 - n))))
    | _, _ => False
  | .convert s t x => match ev T E s x, (T.ty s).d, (T.ty t).d with
    | some (.v (.int _ n)), .int _, .int k => K (.v (.int k (k.wrap n)))
    | some (.v (.str b)), .str, .str => K (.v (.str b))
    | some (.v (.int _ n)), .int _, .str => K (.v (.str (Utf8.encode n)))
    | _, _, _ => False
  | .fieldAddr s x f => fieldK T s f fun t off => match (T.ty t).size with
    | 0 => False
    | _ + 1 => match ev T E 0 x with
      | some (.ptr p i j) => match H p with | .arr _ _ => K (.ptr p i (j + off)) | _ => False
      | some (.v (.iptr cs)) => K (.v (.iptr (cs.drop off)))
      | _ => False
  | .field s x f => fieldK T s f fun t off => match ev T E 0 x with
      | some (.agg cs) => partK T t off cs K
      | some (.v (.agg cs)) => partK T t off (cs.map .v) K
      | _ => False
  | .indexAddr t x ix => indexAddrK T E H t x ix K
  | .index t x ix => match (T.ty t).d, ev T E t x, ev T E 0 ix with
    | .str, some (.v (.str s)), some (.v (.int _ i)) => 0 ≤ i ∧ i.toNat < s.size ∧ K (.v (.int .u8 (sAt s i.toNat)))
    | _, _, _ => False
  | .slice t x lo hi mx => sliceK T E H t x lo hi mx K
  | .extract x i => match ev T E 0 x with
    | some (.tup ds) => match ds[i]? with | some d => K d | none => False
    | some (.v (.tup cs)) => match cs[i]? with | some c => K (.v c) | none => False
    | _ => False
  | .load t x => derefK H (ev T E 0 x) fun cs => partK T t 0 cs K
  | .nilCheck x => match ev T E 0 x with
    | some (.ptr p i j) => match H p with | .arr _ _ => K (.ptr p i j) | _ => False
    | some (.v (.iptr cs)) => K (.v (.iptr cs))
    | _ => False
  | .call c => match c.callee, c.args.toList, c.argTypes.toList with
    | .builtin .len, [x], t :: _ => match (T.ty t).d, ev T E t x with
      | .str, some (.v (.str s)) => K (.v (.int .i64 s.size))
      | .slice _, some (.v (.sl _ _ xs)) => K (.v (.int .i64 xs.length))
      | .slice _, some (.arr p a n) => match H p with | .arr _ _ => K (.v (.int .i64 n)) | _ => False
      | .array n _, _ => K (.v (.int .i64 n))
      | _, _ => False
    | .builtin .min, l, _ => minmaxK false (l.map (ev T E 0)) K
    | .builtin .max, l, _ => minmaxK true (l.map (ev T E 0)) K
    | _, _, _ => False
  | _ => False
theorem val_of {d : D} (h : ∀ X ρ w (a : Act), Real T.glob X ρ w E H a.tmps → ∃ v, (execOp a.eval o).run P w = .ok (.value v) w ∧ DCell X ρ w d v) : Val T o E H d := h
theorem run_fieldPlace {b off : Nat} {g : Field} (hs : 0 < (T.ty g.type).size) : (fieldPlace ⟨b, off, none⟩ g).run P w = .ok ⟨b, off + g.offset, none⟩ w := by
  simp only [fieldPlace, Sem.run_bind, T.run_size hs, Result.andThen_ok]
  rw [if_neg (by omega), addr_add]
  rfl
theorem ptr_live {tmps : Array Value} (r : Real T.glob X ρ w E H tmps) {p i j sz : Nat} {rows : List (List D)} (hp : H p = .arr sz rows) {v : Value} (hv : DCell X ρ w (.ptr p i j) v) :
    ∃ b s cap, ρ p = .live b s cap ∧ v = .pointer (some ⟨b, i * s + j, none⟩) := by
  have hob := r.obs p
  rw [hp] at hob
  unfold ObOK at hob
  unfold DCell at hv
  cases hq : ρ p with
  | hole => simp only [hq] at hv
  | null => simp only [hq] at hv
  | dead => simp only [hq] at hob; exact hob.2.2.2.elim
  | live b s cap => simp only [hq] at hv; exact ⟨b, s, cap, rfl, hv⟩
theorem indexAddrK_val {t : Nat} {x ix : Operand} {J : D → Prop} (h : indexAddrK T E H t x ix J) (ho : o.op = .indexAddr t x ix) : ∃ d, J d ∧ Val T o E H d := by
  unfold indexAddrK at h
  split at h
  · rename_i e sz z xs k i hd hx hi
    split at h
    · rename_i hsz
      have hsz : (T.ty e).size = sz := by simpa using hsz
      obtain ⟨h0, row, hrow, hJ⟩ := h
      refine ⟨_, hJ, fun X ρ w a r => ?_⟩
      have hv := ev_cell r hx
      have hn := ev_cell r hi
      unfold DCell VCell at hv hn
      obtain ⟨h1, hr, _, _, A, c, hv, hlc, hc, hne⟩ := hv
      have hlt : i.toNat < xs.length := (List.getElem?_eq_some_iff.1 hrow).1
      obtain ⟨b, off, cs, ty, fr, rfl, hX, hh, hR⟩ := hne (by intro e; rw [e] at hlt; simp at hlt)
      refine ⟨.pointer (some ⟨b, off + i.toNat * sz, none⟩), ?_, b, off + i.toNat * sz, cs, ty, fr, rfl, hX, hh, ?_⟩
      · simp only [execOp, ho, hv, hn, Instr.indexAt, asIntOf, Sem.run_bind, Sem.run_pure, Result.andThen_ok, run_underlying (T.slice hd)]
        rw [if_pos ⟨h0, by omega⟩]
        simp only [Sem.run_bind, T.run_size (by omega : 0 < (T.ty e).size), Result.andThen_ok, hsz, Sem.run_pure, addr_add]
      · have := VRows.get (fun r hm => (hr r hm).1) hR hrow
        rwa [List.drop_drop] at this
    · exact h.elim
  · rename_i e p o' n k i hd hx hi
    split at h
    · rename_i sz rows hp
      split at h
      · rename_i hsz
        have hsz : (T.ty e).size = sz := by simpa using hsz
        obtain ⟨h0, h1, hJ⟩ := h
        refine ⟨_, hJ, fun X ρ w a r => ?_⟩
        have hv := ev_cell r hx
        have hn := ev_cell r hi
        have hob := r.obs p
        rw [hp] at hob
        unfold ObOK at hob
        obtain ⟨hz0, _, _, hob⟩ := hob
        unfold DCell at hv hn
        unfold VCell at hn
        cases hq : ρ p with
        | hole => simp only [hq] at hv
        | dead => simp only [hq] at hob
        | null => simp only [hq] at hv; omega
        | live b s cap =>
          simp only [hq] at hv hob
          obtain ⟨rfl, _⟩ := hob
          obtain ⟨hv1, hv2, hv3⟩ := hv
          have hv := hv2 (by omega)
          refine ⟨.pointer (some ⟨b, o' * s + i.toNat * s, none⟩), ?_, ?_⟩
          · simp only [execOp, ho, hv, hn, Instr.indexAt, asIntOf, Sem.run_bind, Sem.run_pure, Result.andThen_ok, run_underlying (T.slice hd)]
            rw [if_pos ⟨h0, by omega⟩]
            simp only [Sem.run_bind, T.run_size (by omega : 0 < (T.ty e).size), Result.andThen_ok, hsz, Sem.run_pure, addr_add]
          · unfold DCell
            simp only [hq, Nat.add_mul, Nat.add_zero]
      · exact h.elim
    · exact h.elim
  · rename_i n e cs k i hd hx hi
    split at h
    · exact h.elim
    · rename_i m hm
      obtain ⟨h0, h1, hJ⟩ := h
      refine ⟨_, hJ, fun X ρ w a r => ?_⟩
      have hv := ev_cell r hx
      have hn := ev_cell r hi
      unfold DCell VCell at hv hn
      obtain ⟨b, off, arr, ty, fr, hv, hX, hh, hc⟩ := hv
      refine ⟨.pointer (some ⟨b, off + i.toNat * (m + 1), none⟩), ?_, b, off + i.toNat * (m + 1), arr, ty, fr, rfl, hX, hh, ?_⟩
      · simp only [execOp, ho, hv, hn, Instr.indexAt, Instr.sureAddr, asIntOf, Sem.run_bind, Sem.run_pure, Result.andThen_ok, run_underlying (T.array hd)]
        rw [if_pos ⟨h0, by omega⟩]
        simp only [Sem.run_bind, T.run_size (by omega : 0 < (T.ty e).size), Result.andThen_ok, hm, Sem.run_pure, addr_add]
      · have := VCells.drop (i.toNat * (m + 1)) hc
        rwa [List.drop_drop] at this
  · rename_i n e p a' b' k i hd hx hi
    split at h
    · exact h.elim
    · rename_i m hm
      split at h
      · rename_i sz rows hp
        obtain ⟨h0, h1, hJ⟩ := h
        refine ⟨_, hJ, fun X ρ w a r => ?_⟩
        have hv := ev_cell r hx
        have hn := ev_cell r hi
        unfold DCell at hn
        unfold VCell at hn
        obtain ⟨b, s, cap, hq, hv⟩ := ptr_live r hp hv
        refine ⟨.pointer (some ⟨b, a' * s + b' + i.toNat * (m + 1), none⟩), ?_, ?_⟩
        · simp only [execOp, ho, hv, hn, Instr.indexAt, Instr.sureAddr, asIntOf, Sem.run_bind, Sem.run_pure, Result.andThen_ok, run_underlying (T.array hd)]
          rw [if_pos ⟨h0, by omega⟩]
          simp only [Sem.run_bind, T.run_size (by omega : 0 < (T.ty e).size), Result.andThen_ok, hm, Sem.run_pure, addr_add]
        · unfold DCell
          simp only [hq, Nat.add_assoc]
      · exact h.elim
  · exact h.elim
theorem arr_slice {tmps : Array Value} (r : Real T.glob X ρ w E H tmps) {p a n sz : Nat} {rows : List (List D)} (hp : H p = .arr sz rows) {v : Value} (hv : DCell X ρ w (.arr p a n) v) :
    ∃ A c, v = .slice A n c := by
  have hob := r.obs p
  rw [hp] at hob
  unfold ObOK at hob
  unfold DCell at hv
  cases hq : ρ p with
  | hole => simp only [hq] at hv
  | null => simp only [hq] at hv; obtain ⟨⟨A, rfl⟩, rfl, rfl⟩ := hv; exact ⟨_, _, rfl⟩
  | dead => simp only [hq] at hob; exact hob.2.2.2.elim
  | live b s cap =>
    simp only [hq] at hv
    obtain ⟨h1, h2, h3⟩ := hv
    by_cases hc : a < cap
    · exact ⟨_, _, h2 hc⟩
    · obtain ⟨A, hA⟩ := h3 (by omega)
      have : n = 0 := by omega
      subst this
      exact ⟨_, _, hA⟩
theorem minmax_val {mx : Bool} {c : Call} {J : D → Prop} (h : minmaxK mx (c.args.toList.map (ev T E 0)) J)
    (run : ∀ (a : Act) (w : World), ∃ cs, (execOp a.eval o).run P w = (builtin (if mx then .max else .min) c.argTypes o.type cs (c.args.map a.eval)).run P w) : ∃ d, J d ∧ Val T o E H d := by
  unfold minmaxK at h
  split at h
  · rename_i k x k' y hl
    have hl2 : ∃ p q, c.args.toList = [p, q] ∧ ev T E 0 p = some (.v (.int k x)) ∧ ev T E 0 q = some (.v (.int k' y)) := by
      cases hc : c.args.toList with
      | nil => rw [hc] at hl; simp at hl
      | cons p r1 => cases r1 with
        | nil => rw [hc] at hl; simp at hl
        | cons q r2 => cases r2 with
          | nil => rw [hc] at hl; simp at hl; exact ⟨p, q, rfl, hl.1, hl.2⟩
          | cons _ _ => rw [hc] at hl; simp at hl
    obtain ⟨p, q, hc, hp, hq⟩ := hl2
    split at h
    · rename_i hs
      have := IntKind.same_eq hs; subst this
      refine ⟨_, h, fun X ρ w a r => ⟨.int k (if y > x then y else x), ?_, rfl⟩⟩
      have h1 := ev_cell r hp
      have h2 := ev_cell r hq
      unfold DCell VCell at h1 h2
      obtain ⟨cs, e⟩ := run a w
      rw [e]
      have : c.args.map a.eval = #[.int k x, .int k y] := by rw [← Array.toList_inj]; simp [hc, h1, h2]
      rw [this]
      simp [builtin, Builtin.max_, Builtin.max2]
    · rename_i hs
      have := IntKind.same_eq hs; subst this
      refine ⟨_, h, fun X ρ w a r => ⟨.int k (if y < x then y else x), ?_, rfl⟩⟩
      have h1 := ev_cell r hp
      have h2 := ev_cell r hq
      unfold DCell VCell at h1 h2
      obtain ⟨cs, e⟩ := run a w
      rw [e]
      have : c.args.map a.eval = #[.int k x, .int k y] := by rw [← Array.toList_inj]; simp [hc, h1, h2]
      rw [this]
      simp [builtin, Builtin.min_, Builtin.min2]
    · exact h.elim
  · exact h.elim
theorem binV_all {ty : Ty} {op : BinOp} {x y : V} {J : V → Prop} {t : Nat} (h : binV ty op x y J) (hty : ty = .bool → P.underlying t = some .bool) :
    ∃ z, J z ∧ ∀ X w u v xo yo, VCell X w x u → VCell X w y v → ∃ r, (do eqGuard op t xo yo u v; binOp op t u v : Sem Value).run P w = .ok r w ∧ VCell X w z r := by
  have key : ∃ z, J z ∧ binV ty op x y (· = z) := by
    unfold binV at h ⊢
    repeat' first
      | exact h.elim
      | exact ⟨_, h, rfl⟩
      | exact ⟨_, h.2, h.1, rfl⟩
      | split at h
  obtain ⟨z, hJ, hz⟩ := key
  refine ⟨z, hJ, fun X w u v xo yo hu hv => ?_⟩
  obtain ⟨z', rfl, r, hr, hc⟩ := binV_run hz hty X w u v xo yo hu hv
  exact ⟨r, hr, hc X w⟩
theorem valK_val {J : D → Prop} (h : valK T E H o J) : ∃ d, J d ∧ Val T o E H d := by
  unfold valK at h
  split at h
  · rename_i x ho
    split at h
    · rename_i d hd
      exact ⟨d, h, fun X ρ w a r => ⟨_, by simp [execOp, ho], ev_cell r hd⟩⟩
    · exact h.elim
  · rename_i x ho
    split at h
    · rename_i d hd
      exact ⟨d, h, fun X ρ w a r => ⟨_, by simp [execOp, ho], ev_cell r hd⟩⟩
    · exact h.elim
  · rename_i c x y ho
    split at h
    · rename_i p hc
      split at h
      · rename_i q q' hx hy
        refine ⟨_, h, fun X ρ w a r => ?_⟩
        have h1 := ev_cell r hc
        have h2 := ev_cell r hx
        have h3 := ev_cell r hy
        unfold DCell VCell at h1 h2 h3
        refine ⟨.bool (bif p then q else q'), ?_, rfl⟩
        simp only [execOp, ho, h1, h2, h3, asBool, Sem.run_bind, Sem.run_pure, Result.andThen_ok]
        cases p <;> rfl
      · cases p with
        | true =>
          have h := h.t rfl
          split at h
          · rename_i d hd
            refine ⟨d, h, fun X ρ w a r => ⟨_, ?_, ev_cell r hd⟩⟩
            have h1 := ev_cell r hc
            unfold DCell VCell at h1
            simp only [execOp, ho, h1, asBool, Sem.run_bind, Sem.run_pure, Result.andThen_ok, if_true]
          · exact h.elim
        | false =>
          have h := h.f rfl
          split at h
          · rename_i d hd
            refine ⟨d, h, fun X ρ w a r => ⟨_, ?_, ev_cell r hd⟩⟩
            have h1 := ev_cell r hc
            unfold DCell VCell at h1
            simp only [execOp, ho, h1, asBool, Sem.run_bind, Sem.run_pure, Result.andThen_ok, Bool.false_eq_true, if_false]
          · exact h.elim
    · exact h.elim
  · rename_i op xt x y yt ho
    split at h
    · rename_i fs hd
      split at h
      · rename_i dx dy hx hy
        split at h
        · rename_i xs ys hvx hvy hok hfl
          have key : ∀ b, eqCells T fs xs ys = some b → ∀ X ρ w (a : Act), Real T.glob X ρ w E H a.tmps → ∃ us vs : List Value, a.eval x = .agg us.toArray ∧ a.eval y = .agg vs.toArray ∧
              (∀ q : BinOp, (eqGuard q xt x y (.agg us.toArray) (.agg vs.toArray)).run P w = .ok () w) ∧ (Op.equal xt (.agg us.toArray) (.agg vs.toArray)).run P w = .ok b w := by
            intro b hb X ρ w a r
            obtain ⟨us, hu, _, hcu⟩ := D.toV_cell _ hvx (ev_cell r hx)
            obtain ⟨vs, hv, _, hcv⟩ := D.toV_cell _ hvy (ev_cell r hy)
            exact ⟨us, vs, hu, hv, fun q => (eqStruct_run hd hok hfl hb hcu hcv x y q).1, (eqStruct_run hd hok hfl hb hcu hcv x y .eql).2⟩
          split at h
          · rename_i b hb
            refine ⟨_, h, fun X ρ w a r => ?_⟩
            obtain ⟨us, vs, hu, hv, hg, he⟩ := key b hb X ρ w a r
            exact ⟨.bool b, by simp only [execOp, ho, hu, hv, Sem.run_bind, hg, Result.andThen_ok, binOp, he, Sem.run_pure], rfl⟩
          · rename_i b hb
            refine ⟨_, h, fun X ρ w a r => ?_⟩
            obtain ⟨us, vs, hu, hv, hg, he⟩ := key b hb X ρ w a r
            exact ⟨.bool (!b), by simp only [execOp, ho, hu, hv, Sem.run_bind, hg, Result.andThen_ok, binOp, he, Sem.run_pure], rfl⟩
          · exact h.elim
        · exact h.elim
      · exact h.elim
    · rename_i ty hns
      split at h
      · rename_i u v hx hy
        obtain ⟨z, hz, hall⟩ := binV_all (P := P) (t := xt) h (fun e => T.bool (by assumption))
        refine ⟨_, hz, fun X ρ w a r => ?_⟩
        obtain ⟨q, hq, hc⟩ := hall X w _ _ x y (ev_cell r hx) (ev_cell r hy)
        refine ⟨q, ?_, hc⟩
        simp only [execOp, ho]
        rw [Sem.run_bind, hq]
        rfl
      · exact h.elim
  · rename_i op t x ho
    split at h
    · rename_i b hx
      refine ⟨_, h, fun X ρ w a r => ⟨.bool (!b), ?_, rfl⟩⟩
      have h1 := ev_cell r hx
      unfold DCell VCell at h1
      simp [execOp, ho, h1, Op.unary]
    · rename_i k n hx
      refine ⟨_, h, fun X ρ w a r => ⟨.int k (k.wrap (0 - n)), ?_, rfl⟩⟩
      have h1 := ev_cell r hx
      unfold DCell VCell at h1
      simp [execOp, ho, h1, Op.unary, Op.intArith]
    · exact h.elim
  · rename_i s t x ho
    split at h
    · rename_i k n k1 k2 hx hs ht
      refine ⟨_, h, fun X ρ w a r => ⟨.int k2 (k2.wrap n), ?_, rfl⟩⟩
      have h1 := ev_cell r hx
      unfold DCell VCell at h1
      simp [execOp, ho, h1, convert, run_underlying (T.int hs), run_underlying (T.int ht), Conv.intToInt]
    · rename_i b hx hs ht
      refine ⟨_, h, fun X ρ w a r => ⟨.string b, ?_, rfl⟩⟩
      have h1 := ev_cell r hx
      unfold DCell VCell at h1
      simp [execOp, ho, h1, convert, run_underlying (T.str hs), run_underlying (T.str ht)]
    · rename_i k n k1 hx hs ht
      refine ⟨_, h, fun X ρ w a r => ⟨.string (Utf8.encode n), ?_, rfl⟩⟩
      have h1 := ev_cell r hx
      unfold DCell VCell at h1
      simp [execOp, ho, h1, convert, run_underlying (T.int hs), run_underlying (T.str ht), Conv.intToString]
    · exact h.elim
  · rename_i s x f ho
    obtain ⟨fs, g, hu, hg, h⟩ := fieldK_at h
    split at h
    · exact h.elim
    · rename_i m hm
      have hs : 0 < (T.ty g.type).size := by rw [hm]; omega
      split at h
      · rename_i p i j hx
        split at h
        · rename_i sz rows hp
          refine ⟨_, h, fun X ρ w a r => ?_⟩
          obtain ⟨b, s', cap, hq, hv⟩ := ptr_live r hp (ev_cell r hx)
          refine ⟨.pointer (some ⟨b, i * s' + j + g.offset, none⟩), ?_, ?_⟩
          · simp only [execOp, ho, hv, Instr.fieldAt, Instr.sureAddr, Sem.run_bind, Sem.run_pure, Result.andThen_ok, run_underlying hu, hg]
            rw [run_fieldPlace hs]
            simp
          · unfold DCell
            simp only [hq, Nat.add_assoc]
        · exact h.elim
      · rename_i cs hx
        refine ⟨_, h, fun X ρ w a r => ?_⟩
        have hv := ev_cell r hx
        unfold DCell VCell at hv
        obtain ⟨b, off, arr, ty, fr, hv, hX, hh, hc⟩ := hv
        refine ⟨.pointer (some ⟨b, off + g.offset, none⟩), ?_, b, off + g.offset, arr, ty, fr, rfl, hX, hh, ?_⟩
        · simp only [execOp, ho, hv, Instr.fieldAt, Instr.sureAddr, Sem.run_bind, Sem.run_pure, Result.andThen_ok, run_underlying hu, hg]
          rw [run_fieldPlace hs]
          simp
        · have := VCells.drop g.offset hc
          rwa [List.drop_drop] at this
      · exact h.elim
  · rename_i s x f ho
    obtain ⟨fs, g, hu, hg, h⟩ := fieldK_at h
    split at h
    · rename_i cs hx
      have h2 : ∃ d, J d ∧ ∀ X ρ w (vs : List Value), DCells X ρ w cs vs → vs.length = cs.length → ∃ v, (part g.type vs.toArray g.offset).run P w = .ok v w ∧ DCell X ρ w d v := partK_all h
      obtain ⟨d, hJ, hd⟩ := h2
      refine ⟨d, hJ, fun X ρ w a r => ?_⟩
      obtain ⟨vs, hv, hl, hc⟩ := ev_cell r hx
      obtain ⟨v, hv1, hv2⟩ := hd X ρ w vs hc hl
      exact ⟨v, by simp only [execOp, ho, hv, Instr.field, Sem.run_bind, run_underlying hu, Result.andThen_ok, hg, asAgg, Sem.run_pure, hv1], hv2⟩
    · rename_i cs hx
      obtain ⟨d, hJ, hd⟩ := partK_all h
      refine ⟨d, hJ, fun X ρ w a r => ?_⟩
      obtain ⟨vs, hv, hl, hc⟩ := ev_cell r hx
      obtain ⟨v, hv1, hv2⟩ := hd X ρ w vs (VCells.toD hc) (by simpa using hl)
      exact ⟨v, by simp only [execOp, ho, hv, Instr.field, Sem.run_bind, run_underlying hu, Result.andThen_ok, hg, asAgg, Sem.run_pure, hv1], hv2⟩
    · exact h.elim
  · rename_i t x ix ho
    exact indexAddrK_val h ho
  · rename_i t x ix ho
    split at h
    · rename_i s k i hd hx hi
      obtain ⟨h0, h1, h⟩ := h
      refine ⟨_, h, fun X ρ w a r => ⟨.int .u8 (sAt s i.toNat), ?_, rfl⟩⟩
      have hv := ev_cell r hx
      have hn := ev_cell r hi
      unfold DCell VCell at hv hn
      have : s[i.toNat]? = some (s[i.toNat]'h1) := by simp [h1]
      simp only [execOp, ho, hv, hn, Instr.index, asIntOf, Sem.run_bind, Sem.run_pure, Result.andThen_ok, run_underlying (T.str hd), if_pos h0]
      have e1 : s[i.toNat]? = some (s.data.toList.getD i.toNat 0) := by
        rw [getElem?_pos s i.toNat h1]
        have h2 : i.toNat < s.data.toList.length := by rw [Array.length_toList]; exact h1
        congr 1
        rw [List.getD_eq_getElem?_getD, List.getElem?_eq_getElem h2]
        simp
        rfl
      rw [e1]
      simp [sAt]
    · exact h.elim
  · rename_i t x lo hi mx ho
    exact sliceK_val h ho
  · rename_i x i ho
    split at h
    · rename_i ds hx
      split at h
      · rename_i d hd
        refine ⟨d, h, fun X ρ w a r => ?_⟩
        obtain ⟨vs, hv, hl, hc⟩ := ev_cell r hx
        obtain ⟨v, hv1, hv2⟩ := DCells.get hc hd
        refine ⟨v, ?_, hv2⟩
        have : vs.toArray[i]? = some v := by simpa using hv1
        simp [execOp, ho, hv, Instr.extract, this, hv1]
      · exact h.elim
    · rename_i cs hx
      split at h
      · rename_i d hd
        refine ⟨_, h, fun X ρ w a r => ?_⟩
        obtain ⟨vs, hv, hl, hc⟩ := ev_cell r hx
        obtain ⟨v, hv1, hv2⟩ := VCells.get hc hd
        refine ⟨v, ?_, hv2⟩
        have : vs.toArray[i]? = some v := by simpa using hv1
        simp [execOp, ho, hv, Instr.extract, this, hv1]
      · exact h.elim
    · exact h.elim
  · rename_i t x ho
    cases hx : ev T E 0 x with
    | none => rw [hx] at h; exact h.elim
    | some dx =>
      rw [hx] at h
      obtain ⟨cs, h, hall⟩ := derefK_all (T := T) (H := H) h
      obtain ⟨d, hJ, hd⟩ := partK_load h
      refine ⟨d, hJ, fun X ρ w a r => ?_⟩
      obtain ⟨b, off, arr, e, fr, hv, hh, hc⟩ := hall X ρ w E a.tmps r _ (ev_cell r hx)
      obtain ⟨v, hv1, hv2⟩ := hd X ρ w b off arr e fr hh hc
      exact ⟨v, by simp only [execOp, ho, hv, Instr.loadAt, Instr.sureAddr, Sem.run_bind, Sem.run_pure, Result.andThen_ok, hv1], hv2⟩
  · rename_i x ho
    split at h
    · rename_i p i j hx
      split at h
      · rename_i sz rows hp
        refine ⟨_, h, fun X ρ w a r => ?_⟩
        have hc := ev_cell r hx
        obtain ⟨b, s', cap, hq, hv⟩ := ptr_live r hp hc
        refine ⟨_, ?_, hc⟩
        rw [hv]
        simp [execOp, ho, hv]
      · exact h.elim
    · rename_i cs hx
      refine ⟨_, h, fun X ρ w a r => ?_⟩
      have hc := ev_cell r hx
      refine ⟨_, ?_, hc⟩
      obtain ⟨b, off, arr, ty, fr, hv, _⟩ := hc
      rw [hv]
      simp [execOp, ho, hv]
    · exact h.elim
  · rename_i c ho
    have run : ∀ (b : Builtin) (a : Act) (w : World), c.callee = .builtin b → ∃ cs, (execOp a.eval o).run P w = (builtin b c.argTypes o.type cs (c.args.map a.eval)).run P w := by
      intro b a w hb
      refine ⟨c.args.map fun | .const _ => true | _ => false, ?_⟩
      simp only [execOp, ho, resolve, hb, Sem.run_bind, Sem.run_pure, Result.andThen_ok, invoke]
      rfl
    split at h
    · rename_i x t ts hb hl htl
      have hargs : ∀ a : Act, c.args.map a.eval = #[a.eval x] := by
        intro a; rw [← Array.toList_inj]; simp [hl]
      have ht : c.argTypes[0]? = some t := by rw [← Array.getElem?_toList, htl]; rfl
      have fin : ∀ (n : Nat) (a : Act) (w : World), (Builtin.len_ c.argTypes o.type #[a.eval x]).run P w = .ok (goInt n) w → (execOp a.eval o).run P w = .ok (.value (.int .i64 n)) w := by
        intro n a w hn
        obtain ⟨cs, e⟩ := run _ a w hb
        rw [e, hargs]
        simp only [builtin, Sem.run_bind, hn, Result.andThen_ok, Sem.run_pure]
        rfl
      have z0 : ∀ v : Value, (#[v] : Array Value)[0]? = some v := fun v => rfl
      split at h
      · rename_i s hd hx
        refine ⟨_, h, fun X ρ w a r => ⟨_, fin s.size a w ?_, rfl⟩⟩
        have hv := ev_cell r hx
        unfold DCell VCell at hv
        simp only [Builtin.len_, ht, z0, Sem.run_bind, run_underlying (T.str hd), Result.andThen_ok, hv, Sem.run_pure]
      · rename_i e sz z xs hd hx
        refine ⟨_, h, fun X ρ w a r => ⟨_, fin xs.length a w ?_, rfl⟩⟩
        have hv := ev_cell r hx
        unfold DCell VCell at hv
        obtain ⟨_, _, _, _, A, cp, hv, _⟩ := hv
        simp only [Builtin.len_, ht, z0, Sem.run_bind, run_underlying (T.slice hd), Result.andThen_ok, hv, Sem.run_pure]
      · rename_i e p a' n hd hx
        split at h
        · rename_i sz rows hp
          refine ⟨_, h, fun X ρ w a r => ⟨_, fin n a w ?_, rfl⟩⟩
          have hv := ev_cell r hx
          obtain ⟨A, cp, hv⟩ := arr_slice r hp hv
          simp only [Builtin.len_, ht, z0, Sem.run_bind, run_underlying (T.slice hd), Result.andThen_ok, hv, Sem.run_pure]
        · exact h.elim
      · rename_i n e hd
        refine ⟨_, h, fun X ρ w a r => ⟨_, fin n a w ?_, rfl⟩⟩
        simp only [Builtin.len_, ht, z0, Sem.run_bind, run_underlying (T.array hd), Result.andThen_ok, Sem.run_pure]
      · exact h.elim
    · rename_i hb
      exact minmax_val (mx := false) h (fun a w => run _ a w hb)
    · rename_i hb
      exact minmax_val (mx := true) h (fun a w => run _ a w hb)
    · exact h.elim
  · exact h.elim
end
end Go.DL

/- DL, part 5: operations that make and write memory. Own work; no condition. -/
set_option linter.unusedVariables false
set_option linter.unusedSimpArgs false
namespace Go.DL
open Go.RowKit

section
variable {P : Program} {T : Tab P} {o : Oper} {E : Nat → Option D} {H : Nat → Ob}
variable {X X' : Nat → Prop} {ρ ρ' : Nat → Slot} {w w' : World}

/-! ##### steps -/
def setSlot (ρ : Nat → Slot) (p : Nat) (s : Slot) : Nat → Slot := fun q => if q = p then s else ρ q
theorem Step.new (m : Mem X ρ w) {p : Nat} (hp : ρ p = .hole) (sz cap : Nat) (x : Obj) (w1 : World) (hh : w1.heap = w.heap.push x) (ho : w1.os = w.os) (ht : w1.tape = w.tape) (hu : w1.output = w.output) :
    Step (fun q => q = p) X ρ w (fun b => X b ∨ b = w.heap.size) (setSlot ρ p (.live w.heap.size sz cap)) w1 := by
  refine ⟨ho, ht, hu, by rw [hh]; simp, ?_, ?_, ?_, fun b h => .inl (.inl h), ?_, ?_, ⟨?_, ?_, ?_⟩⟩
  · intro b hb _
    rw [hh, Array.getElem?_push, if_neg (by omega)]
  · intro q
    by_cases hq : q = p
    · subst hq; exact .inl hp
    · exact .inr (.inl (if_neg hq))
  · intro q hq; exact if_neg hq
  · rintro b (h | h)
    · exact .inl h
    · exact .inr (by omega)
  · intro q b s c h
    unfold setSlot at h
    split at h
    · injection h with h1 h2 h3; exact .inr (by omega)
    · exact .inl ⟨q, s, c, h⟩
  · rintro b (h | h)
    · have := m.lt b h; rw [hh]; simp; omega
    · rw [hh]; simp; omega
  · intro q b s c h
    unfold setSlot at h
    split at h
    · injection h with h1 h2 h3; exact .inr h1.symm
    · exact .inl (m.live q b s c h)
  · intro q q' b s c s' c' h h'
    unfold setSlot at h h'
    split at h <;> split at h'
    · subst_vars; rfl
    · injection h with h1 h2 h3
      have := m.lt b (m.live q' b s' c' h'); omega
    · injection h' with h1 h2 h3
      have := m.lt b (m.live q b s c h); omega
    · exact m.inj q q' b s c s' c' h h'
theorem Step.write (m : Mem X ρ w) {p b sz cap : Nat} (hp : ρ p = .live b sz cap) (cs : Array Value) : Step (fun q => q = p) X ρ w X ρ (w.setRow b cs) := by
  refine ⟨rfl, rfl, rfl, by simp, ?_, Slots.refl _, fun _ _ => rfl, fun _ h => .inl h, fun _ h => .inl h, fun q b s c h => .inl ⟨q, s, c, h⟩, ⟨fun b h => by simpa using m.lt b h, m.live, m.inj⟩⟩
  intro b' hb hn
  exact setRow_other w b b' cs (fun e => hn p sz cap rfl (e ▸ hp))

/-! ##### cells of a value -/
def D.cells1 : D → Option (List D)
  | .agg ds => some ds
  | .v (.agg cs) => some (cs.map .v)
  | d => bif d.one then some [d] else none
theorem cells_of_one {v : Value} (h : v.oneCell' = true) : v.cells = #[v] := by
  cases v <;> first | rfl | (simp [Value.oneCell'] at h)
theorem D.cells1_val {d : D} {cs : List D} (h : d.cells1 = some cs) {v : Value} (hv : DCell X ρ w d v) : DCells X ρ w cs v.cells.toList ∧ v.cells.size = cs.length := by
  unfold D.cells1 at h
  split at h
  · injection h with h; subst h
    obtain ⟨vs, rfl, hl, hc⟩ := hv
    exact ⟨by simpa [Value.cells] using hc, by simpa [Value.cells] using hl⟩
  · injection h with h; subst h
    obtain ⟨vs, rfl, hl, hc⟩ := hv
    exact ⟨by simpa [Value.cells] using VCells.toD hc, by simpa [Value.cells] using hl⟩
  · cases h1 : D.one d with
    | false => simp [h1] at h
    | true =>
      simp [h1] at h; subst h
      have := cells_of_one (DCell.one h1 hv)
      rw [this]
      exact ⟨⟨hv, trivial⟩, rfl⟩

/-! ##### fill -/
theorem foldl_splice (off : Nat) : ∀ (vs : List Value) (j : Nat) (cs : Array Value), off + j + vs.length ≤ cs.size →
    (((vs.zipIdx j).foldl (fun cs (x : Value × Nat) => cs.setIfInBounds (off + x.2) x.1) cs) : Array Value).toList = cs.toList.take (off + j) ++ vs ++ cs.toList.drop (off + j + vs.length)
  | [], j, cs, _ => by simp
  | v :: vs, j, cs, h => by
    simp only [List.zipIdx_cons, List.foldl_cons]
    have h0 : off + (j + 1) + vs.length ≤ (cs.setIfInBounds (off + j) v).size := by simp at h ⊢; omega
    rw [foldl_splice off vs (j + 1) _ h0]
    have hl : off + j < cs.toList.length := by simp at h ⊢; omega
    have e := list_seg_step cs.toList (off + j) v vs (by simp at h ⊢; omega)
    simpa [Array.toList_setIfInBounds, Nat.add_assoc, Nat.add_comm 1] using e
def fillD (place : Nat → Option (Nat × Nat)) : List D → List (Nat × Option D) → Option (List D)
  | cells, [] => some cells
  | cells, (i, some d) :: rest =>
    match place i, d.cells1 with
    | some (off, size), some cs => match Nat.beq cs.length size, Nat.ble (off + cs.length) cells.length with
      | true, true => fillD place (splice cells off cs) rest
      | _, _ => none
    | _, _ => none
  | _, (_, none) :: _ => none
theorem fillD_len {place : Nat → Option (Nat × Nat)} : ∀ {parts : List (Nat × Option D)} {cells r : List D}, fillD place cells parts = some r → r.length = cells.length
  | [], cells, r, h => by simp [fillD] at h; rw [h]
  | (i, none) :: rest, cells, r, h => by simp [fillD] at h
  | (i, some d) :: rest, cells, r, h => by
    simp only [fillD] at h
    split at h
    · split at h
      · rename_i h1 h2
        rw [fillD_len h, splice_length (Nat.le_of_ble_eq_true h2)]
      · cases h
    · cases h
theorem fillD_fill {place : Nat → Option (Nat × Nat)} : ∀ (parts : List (Nat × Option D)) (ps : List (Nat × Value)) (cells r : List D) (vs : Array Value), fillD place cells parts = some r →
    parts.length = ps.length → (∀ (k : Nat) (x : Nat × Option D) (y : Nat × Value), parts[k]? = some x → ps[k]? = some y → x.1 = y.1 ∧ ∀ d, x.2 = some d → DCell X ρ w d y.2) → DCells X ρ w cells vs.toList → vs.size = cells.length →
    ∃ us, Instr.fill place vs ps = some us ∧ DCells X ρ w r us.toList ∧ us.size = r.length
  | [], [], cells, r, vs, h, _, _, hc, hl => by simp [fillD] at h; subst h; exact ⟨vs, rfl, hc, hl⟩
  | [], _ :: _, cells, r, vs, h, hlen, _, hc, hl => by simp at hlen
  | _ :: _, [], cells, r, vs, h, hlen, _, hc, hl => by simp at hlen
  | (i, none) :: rest, _ :: _, cells, r, vs, h, hlen, _, hc, hl => by simp [fillD] at h
  | (i, some d) :: rest, (i', v) :: ps, cells, r, vs, h, hlen, hp, hc, hl => by
    have h0 := hp 0 _ _ rfl rfl
    obtain ⟨rfl, hd⟩ := h0
    have hd : DCell X ρ w d v := hd d rfl
    simp only [fillD] at h
    split at h
    · rename_i off size cs hpl hcs
      split at h
      · rename_i h1 h2
        have h1 : cs.length = size := Nat.eq_of_beq_eq_true h1
        have h2 : off + cs.length ≤ cells.length := Nat.le_of_ble_eq_true h2
        obtain ⟨hcc, hcl⟩ := D.cells1_val hcs hd
        have hfold : (v.cells.zipIdx.foldl (fun cs (x : Value × Nat) => cs.setIfInBounds (off + x.2) x.1) vs).toList = splice vs.toList off v.cells.toList := by
          have := foldl_splice off v.cells.toList 0 vs (by simp; omega)
          rw [← Array.foldl_toList, Array.toList_zipIdx]
          simpa [splice] using this
        have hsz : (v.cells.zipIdx.foldl (fun cs (x : Value × Nat) => cs.setIfInBounds (off + x.2) x.1) vs).size = vs.size := by
          rw [← Array.length_toList, hfold, splice_length (by simp; omega), Array.length_toList]
        obtain ⟨us, e1, e2, e3⟩ := fillD_fill rest ps (splice cells off cs) r _ h (by simpa using hlen) (fun k x y hx hy => hp (k + 1) x y (by simpa using hx) (by simpa using hy))
          (by rw [hfold]; exact DCells.splice hc hcc (by rw [← hcl]; simp) h2) (by rw [hsz, splice_length h2]; exact hl)
        refine ⟨us, ?_, e2, e3⟩
        simp only [Instr.fill, hpl]
        have hq : v.cells.size = size := by omega
        have hq2 : ¬ (off + v.cells.size > vs.size) := by omega
        rw [if_neg (by simp only [hq] at hq2 ⊢; simp; omega)]
        exact e1
      · cases h
    · cases h

/-! ##### rows -/
theorem DRows.of_cells {sz : Nat} : ∀ {rows : List (List D)} {vs : List Value}, (∀ r ∈ rows, r.length = sz) → DCells X ρ w rows.flatten vs → DRows X ρ w rows vs
  | [], _, _, _ => trivial
  | r :: rs, vs, hs, h => by
    rw [List.flatten_cons] at h
    have h1 := DCells.take r.length h
    have h2 := DCells.drop r.length h
    rw [List.take_left] at h1
    rw [List.drop_left] at h2
    refine ⟨?_, DRows.of_cells (fun r hr => hs r (List.mem_cons_of_mem _ hr)) h2⟩
    have := DCells.more (us := vs.drop r.length) h1
    rwa [List.take_append_drop] at this
theorem DRows.to_cells {sz : Nat} : ∀ {rows : List (List D)} {vs : List Value}, DRows X ρ w rows vs → DCells X ρ w rows.flatten vs
  | [], _, _ => trivial
  | r :: rs, vs, h => by
    rw [List.flatten_cons]
    exact DCells.append h.1 (DRows.to_cells (sz := sz) h.2)
theorem DRows.len {sz : Nat} {rows : List (List D)} {vs : List Value} (hs : ∀ r ∈ rows, r.length = sz) (h : DRows X ρ w rows vs) : rows.length * sz ≤ vs.length := by
  have := DCells.len (DRows.to_cells (sz := sz) h)
  rwa [List.length_flatten, List.map_congr_left hs, List.map_const', List.sum_replicate_nat] at this
theorem splice_get {α : Type} {l c : List α} {o : Nat} (h : o ≤ l.length) (i : Nat) : (splice l o c)[i]? = if i < o then l[i]? else if i < o + c.length then c[i - o]? else l[i]? := by
  unfold splice
  rw [List.append_assoc, List.getElem?_append]
  have h1 : (l.take o).length = o := by simp; omega
  rw [h1]
  split
  · rw [List.getElem?_take, if_pos (by assumption)]
  · rw [List.getElem?_append]
    split
    · rw [if_pos (by omega)]
    · rw [if_neg (by omega), List.getElem?_drop]
      congr 1; omega
theorem DCells.of_get : ∀ {ds : List D} {vs : List Value}, (∀ (i : Nat) (d : D), ds[i]? = some d → ∃ v, vs[i]? = some v ∧ DCell X ρ w d v) → DCells X ρ w ds vs
  | [], _, _ => trivial
  | d :: ds, vs, h => by
    obtain ⟨v, hv, hd⟩ := h 0 d rfl
    cases vs with
    | nil => simp at hv
    | cons u us =>
      simp at hv; subst hv
      exact ⟨hd, DCells.of_get fun i e he => by simpa using h (i + 1) e (by simpa using he)⟩
theorem DRows.of_get {sz : Nat} : ∀ {rows : List (List D)} {vs : List Value}, (∀ r ∈ rows, r.length = sz) → (∀ (i : Nat) (r : List D), rows[i]? = some r → DCells X ρ w r (vs.drop (i * sz))) → DRows X ρ w rows vs
  | [], _, _, _ => trivial
  | r :: rs, vs, hs, h => by
    refine ⟨by simpa using h 0 r rfl, DRows.of_get (sz := sz) (fun r hr => hs r (List.mem_cons_of_mem _ hr)) fun i q hq => ?_⟩
    have := h (i + 1) q (by simpa using hq)
    rw [hs r List.mem_cons_self, List.drop_drop]
    rwa [Nat.add_mul, Nat.one_mul, Nat.add_comm] at this
theorem mul_apart {i k sz m : Nat} (h : i ≠ k) (hm : m < sz) : k * sz + m < i * sz ∨ i * sz + sz ≤ k * sz + m := by
  rcases Nat.lt_or_gt_of_ne h with h | h
  · right
    have : (i + 1) * sz ≤ k * sz := Nat.mul_le_mul_right sz h
    rw [Nat.add_mul] at this; omega
  · left
    have : (k + 1) * sz ≤ i * sz := Nat.mul_le_mul_right sz h
    rw [Nat.add_mul] at this; omega
theorem DRows.set {sz : Nat} {rows : List (List D)} {vs : List Value} {i j : Nat} {row c : List D} {us : List Value} (hs : ∀ r ∈ rows, r.length = sz) (h : DRows X ρ w rows vs) (hi : rows[i]? = some row) (hc : DCells X ρ w c us) (hl : c.length = us.length) (hj : j + c.length ≤ sz) :
    DRows X ρ w (rows.set i (splice row j c)) (splice vs (i * sz + j) us) := by
  have hrow : row.length = sz := hs row (List.mem_of_getElem? hi)
  have hsp : (splice row j c).length = sz := by rw [splice_length (by omega)]; exact hrow
  have hlen := DRows.len hs h
  have hi' : i < rows.length := (List.getElem?_eq_some_iff.1 hi).1
  have hbound : i * sz + sz ≤ vs.length := by
    have : (i + 1) * sz ≤ rows.length * sz := Nat.mul_le_mul_right sz hi'
    rw [Nat.add_mul] at this; omega
  refine DRows.of_get (sz := sz) ?_ ?_
  · intro r hr
    rcases List.mem_or_eq_of_mem_set hr with h' | h'
    · exact hs r h'
    · rw [h']; exact hsp
  · intro k r hk
    by_cases hik : i = k
    · subst hik
      rw [List.getElem?_set_self hi'] at hk
      injection hk with hk; subst hk
      have e : (splice vs (i * sz + j) us).drop (i * sz) = splice (vs.drop (i * sz)) j us := by
        apply List.ext_getElem?
        intro m
        rw [List.getElem?_drop, splice_get (by omega), splice_get (by simp; omega), List.getElem?_drop]
        by_cases h1 : m < j
        · rw [if_pos h1, if_pos (by omega)]
        · rw [if_neg h1, if_neg (by omega)]
          by_cases h2 : m < j + us.length
          · rw [if_pos h2, if_pos (by omega)]; congr 1; omega
          · rw [if_neg h2, if_neg (by omega)]
      rw [e]
      exact DCells.splice (DRows.get hs h hi) hc hl (by omega)
    · rw [List.getElem?_set_ne hik] at hk
      have hr := DRows.get hs h hk
      have hrl := hs r (List.mem_of_getElem? hk)
      refine DCells.of_get fun m d hd => ?_
      obtain ⟨v, hv, hdv⟩ := DCells.get hr hd
      have hm : m < sz := by rw [← hrl]; exact (List.getElem?_eq_some_iff.1 hd).1
      refine ⟨v, ?_, hdv⟩
      rw [List.getElem?_drop] at hv ⊢
      rw [splice_get (by omega)]
      rcases mul_apart hik hm with h1 | h1
      · rw [if_pos (by omega)]; exact hv
      · rw [if_neg (by omega), if_neg (by omega)]; exact hv
def chunks (sz : Nat) : Nat → List D → List (List D)
  | 0, _ => []
  | n + 1, l => l.take sz :: chunks sz n (l.drop sz)
theorem chunks_flatten (sz : Nat) : ∀ (n : Nat) (l : List D), l.length = n * sz → (chunks sz n l).flatten = l ∧ (∀ r ∈ chunks sz n l, r.length = sz) ∧ (chunks sz n l).length = n
  | 0, l, h => by simp at h; simp [chunks, h]
  | n + 1, l, h => by
    have hl : (l.drop sz).length = n * sz := by simp [h, Nat.add_mul]
    obtain ⟨h1, h2, h3⟩ := chunks_flatten sz n _ hl
    refine ⟨by simp [chunks, h1], ?_, by simp [chunks, h3]⟩
    intro r hr
    simp only [chunks, List.mem_cons] at hr
    rcases hr with rfl | hr
    · simp [h, Nat.add_mul]
    · exact h2 r hr

/-! ##### new objects -/
theorem does_new {d : D} {sz : Nat} {rows : List (List D)} {nx : Nat} (hsz : 0 < sz) (hrows : ∀ r ∈ rows, r.length = sz ∧ r.all D.one = true) (hm : rows.length ≤ lenMax)
    (h : ∀ X ρ w (a : Act), Real T.glob X ρ w E H a.tmps → ∃ (v : Value) (cells : Array Value) (e : TypeId) (w1 : World) (cap : Nat), (execOp a.eval o).run P w = .ok (.value v) w1 ∧ w1.heap = w.heap.push (.cells cells e (0, 0)) ∧ w1.os = w.os ∧ w1.tape = w.tape ∧ w1.output = w.output ∧
      rows.length ≤ cap ∧ cap ≤ capMax ∧ cells.size = cap * sz ∧ DCells X ρ w rows.flatten cells.toList ∧
      (∀ X' ρ', ρ' nx = .live w.heap.size sz cap → DCell X' ρ' w1 d v)) : Does T o E H [nx] (Just d [(nx, .arr sz rows)]) := by
  intro X ρ w a Q K r hnw hK
  obtain ⟨v, cells, e, w1, cap, hrun, hh, ho, ht, hu, hc1, hc2, hcs, hcells, hd⟩ := h X ρ w a r
  have st := Step.new r.mem (hnw nx (by simp)) sz cap (.cells cells e (0, 0)) w1 hh ho ht hu
  unfold Oper.wp
  rw [hrun]
  have hslot : setSlot ρ nx (.live w.heap.size sz cap) nx = .live w.heap.size sz cap := if_pos rfl
  refine hK d [(nx, .arr sz rows)] v w1 (fun b => X b ∨ b = w.heap.size) (setSlot ρ nx (.live w.heap.size sz cap)) ⟨rfl, rfl⟩ ?_ (hd _ _ hslot) ?_
  · have : (fun p => p ∈ [(nx, Ob.arr sz rows)].map (·.1)) = fun q => q = nx := by funext q; simp
    rw [this]; exact st
  · intro x hx
    simp at hx; subst hx
    refine ⟨hsz, hrows, hm, ?_⟩
    simp only [hslot, true_and]
    refine ⟨hc1, hc2, cells, e, (0, 0), by rw [hh]; simp, hcs, fun i _ => by simp, ?_⟩
    exact DRows.keep (st.keeps r.mem) st.slots _ _ (DRows.of_cells (fun r hr => (hrows r hr).1) hcells)
def allT {α : Type} (p : α → Bool) (l : List α) (K : Prop) : Prop := match l.all p with | true => K | false => False
theorem allT_out {α : Type} {p : α → Bool} {l : List α} {J : Prop} (h : allT p l J) : l.all p = true ∧ J := by
  unfold allT at h; split at h
  · exact ⟨by assumption, h⟩
  · exact h.elim
def boxK (nx : Nat) (cells : Option (List D)) (K : D → List (Nat × Ob) → List Nat → Prop) : Prop :=
  match cells with
  | some (c :: cs) => allT D.one (c :: cs) (K (.ptr nx 0 0) [(nx, .arr (cs.length + 1) [c :: cs])] [nx])
  | _ => False
abbrev KT := D → List (Nat × Ob) → List Nat → Prop
theorem box_does {J : KT} {nx t : Nat} {x : Operand} (h : boxK nx ((ev T E t x).bind D.cells1) J) (ho : o.op = .box t x) : ∃ d ups nw, J d ups nw ∧ (∀ p ∈ nw, p = nx) ∧ Does T o E H nw (Just d ups) := by
  unfold boxK at h
  split at h
  · rename_i c cs hcs
    obtain ⟨hone, h⟩ := allT_out h
    cases hx : ev T E t x with
    | none => rw [hx] at hcs; simp at hcs
    | some d =>
      rw [hx] at hcs
      simp at hcs
      refine ⟨_, _, _, h, by simp, does_new (Nat.succ_pos _) (by simp only [List.mem_singleton, forall_eq]; exact ⟨rfl, hone⟩) (by simp [lenMax]) fun X ρ w a r => ?_⟩
      obtain ⟨h1, h2⟩ := D.cells1_val hcs (ev_cell r hx)
      refine ⟨.pointer (some ⟨w.heap.size, 0, none⟩), (a.eval x).cells, t, { w with heap := w.heap.push (.cells (a.eval x).cells t (0, 0)) }, 1, ?_, rfl, rfl, rfl, rfl, by simp, by simp [capMax], by simp [h2], by simpa using h1, fun X' ρ' hs => ?_⟩
      · simp [execOp, ho, Instr.box, newVar, newRow, newObj, Sem.run]
      · unfold DCell; simp [hs]
  · exact h.elim
theorem alloc_does {J : KT} {nx t : Nat} (h : boxK nx (some ((T.ty t).zero.map .v)) J) (ho : o.op = .alloc t) : ∃ d ups nw, J d ups nw ∧ (∀ p ∈ nw, p = nx) ∧ Does T o E H nw (Just d ups) := by
  unfold boxK at h
  split at h
  · rename_i c cs hcs
    obtain ⟨hone, h⟩ := allT_out h
    injection hcs with hcs
    have hne : (T.ty t).zero ≠ [] := by intro e; rw [e] at hcs; simp at hcs
    refine ⟨_, _, _, h, by simp, does_new (Nat.succ_pos _) (by simp only [List.mem_singleton, forall_eq]; exact ⟨rfl, hone⟩) (by simp [lenMax]) fun X ρ w a r => ?_⟩
    obtain ⟨z, hz, hzs, hzc⟩ := T.run_zero hne w
    have hl : (T.ty t).zero.length = cs.length + 1 := by have := congrArg List.length hcs; simpa using this
    refine ⟨.pointer (some ⟨w.heap.size, 0, none⟩), z.cells, t, { w with heap := w.heap.push (.cells z.cells t (0, 0)) }, 1, ?_, rfl, rfl, rfl, rfl, by simp, by simp [capMax], by omega, ?_, fun X' ρ' hs => ?_⟩
    · simp [execOp, ho, Instr.alloc, hz, newVar, newRow, newObj, Sem.run]
    · rw [List.flatten_cons, List.flatten_nil, List.append_nil, ← hcs]
      exact VCells.toD (hzc X w)
    · unfold DCell; simp [hs]
  · exact h.elim

/-! ##### struct and slice literals -/
def evs (T : Tab P) (E : Nat → Option D) (ty : Nat → Nat) : List (Nat × Operand) → List (Nat × Option D)
  | [] => []
  | (i, x) :: r => (i, ev T E (ty i) x) :: evs T E ty r
theorem evs_ok {ty : Nat → Nat} {a : Act} (r : Real T.glob X ρ w E H a.tmps) : ∀ (l : List (Nat × Operand)), (evs T E ty l).length = (l.map fun (x : Nat × Operand) => (x.1, a.eval x.2)).length ∧
    ∀ (k : Nat) (x : Nat × Option D) (y : Nat × Value), (evs T E ty l)[k]? = some x → (l.map fun (x : Nat × Operand) => (x.1, a.eval x.2))[k]? = some y → x.1 = y.1 ∧ ∀ d, x.2 = some d → DCell X ρ w d y.2
  | [] => ⟨rfl, fun k x y h => by simp [evs] at h⟩
  | (i, x) :: l => by
    obtain ⟨h1, h2⟩ := evs_ok (ty := ty) r l
    refine ⟨by simp [evs, h1], fun k p q hp hq => ?_⟩
    cases k with
    | zero =>
      simp [evs] at hp hq
      subst hp; subst hq
      exact ⟨rfl, fun d hd => ev_cell r hd⟩
    | succ k => exact h2 k p q (by simpa [evs] using hp) (by simpa using hq)
def places (T : Tab P) : List (Nat × Nat) → Option (List (Nat × Nat))
  | [] => some []
  | (t, off) :: fs => match (T.ty t).size, places T fs with
    | n + 1, some r => some ((off, n + 1) :: r)
    | _, _ => none
def buildK (T : Tab P) (E : Nat → Option D) (t : Nat) (parts : List (Nat × Operand)) (K : D → Prop) : Prop :=
  match (T.ty t).d with
  | .struct fs => match places T fs, (T.ty t).zero with
    | some pl, z :: zs => match fillD (pl[·]?) ((z :: zs).map .v) (evs T E (fun i => ((fs[i]?).map (·.1)).getD 0) parts) with
      | some cells => K (.agg cells)
      | none => False
    | _, _ => False
  | _ => False
theorem places_run : ∀ {fs : List (Nat × Nat)} {gs : List Field} {pl : List (Nat × Nat)}, places T fs = some pl → fs = gs.map (fun f => (f.type, f.offset)) →
    ((gs.mapM fun (f : Field) => (do pure (f.offset, ← sizeOf f.type) : Sem (Nat × Nat)))).run P w = .ok pl w
  | [], [], pl, h, _ => by simp [places] at h; subst h; simp
  | [], _ :: _, pl, h, hf => by simp at hf
  | _ :: _, [], pl, h, hf => by simp at hf
  | (t, off) :: fs, g :: gs, pl, h, hf => by
    simp at hf
    obtain ⟨⟨rfl, rfl⟩, hf⟩ := hf
    simp only [places] at h
    split at h
    · rename_i n r hn hr
      injection h with h; subst h
      have ih := places_run hr hf
      have hs : 0 < (T.ty g.type).size := by rw [hn]; omega
      rw [List.mapM_cons]
      simp only [Sem.run_bind, T.run_size hs, Result.andThen_ok, Sem.run_pure, hn]
      rw [ih]
      simp
    · cases h
theorem build_val {J : D → Prop} {t : Nat} {parts : Array (Nat × Operand)} (h : buildK T E t parts.toList J) (ho : o.op = .build t parts) : ∃ d, J d ∧ Val T o E H d := by
  unfold buildK at h
  split at h
  · rename_i fs hd
    obtain ⟨gs, hu, hfs⟩ := T.struct hd
    split at h
    · rename_i pl z zs hpl hz
      split at h
      · rename_i cells hfill
        refine ⟨_, h, fun X ρ w a r => ?_⟩
        have hne : (T.ty t).zero ≠ [] := by rw [hz]; simp
        obtain ⟨zv, hzr, hzs, hzc⟩ := T.run_zero hne w
        obtain ⟨h1, h2⟩ := evs_ok (ty := fun i => ((fs[i]?).map (·.1)).getD 0) r parts.toList
        obtain ⟨us, e1, e2, e3⟩ := fillD_fill _ (parts.toList.map fun (x : Nat × Operand) => (x.1, a.eval x.2)) _ _ zv.cells hfill h1 h2 (by rw [← hz]; exact VCells.toD (hzc X w)) (by rw [hzs, hz]; simp)
        refine ⟨.agg us, ?_, us.toList, by simp, by simpa using e3, e2⟩
        have hm := places_run (P := P) (w := w) hpl hfs
        have hm2 : (gs.mapM fun (f : Field) => (do pure (f.offset, ← sizeOf f.type) : Sem (Nat × Nat))).run P w = .ok pl.toArray w := by
          rw [Array.mapM_eq_mapM_toList]
          simp only [Sem.run_map, hm, Result.andThen_ok]
        simp only [execOp, ho, Instr.build, Sem.run_bind, hzr, Result.andThen_ok, run_underlying hu, hm2]
        have hfun : (fun x : Nat => pl.toArray[x]?) = fun x : Nat => pl[x]? := by funext x; simp
        rw [hfun]
        have harr : (parts.map fun (x : Nat × Operand) => (x.1, a.eval x.2)).toList = parts.toList.map fun (x : Nat × Operand) => (x.1, a.eval x.2) := by simp
        rw [harr, e1]
        simp
      · exact h.elim
    · exact h.elim
  · exact h.elim
def buildSliceK (T : Tab P) (E : Nat → Option D) (nx t len : Nat) (parts : List (Nat × Operand)) (K : KT) : Prop :=
  match (T.ty t).d with
  | .slice e => match (T.ty e).size, (T.ty e).zero with
    | n + 1, z :: zs => match Nat.beq (zs.length + 1) (n + 1), Nat.ble (len * (n + 1)) 16777216 with
      | true, true => match fillD (fun i => some (i * (n + 1), n + 1)) ((List.replicate len ((z :: zs).map D.v)).flatten) (evs T E (fun _ => e) parts) with
        | some cells => forceL cells fun cells => allT D.one cells (forceLL (chunks (n + 1) len cells) fun rows => K (.arr nx 0 len) [(nx, .arr (n + 1) rows)] [nx])
        | none => False
      | _, _ => False
    | _, _ => False
  | _ => False
theorem zeros_rep (z : Array Value) (hz : 0 < z.size) : ∀ n, (List.range (n * z.size)).map (fun i => z[i % z.size]!) = (List.replicate n z.toList).flatten := by
  intro n
  apply List.ext_getElem?
  intro i
  have hlen : ((List.replicate n z.toList).flatten).length = n * z.size := by simp [List.length_flatten]
  by_cases hi : i < n * z.size
  · rw [List.getElem?_map, List.getElem?_range hi]
    have key : ∀ (n i : Nat), i < n * z.size → ((List.replicate n z.toList).flatten)[i]? = some (z[i % z.size]!) := by
      intro n
      induction n with
      | zero => intro i hi; simp at hi
      | succ n ih =>
        intro i hi
        rw [List.replicate_succ, List.flatten_cons, List.getElem?_append]
        split
        · rename_i h
          have h : i < z.size := by simpa using h
          rw [Nat.mod_eq_of_lt h]
          simp [h]
        · rename_i h
          have h : z.size ≤ i := by simpa using h
          have : i - z.toList.length < n * z.size := by
            rw [Nat.add_mul] at hi
            simp; omega
          rw [ih _ this]
          congr 2
          have : i % z.size = (i - z.size) % z.size := by
            conv => lhs; rw [show i = (i - z.size) + z.size from by omega, Nat.add_mod_right]
          simp [this]
    rw [key n i hi]; rfl
  · rw [List.getElem?_eq_none (by simp; omega), List.getElem?_eq_none (by omega)]
theorem DCells.replicate {cs : List D} {vs : List Value} (h : DCells X ρ w cs vs) (hl : cs.length = vs.length) : ∀ n, DCells X ρ w (List.replicate n cs).flatten (List.replicate n vs).flatten
  | 0 => trivial
  | n + 1 => by
    rw [List.replicate_succ, List.replicate_succ, List.flatten_cons, List.flatten_cons]
    refine DCells.append (DCells.more h) ?_
    rw [hl, List.drop_left]
    exact DCells.replicate h hl n
theorem all_flatten {α : Type} {p : α → Bool} : ∀ {l : List (List α)}, l.flatten.all p = true → ∀ r ∈ l, r.all p = true := by
  intro l h r hr
  rw [List.all_eq_true] at h ⊢
  exact fun x hx => h x (List.mem_flatten.2 ⟨r, hr, hx⟩)
theorem buildSlice_does {J : KT} {nx t len : Nat} {parts : Array (Nat × Operand)} (h : buildSliceK T E nx t len parts.toList J) (ho : o.op = .buildSlice t len parts) : ∃ d ups nw, J d ups nw ∧ (∀ p ∈ nw, p = nx) ∧ Does T o E H nw (Just d ups) := by
  unfold buildSliceK at h
  split at h
  · rename_i e hd
    split at h
    · rename_i n z zs hsz hz
      split at h
      · rename_i hb1 hb2
        have hb1 : zs.length + 1 = n + 1 := Nat.eq_of_beq_eq_true hb1
        have hb2 : len * (n + 1) ≤ 16777216 := Nat.le_of_ble_eq_true hb2
        split at h
        · rename_i cells hfill
          simp only [forceL_eq, forceLL_eq] at h
          obtain ⟨hone, h⟩ := allT_out h
          have hs : 0 < (T.ty e).size := by rw [hsz]; omega
          have hne : (T.ty e).zero ≠ [] := by rw [hz]; simp
          have hflat : ((List.replicate len ((z :: zs).map D.v)).flatten).length = len * (n + 1) := by
            simp [List.length_flatten, hb1]
          have hrun : ∀ X ρ w (a : Act), Real T.glob X ρ w E H a.tmps → ∃ us : Array Value, (execOp a.eval o).run P w = .ok (.value (.slice (some ⟨w.heap.size, 0, none⟩) len len)) { w with heap := w.heap.push (.cells us e (0, 0)) } ∧ DCells X ρ w cells us.toList ∧ us.size = cells.length := by
            intro X ρ w a r
            obtain ⟨zv, hzr, hzs, hzc⟩ := T.run_zero hne w
            have hzs : zv.cells.size = n + 1 := by rw [hzs, hz]; simpa using hb1
            obtain ⟨h1, h2⟩ := evs_ok (ty := fun _ => e) r parts.toList
            have hbase : ((Array.range (len * (n + 1))).map fun i => zv.cells[i % zv.cells.size]!).toList = (List.replicate len zv.cells.toList).flatten := by
              have := zeros_rep zv.cells (by omega) len
              rw [hzs] at this
              rw [← this]
              simp [hzs]
            obtain ⟨us, e1, e2, e3⟩ := fillD_fill _ (parts.toList.map fun (x : Nat × Operand) => (x.1, a.eval x.2)) _ _ ((Array.range (len * (n + 1))).map fun i => zv.cells[i % zv.cells.size]!) hfill h1 h2
              (by rw [hbase]; exact DCells.replicate (by rw [← hz]; exact VCells.toD (hzc X w)) (by simp [hzs, hb1]) len) (by rw [hflat]; simp)
            refine ⟨us, ?_, e2, e3⟩
            simp only [execOp, ho, Instr.buildSlice, Sem.run_bind, run_underlying (T.slice hd), Result.andThen_ok, T.run_size hs, hsz, Nat.succ_eq_add_one]
            rw [if_neg (by omega)]
            have harr : (parts.map fun (x : Nat × Operand) => (x.1, a.eval x.2)).toList = parts.toList.map fun (x : Nat × Operand) => (x.1, a.eval x.2) := by simp
            by_cases hlen : len * (n + 1) = 0
            · have hl0 : len = 0 := by
                rcases Nat.mul_eq_zero.1 hlen with h | h
                · exact h
                · omega
              subst hl0
              simp only [Nat.zero_mul, if_true, Sem.run_bind, Sem.run_pure, Result.andThen_ok, harr]
              have : (Array.map (fun x => (#[] : Array Value)[x % (#[] : Array Value).size]!) (Array.range 0)) = ((Array.range (0 * (n + 1))).map fun i => zv.cells[i % zv.cells.size]!) := by simp
              rw [this, e1]
              simp [newRow, newObj, Sem.run]
            · rw [if_neg hlen]
              simp only [Sem.run_bind, hzr, Result.andThen_ok, Sem.run_pure, harr]
              rw [e1]
              simp [newRow, newObj, Sem.run]
          have hcl : cells.length = len * (n + 1) := by
            rw [fillD_len hfill]; exact hflat
          obtain ⟨c1, c2, c3⟩ := chunks_flatten (n + 1) len cells hcl
          refine ⟨_, _, _, h, by simp, does_new (Nat.succ_pos n) (fun r hr => ⟨c2 r hr, all_flatten (by rw [c1]; exact hone) r hr⟩) (by rw [c3]; simp [lenMax]; have : len * 1 ≤ len * (n + 1) := Nat.mul_le_mul_left _ (by omega); omega) fun X ρ w a r => ?_⟩
          obtain ⟨us, e1, e2, e3⟩ := hrun X ρ w a r
          refine ⟨_, us, e, _, len, e1, rfl, rfl, rfl, rfl, by omega, ?_, by omega, by rw [c1]; exact e2, fun X' ρ' hs => ?_⟩
          · have : len * 1 ≤ len * (n + 1) := Nat.mul_le_mul_left _ (by omega)
            simp [capMax]; omega
          · unfold DCell
            simp only [hs]
            refine ⟨by omega, fun h => by simp, fun h => ?_⟩
            have : len = 0 := by omega
            subst this; exact ⟨_, rfl⟩
        · exact h.elim
      · exact h.elim
    · exact h.elim
  · exact h.elim
end
end Go.DL

/- DL, part 6: store, append, copy, clear, make. Own work; no condition. -/
set_option linter.unusedVariables false
set_option linter.unusedSimpArgs false
namespace Go.DL
open Go.RowKit

section
variable {P : Program} {T : Tab P} {o : Oper} {E : Nat → Option D} {H : Nat → Ob}
variable {X X' : Nat → Prop} {ρ ρ' : Nat → Slot} {w w' : World}

theorem run_storeCells_ok (g o : Nat) (t : TypeId) (fr : Nat × Nat) : ∀ (vs : List Value) (i : Nat) (cur : Array Value) (w : World), w.heap[g]? = some (.cells cur t fr) → o + i + vs.length ≤ cur.size →
    (∀ k, k < cur.size → ¬ (fr.1 ≤ k ∧ k < fr.2)) → (∀ v ∈ vs, v.oneCell' = true) →
    (storeCells ⟨g, o, none⟩ vs i).run P w = .ok () (w.setRow g (splice cur.toList (o + i) vs).toArray)
  | [], i, cur, w, hg, _, _, _ => by
    simp only [storeCells, splice, List.append_nil, List.length_nil, Nat.add_zero, List.take_append_drop, Array.toArray_toList]
    rw [setRow_self w g cur t fr hg]
    rfl
  | v :: rest, i, cur, w, hg, hl, hf, h1 => by
    have hi : o + i < cur.size := by simp at hl; omega
    have hadd : (⟨g, o, none⟩ : Addr).add i = ⟨g, o + i, none⟩ := addr_add g o i
    have hcell : w.cell? ⟨g, o + i, none⟩ = some cur[o + i] := by simp [World.cell?, hg, hi]
    have hfro : w.frozen? ⟨g, o + i, none⟩ = false := by
      have := hf (o + i) hi
      simp [World.frozen?, hg]
      omega
    have hst : (store ((⟨g, o, none⟩ : Addr).add i) v).run P w = .ok () (w.setRow g (cur.setIfInBounds (o + i) v)) := by
      rw [hadd, run_store P w _ v _ (h1 v (by simp)), hcell]
      simp [hfro, setCell_eq_setRow w g (o + i) cur t fr v hg]
    have ih := run_storeCells_ok g o t fr rest (i + 1) (cur.setIfInBounds (o + i) v) (w.setRow g (cur.setIfInBounds (o + i) v)) (setRow_heap w g cur _ t _ hg) (by simp at hl ⊢; omega) (by simpa using hf) (fun x hx => h1 x (by simp [hx]))
    simp only [storeCells, Sem.run_bind, hst, Result.andThen_ok, ih, setRow_setRow]
    congr 3
    have e := list_seg_step cur.toList (o + i) v rest (by simp at hl ⊢; omega)
    simpa [splice, Array.toList_setIfInBounds, Nat.add_assoc, Nat.add_comm 1] using e

/-- One object gets other rows in place. -/
theorem ObOK.write {p b sz cap : Nat} {rows' : List (List D)} {cs : Array Value} {e : TypeId} {fr : Nat × Nat} (m : Mem X ρ w) (hp : ρ p = .live b sz cap) (hh : w.heap[b]? = some (.cells cs e fr)) (hf : ∀ i, i ≤ cs.size → ¬ (fr.1 ≤ i ∧ i < fr.2))
    (h0 : 0 < sz) (hcap : cap ≤ capMax) (hcs : cs.size = cap * sz) {vs : List Value} (hl : vs.length = cs.size) (hrows : ∀ r ∈ rows', r.length = sz ∧ r.all D.one = true) (hlen : rows'.length ≤ cap) (hmax : rows'.length ≤ lenMax)
    (hr : DRows X ρ w rows' vs) : ObOK X ρ (w.setRow b vs.toArray) p (.arr sz rows') := by
  have st := Step.write m hp vs.toArray
  refine ⟨h0, hrows, hmax, ?_⟩
  simp only [hp, true_and]
  refine ⟨hlen, hcap, vs.toArray, e, fr, setRow_heap w b cs _ e fr hh, by simp; omega, by simpa [hl] using hf, ?_⟩
  exact DRows.keep (st.keeps m) st.slots _ _ (by simpa using hr)

/-! ##### store -/
def storeK (T : Tab P) (E : Nat → Option D) (H : Nat → Ob) (t : Nat) (x y : Operand) (K : KT) : Prop :=
  match ev T E 0 x, (ev T E t y).bind D.cells1, (T.ty t).size with
  | some (.ptr p i j), some cs, n + 1 => match H p with
    | .arr sz rows => rowK rows[i]? fun row => match Nat.beq cs.length (n + 1), Nat.ble (j + cs.length) sz with
      | true, true => allT D.one cs (forceL (splice row j cs) fun row => K .any [(p, .arr sz (rows.set i row))] [])
      | _, _ => False
    | _ => False
  | _, _, _ => False
theorem storeK_does {J : KT} {t nx : Nat} {x y : Operand} (h : storeK T E H t x y J) (ho : o.op = .store t x y) : ∃ d ups nw, J d ups nw ∧ (∀ p ∈ nw, p = nx) ∧ Does T o E H nw (Just d ups) := by
  unfold storeK rowK at h
  simp only [forceL_eq] at h
  split at h
  · rename_i p i j cs n hx hy hn
    split at h
    · rename_i sz rows hp
      split at h
      · rename_i row hrow
        split at h
        · rename_i hb1 hb2
          have hb1 : cs.length = n + 1 := Nat.eq_of_beq_eq_true hb1
          have hb2 : j + cs.length ≤ sz := Nat.le_of_ble_eq_true hb2
          obtain ⟨hone, h⟩ := allT_out h
          refine ⟨_, _, _, h, by simp, ?_⟩
          intro X ρ w a Q K r _ hK
          cases hy' : ev T E t y with
          | none => rw [hy'] at hy; simp at hy
          | some dy =>
            rw [hy'] at hy
            simp at hy
            obtain ⟨hc, hcl⟩ := D.cells1_val hy (ev_cell r hy')
            have hob := r.obs p
            rw [hp] at hob
            obtain ⟨h0, hr1, hmx, hob⟩ := hob
            obtain ⟨b, s, cap, hq, hv⟩ := ptr_live r hp (ev_cell r hx)
            simp only [hq] at hob
            obtain ⟨rfl, h2, h3, arr, e, fr, hh, hs, hf, hrr⟩ := hob
            have hr1' : ∀ r ∈ rows, r.length = s := fun r hr => (hr1 r hr).1
            have hlen := DRows.len hr1' hrr
            have hi : i < rows.length := (List.getElem?_eq_some_iff.1 hrow).1
            have hib : i * s + s ≤ arr.size := by
              have : (i + 1) * s ≤ rows.length * s := Nat.mul_le_mul_right s hi
              rw [Nat.add_mul] at this; simp at hlen; omega
            have hvl : (a.eval y).cells.toList.length = cs.length := by simp [hcl]
            have hst := run_storeCells_ok (P := P) b (i * s + j) e fr (a.eval y).cells.toList 0 arr w hh (by omega) (fun k hk => hf k (Nat.le_of_lt hk)) (DCells.one hone hvl.symm hc)
            rw [Nat.add_zero] at hst
            have hsz : 0 < (T.ty t).size := by rw [hn]; omega
            unfold Oper.wp
            have hrun : (execOp a.eval o).run P w = .ok .skip (w.setRow b (splice arr.toList (i * s + j) (a.eval y).cells.toList).toArray) := by
              simp only [execOp, ho, hv, Instr.storeAt, Instr.sureAddr, Sem.run_bind, Sem.run_pure, Result.andThen_ok, storeVar, T.run_size hsz]
              rw [if_neg (by rw [hn, hcl, hb1]; simp), hst]
              rfl
            rw [hrun]
            have hrow' : row.length = s := hr1' row (List.mem_of_getElem? hrow)
            refine hK .any _ undef _ X ρ ⟨rfl, rfl⟩ ?_ trivial ?_
            · have : (fun q => q ∈ [(p, Ob.arr s (rows.set i (splice row j cs)))].map (·.1)) = fun q => q = p := by funext q; simp
              rw [this]
              exact Step.write r.mem hq _
            · intro z hz
              simp at hz; subst hz
              refine ObOK.write r.mem hq hh hf h0 h3 hs ?_ ?_ (by simpa using h2) (by simpa using hmx) (DRows.set hr1' hrr hrow hc hvl.symm hb2)
              · rw [splice_length (by rw [hvl]; simp; omega)]; simp
              · intro r hr
                rcases List.mem_or_eq_of_mem_set hr with h' | h'
                · exact hr1 r h'
                · subst h'
                  refine ⟨by rw [splice_length (by omega)]; exact hrow', ?_⟩
                  have hro := (hr1 row (List.mem_of_getElem? hrow)).2
                  unfold splice
                  rw [List.all_append, List.all_append]
                  simp only [Bool.and_eq_true]
                  rw [List.all_eq_true] at hro
                  refine ⟨⟨?_, hone⟩, ?_⟩
                  · rw [List.all_eq_true]; exact fun x hx => hro x (List.mem_of_mem_take hx)
                  · rw [List.all_eq_true]; exact fun x hx => hro x (List.mem_of_mem_drop hx)
        · exact h.elim
      · exact h.elim
    · exact h.elim
  · exact h.elim

/-! ##### append -/
theorem growBy_le {newLen : Nat} : ∀ (k c : Nat), 256 ≤ c → Builtin.growBy newLen k c ≤ max c (2 * newLen)
  | 0, c, _ => by simp [Builtin.growBy]; omega
  | k + 1, c, hc => by
    unfold Builtin.growBy
    split
    · omega
    · have := growBy_le (newLen := newLen) k (c + (c + 768) / 4) (by omega)
      omega
theorem nextcap_le {need old : Nat} (h : old < need) : Builtin.nextslicecap need old ≤ 2 * need := by
  unfold Builtin.nextslicecap
  split
  · omega
  · split
    · omega
    · have := growBy_le (newLen := need) 4 old (by omega)
      omega
/-- What is appended: rows of closed or own data. -/
def srcRows (T : Tab P) (E : Nat → Option D) (H : Nat → Ob) (sz : Nat) (t : Nat) (x : Operand) : Option (List (List D)) :=
  match (T.ty t).d, ev T E t x with
  | .slice _, some (.v (.sl s _ xs)) => bif Nat.beq s sz then some (xs.map fun r => r.map .v) else none
  | .slice _, some (.arr p o n) => match H p with
    | .arr s rows => bif Nat.beq s sz then some ((rows.drop o).take n) else none
    | _ => none
  | .str, some (.v (.str s)) => bif Nat.beq 1 sz then some (s.data.toList.map fun b => [.v (.int .u8 b.toNat)]) else none
  | _, _ => none
theorem bytes_rows (s : ByteArray) : ((s.data.toList.map fun b => [D.v (.int .u8 b.toNat)]).flatten) = s.data.toList.map fun b => D.v (.int .u8 b.toNat) := by
  induction s.data.toList with
  | nil => rfl
  | cons b l ih => simp [ih]
theorem VRows.toD {sz : Nat} : ∀ {xs : List (List V)} {vs : List Value}, (∀ r ∈ xs, r.length = sz) → VRows X w xs vs → DRows X ρ w (xs.map fun r => r.map .v) vs
  | [], _, _, _ => trivial
  | r :: rs, vs, hs, h => ⟨VCells.toD h.1, by
      have := VRows.toD (fun r hr => hs r (List.mem_cons_of_mem _ hr)) h.2
      simpa using this⟩
theorem DRows.drop {sz : Nat} : ∀ {xs : List (List D)} {vs : List Value} (n : Nat), (∀ r ∈ xs, r.length = sz) → DRows X ρ w xs vs → DRows X ρ w (xs.drop n) (vs.drop (n * sz))
  | xs, vs, 0, _, h => by simpa using h
  | [], vs, n + 1, _, h => trivial
  | r :: xs, vs, n + 1, hs, h => by
    have := DRows.drop n (fun r hr => hs r (List.mem_cons_of_mem _ hr)) h.2
    rw [hs r List.mem_cons_self, List.drop_drop] at this
    rwa [Nat.add_mul, Nat.one_mul, Nat.add_comm (n * sz)]
theorem DRows.take : ∀ {xs : List (List D)} {vs : List Value} (n : Nat), DRows X ρ w xs vs → DRows X ρ w (xs.take n) vs
  | xs, vs, 0, h => trivial
  | [], vs, n + 1, h => trivial
  | r :: xs, vs, n + 1, h => ⟨h.1, DRows.take n h.2⟩
theorem DCells.takeLen {ds : List D} {vs : List Value} (h : DCells X ρ w ds vs) : DCells X ρ w ds (vs.take ds.length) := by
  have := DCells.take ds.length h
  rwa [List.take_length] at this
theorem all_v {r : List V} (h : r.all V.one = true) : (r.map D.v).all D.one = true := by
  rw [List.all_eq_true] at h ⊢
  intro x hx
  obtain ⟨y, hy, rfl⟩ := List.mem_map.1 hx
  exact h y hy
theorem flat_len {sz : Nat} {rows : List (List D)} (hs : ∀ r ∈ rows, r.length = sz) : rows.flatten.length = rows.length * sz := by
  rw [List.length_flatten, List.map_congr_left hs, List.map_const', List.sum_replicate_nat]
theorem one_flat {sz : Nat} {rows : List (List D)} (hs : ∀ r ∈ rows, r.length = sz ∧ r.all D.one = true) : rows.flatten.all D.one = true := by
  rw [List.all_eq_true]
  intro x hx
  obtain ⟨r, hr, hx⟩ := List.mem_flatten.1 hx
  exact (List.all_eq_true.1 (hs r hr).2) x hx
theorem src_of_cells {sz t e n c : Nat} {A : Option Addr} {rows : List (List D)} (hk : P.underlying t = some (.slice e)) (hn : n = rows.length) (hs : ∀ r ∈ rows, r.length = sz ∧ r.all D.one = true)
    (hne : rows ≠ [] → ∃ b off arr ty fr, A = some ⟨b, off, none⟩ ∧ w.heap[b]? = some (.cells arr ty fr) ∧ DRows X ρ w rows (arr.toList.drop off)) :
    ∃ cells, Src P sz t (.slice A n c) rows.length cells w ∧ DCells X ρ w rows.flatten cells ∧ cells.length = rows.length * sz := by
  subst hn
  by_cases hr : rows = []
  · subst hr
    refine ⟨[], ?_, trivial, by simp⟩
    cases A with
    | none => exact Src.ofNil w hk c
    | some a => exact Src.ofSlice w hk a 0 c [] (by simp) (by simp) (by simp)
  · obtain ⟨b, off, arr, ty, fr, rfl, hh, hd⟩ := hne hr
    have hf := DRows.to_cells (sz := sz) hd
    have hl := DCells.len hf
    have hfl := flat_len fun r hr => (hs r hr).1
    refine ⟨(arr.toList.drop off).take (rows.length * sz), ?_, ?_, by rw [List.length_take]; omega⟩
    · refine Src.ofSlice w hk ⟨b, off, none⟩ rows.length c _ (by rw [List.length_take]; omega) (fun j u hu => cell_at hh j u (by
        rw [List.getElem?_take] at hu; split at hu <;> simp_all)) ?_
      have := DCells.takeLen hf
      rw [hfl] at this
      exact DCells.one (one_flat hs) (by rw [List.length_take]; omega) this
    · have := DCells.takeLen hf
      rwa [hfl] at this
def srcOK (T : Tab P) (E : Nat → Option D) (H : Nat → Ob) (t : Nat) (x : Operand) : Prop :=
  match ev T E t x with
  | some (.arr p o n) => match H p with | .arr _ rows => o + n ≤ rows.length | _ => False
  | _ => True
theorem srcRows_ok {sz t : Nat} {x : Operand} {rows : List (List D)} (h : srcRows T E H sz t x = some rows) (hok : srcOK T E H t x) {X ρ w} {a : Act} (r : Real T.glob X ρ w E H a.tmps) : (∀ r ∈ rows, r.length = sz ∧ r.all D.one = true) ∧
    ∃ cells, Src P sz t (a.eval x) rows.length cells w ∧ DCells X ρ w rows.flatten cells ∧ cells.length = rows.length * sz := by
  unfold srcRows at h
  split at h
  · rename_i e s z xs hd hx
    cases hb : Nat.beq s sz with
    | false => simp [hb] at h
    | true =>
      have hs := Nat.eq_of_beq_eq_true hb
      subst hs
      simp [hb] at h; subst h
      have hv := ev_cell r hx
      unfold DCell VCell at hv
      obtain ⟨h0, hr, hm, hz, A, c, hv, hl, hc, hne⟩ := hv
      have hrow : ∀ r ∈ xs.map (fun r => r.map D.v), r.length = s ∧ r.all D.one = true := by
        intro r hr'
        obtain ⟨q, hq, rfl⟩ := List.mem_map.1 hr'
        exact ⟨by simpa using (hr q hq).1, all_v (hr q hq).2⟩
      refine ⟨hrow, ?_⟩
      rw [hv]
      refine src_of_cells (T.slice hd) (by simp) hrow fun hn => ?_
      obtain ⟨b, off, cs, ty, fr, hA, hX, hh, hR⟩ := hne (by intro e; rw [e] at hn; simp at hn)
      exact ⟨b, off, cs, ty, fr, hA, hh, VRows.toD (fun r hm => (hr r hm).1) hR⟩
  · rename_i e p o' n hd hx
    split at h
    · rename_i s rows' hp
      cases hb : Nat.beq s sz with
      | false => simp [hb] at h
      | true =>
        have hs := Nat.eq_of_beq_eq_true hb
        subst hs
        simp [hb] at h; subst h
        have hv := ev_cell r hx
        have hob := r.obs p
        rw [hp] at hob
        obtain ⟨h0, hr, hm, hob⟩ := hob
        unfold DCell at hv
        have hrow : ∀ r ∈ (rows'.drop o').take n, r.length = s ∧ r.all D.one = true := fun r hr' => hr r (List.mem_of_mem_drop (List.mem_of_mem_take hr'))
        refine ⟨hrow, ?_⟩
        cases hq : ρ p with
        | hole => simp only [hq] at hv
        | dead => simp only [hq] at hob
        | null =>
          simp only [hq] at hv hob
          obtain ⟨⟨A, hv⟩, rfl, rfl⟩ := hv
          rw [hv]
          exact src_of_cells (T.slice hd) (by simp) hrow fun hn => by simp at hn
        | live b z cap =>
          simp only [hq] at hv hob
          obtain ⟨rfl, h2, h3, cs, ty, fr, hh, hcs, hf, hrr⟩ := hob
          obtain ⟨h4, h5, h6⟩ := hv
          unfold srcOK at hok
          simp only [hx, hp] at hok
          have hlen : ((rows'.drop o').take n).length = n := by simp; omega
          have fin : ∀ A c, (n ≠ 0 → A = some ⟨b, o' * z, none⟩) → ∃ cells, Src P z t (.slice A n c) ((rows'.drop o').take n).length cells w ∧ DCells X ρ w ((rows'.drop o').take n).flatten cells ∧ cells.length = ((rows'.drop o').take n).length * z := by
            intro A c hA
            refine src_of_cells (T.slice hd) hlen.symm hrow fun hn => ?_
            have hn0 : n ≠ 0 := by intro e; rw [e] at hn; simp at hn
            exact ⟨b, o' * z, cs, ty, fr, hA hn0, hh, DRows.take n (DRows.drop o' (fun r hr' => (hr r hr').1) hrr)⟩
          by_cases hc : o' < cap
          · rw [h5 hc]; exact fin _ _ fun _ => rfl
          · obtain ⟨A, hA⟩ := h6 (by omega)
            have hn0 : n = 0 := by omega
            rw [hA]
            have := fin (some A) 0 (fun h => absurd hn0 h)
            rw [hn0] at this ⊢
            exact this
    · cases h
  · rename_i s hd hx
    cases hb : Nat.beq 1 sz with
    | false => simp [hb] at h
    | true =>
      have hs := Nat.eq_of_beq_eq_true hb
      subst hs
      simp [hb] at h; subst h
      have hv := ev_cell r hx
      unfold DCell VCell at hv
      rw [hv]
      refine ⟨?_, byteCells s, ?_, ?_, ?_⟩
      · intro r hr
        obtain ⟨b, _, rfl⟩ := List.mem_map.1 hr
        exact ⟨rfl, rfl⟩
      · have := Src.ofString w (T.str hd) s
        rw [List.length_map, Array.length_toList]
        exact this
      · rw [bytes_rows]
        unfold byteCells
        refine DCells.of_get fun i d hd => ?_
        rw [List.getElem?_map] at hd ⊢
        cases hb : s.data.toList[i]? with
        | none => rw [hb] at hd; simp at hd
        | some b => rw [hb] at hd; simp at hd; subst hd; exact ⟨_, rfl, rfl⟩
      · rw [byteCells_length, List.length_map, Array.length_toList]; simp
  · cases h

def appendK (T : Tab P) (E : Nat → Option D) (H : Nat → Ob) (nx : Nat) (args : List Operand) (tys : List Nat) (K : KT) : Prop :=
  match args, tys with
  | [s, x], [t, tx] => match (T.ty t).d with
    | .slice e => match (T.ty e).size, (T.ty e).bytes, (T.ty e).zero with
      | n + 1, b + 1, z :: zs => match Nat.beq (zs.length + 1) (n + 1), srcRows T E H (n + 1) tx x with
        | true, some news => match ev T E t s with
          | some (.v (.sl sz true xs)) => match Nat.beq sz (n + 1) with
            | true => srcOK T E H tx x ∧ news.length * (b + 1) ≤ lenMax ∧ K (.arr nx 0 news.length) [(nx, .arr (n + 1) news)] [nx]
            | false => False
          | some (.arr p 0 len) => match H p with
            | .arr sz rows => match Nat.beq sz (n + 1) with
              | true => srcOK T E H tx x ∧ len ≤ rows.length ∧ (len + news.length) * (b + 1) ≤ lenMax ∧ K (.arr nx 0 (len + news.length)) [(p, .gone), (nx, .arr (n + 1) (rows.take len ++ news))] [nx]
              | false => False
            | _ => False
          | _ => False
        | _, _ => False
      | _, _, _ => False
    | _ => False
  | _, _ => False
theorem run_append_call {c : Call} {s x : Operand} {t tx : Nat} (ho : o.op = .call c) (hc : c.callee = .builtin .append) (ha : c.args.toList = [s, x]) (ht : c.argTypes.toList = [t, tx]) (a : Act) (w : World) {v : Value} {w1 : World}
    (h : (Builtin.append_ #[t, tx] o.type #[a.eval s, a.eval x]).run P w = .ok v w1) : (execOp a.eval o).run P w = .ok (.value v) w1 := by
  have h1 : c.args.map a.eval = #[a.eval s, a.eval x] := by rw [← Array.toList_inj]; simp [ha]
  have h2 : c.argTypes = #[t, tx] := by rw [← Array.toList_inj]; simp [ht]
  simp only [execOp, ho, resolve, hc, Sem.run_bind, Sem.run_pure, Result.andThen_ok, invoke, h1, h2, builtin, h]
/-- A step that gives a place p up for nx: nx lies where p lay, or nowhere. -/
theorem Step.moved (m : Mem X ρ w) {p nx : Nat} {s : Slot} (hnx : ρ nx = .hole) (hs : s = .null ∨ ∃ b sz cap, s = .live b sz cap ∧ ρ p = .live b sz cap) (w1 : World) (ho : w1.os = w.os) (ht : w1.tape = w.tape) (hu : w1.output = w.output) (hsz : w1.heap.size = w.heap.size)
    (hh : ∀ b, (∀ sz cap, ρ p ≠ .live b sz cap) → w1.heap[b]? = w.heap[b]?) : Step (fun q => q = p ∨ q = nx) X ρ w X (setSlot (setSlot ρ p .dead) nx s) w1 := by
  have get : ∀ q b sz cap, setSlot (setSlot ρ p .dead) nx s q = .live b sz cap → (q = nx ∧ ρ p = .live b sz cap) ∨ (q ≠ nx ∧ q ≠ p ∧ ρ q = .live b sz cap) := by
    intro q b sz cap h
    unfold setSlot at h
    split at h
    · rename_i hq
      rcases hs with rfl | ⟨b', sz', cap', rfl, hp⟩
      · cases h
      · injection h with h1 h2 h3; subst h1 h2 h3; exact .inl ⟨hq, hp⟩
    · split at h
      · cases h
      · exact .inr ⟨by assumption, by assumption, h⟩
  refine ⟨ho, ht, hu, by omega, ?_, ?_, ?_, fun b h => .inl h, fun b h => .inl h, ?_, ⟨?_, ?_, ?_⟩⟩
  · intro b hb hn; exact hh b fun sz cap e => hn p sz cap (.inl rfl) e
  · intro q
    by_cases h1 : q = nx
    · subst h1; exact .inl hnx
    · by_cases h2 : q = p
      · right; right; unfold setSlot; rw [if_neg h1, if_pos h2]
      · right; left; unfold setSlot; rw [if_neg h1, if_neg h2]
  · intro q hq
    unfold setSlot
    rw [if_neg (fun h => hq (.inr h)), if_neg (fun h => hq (.inl h))]
  · intro q b sz cap h
    rcases get q b sz cap h with ⟨_, h⟩ | ⟨_, _, h⟩
    · exact .inl ⟨p, sz, cap, h⟩
    · exact .inl ⟨q, sz, cap, h⟩
  · intro b h; rw [hsz]; exact m.lt b h
  · intro q b sz cap h
    rcases get q b sz cap h with ⟨_, h⟩ | ⟨_, _, h⟩
    · exact m.live p b sz cap h
    · exact m.live q b sz cap h
  · intro q q' b sz cap sz' cap' h h'
    rcases get q b sz cap h with ⟨h1, h2⟩ | ⟨h1, h2, h3⟩ <;> rcases get q' b sz' cap' h' with ⟨h1', h2'⟩ | ⟨h1', h2', h3'⟩
    · exact h1.trans h1'.symm
    · exact absurd (m.inj _ _ b _ _ _ _ h2 h3').symm h2'
    · exact absurd (m.inj _ _ b _ _ _ _ h2' h3).symm h2
    · exact m.inj _ _ b _ _ _ _ h3 h3'
/-- A step that gives p up for a new block at nx. -/
theorem Step.moved_new (m : Mem X ρ w) {p nx : Nat} (hnx : ρ nx = .hole) (sz cap : Nat) (x : Obj) (w1 : World) (hh : w1.heap = w.heap.push x) (ho : w1.os = w.os) (ht : w1.tape = w.tape) (hu : w1.output = w.output) :
    Step (fun q => q = p ∨ q = nx) X ρ w (fun b => X b ∨ b = w.heap.size) (setSlot (setSlot ρ p .dead) nx (.live w.heap.size sz cap)) w1 := by
  have get : ∀ q b s c, setSlot (setSlot ρ p .dead) nx (.live w.heap.size sz cap) q = .live b s c → (q = nx ∧ b = w.heap.size) ∨ (q ≠ nx ∧ q ≠ p ∧ ρ q = .live b s c) := by
    intro q b s c h
    unfold setSlot at h
    split at h
    · injection h with h1 h2 h3; exact .inl ⟨by assumption, h1.symm⟩
    · split at h
      · cases h
      · exact .inr ⟨by assumption, by assumption, h⟩
  refine ⟨ho, ht, hu, by rw [hh]; simp, ?_, ?_, ?_, fun b h => .inl (.inl h), ?_, ?_, ⟨?_, ?_, ?_⟩⟩
  · intro b hb _; rw [hh, Array.getElem?_push, if_neg (by omega)]
  · intro q
    by_cases h1 : q = nx
    · subst h1; exact .inl hnx
    · by_cases h2 : q = p
      · right; right; unfold setSlot; rw [if_neg h1, if_pos h2]
      · right; left; unfold setSlot; rw [if_neg h1, if_neg h2]
  · intro q hq
    unfold setSlot
    rw [if_neg (fun h => hq (.inr h)), if_neg (fun h => hq (.inl h))]
  · rintro b (h | h)
    · exact .inl h
    · exact .inr (by omega)
  · intro q b s c h
    rcases get q b s c h with ⟨_, h⟩ | ⟨_, _, h⟩
    · exact .inr (by omega)
    · exact .inl ⟨q, s, c, h⟩
  · rintro b (h | h)
    · have := m.lt b h; rw [hh]; simp; omega
    · rw [hh]; simp; omega
  · intro q b s c h
    rcases get q b s c h with ⟨_, h⟩ | ⟨_, _, h⟩
    · exact .inr h
    · exact .inl (m.live q b s c h)
  · intro q q' b s c s' c' h h'
    rcases get q b s c h with ⟨h1, h2⟩ | ⟨h1, h2, h3⟩ <;> rcases get q' b s' c' h' with ⟨h1', h2'⟩ | ⟨h1', h2', h3'⟩
    · exact h1.trans h1'.symm
    · have := m.lt b (m.live _ _ _ _ h3'); omega
    · have := m.lt b (m.live _ _ _ _ h3); omega
    · exact m.inj _ _ b _ _ _ _ h3 h3'
theorem zeroCells_size (z : Array Value) (n : Nat) : (Builtin.zeroCells z n).size = n * z.size := by simp [Builtin.zeroCells]
/-- The end of an append that makes a new block. -/
theorem app_new {J : Act → World → Prop} {a : Act} (r : Real T.glob X ρ w E H a.tmps) {p nx sz m cap : Nat} {e : TypeId} {rows : List (List D)} {ups : List (Nat × Ob)} (hnx : ρ nx = .hole) (hups : (ups = [(nx, .arr sz rows)] ∧ p = nx) ∨ ups = [(p, .gone), (nx, .arr sz rows)])
    (hK : ∀ d us v w' X' ρ', Just (.arr nx 0 m) ups d us → Step (fun p => p ∈ us.map (·.1)) X ρ w X' ρ' w' → DCell X' ρ' w' d v → (∀ x ∈ us, ObOK X' ρ' w' x.1 x.2) → J (a.put o.dst v) w')
    (hm : m = rows.length) (h0 : 0 < sz) (hrows : ∀ r ∈ rows, r.length = sz ∧ r.all D.one = true) (hmax : rows.length ≤ lenMax) (hpos : 0 < m) (hmc : m ≤ cap) (hcap : cap ≤ capMax) {cells : Array Value} (hcs : cells.size = cap * sz) (hd : DCells X ρ w rows.flatten cells.toList) :
    J (a.put o.dst (.slice (some ⟨w.heap.size, 0, none⟩) m cap)) (w.drew.alloc (.cells cells e)) := by
  have st := Step.moved_new r.mem (p := p) hnx sz cap (.cells cells e (0, 0)) (w.drew.alloc (.cells cells e)) rfl rfl rfl rfl
  have hslot : setSlot (setSlot ρ p .dead) nx (.live w.heap.size sz cap) nx = .live w.heap.size sz cap := if_pos rfl
  have hob : ObOK (fun b => X b ∨ b = w.heap.size) (setSlot (setSlot ρ p .dead) nx (.live w.heap.size sz cap)) (w.drew.alloc (.cells cells e)) nx (.arr sz rows) := by
    refine ⟨h0, hrows, hmax, ?_⟩
    simp only [hslot, true_and]
    refine ⟨by omega, hcap, cells, e, (0, 0), ?_, hcs, fun i _ => by simp, ?_⟩
    · show (w.heap.push _)[w.heap.size]? = _
      simp
    · exact DRows.keep (st.keeps r.mem) st.slots _ _ (DRows.of_cells (fun r hr => (hrows r hr).1) hd)
  refine hK _ _ _ _ (fun b => X b ∨ b = w.heap.size) (setSlot (setSlot ρ p .dead) nx (.live w.heap.size sz cap)) ⟨rfl, rfl⟩ ?_ ?_ ?_
  · have : (fun q => q ∈ ups.map (·.1)) = fun q => q = p ∨ q = nx := by
      rcases hups with ⟨rfl, rfl⟩ | rfl <;> funext q <;> simp
    rw [this]; exact st
  · unfold DCell
    simp only [hslot]
    refine ⟨by omega, fun _ => by simp, fun h => by omega⟩
  · intro x hx
    rcases hups with ⟨rfl, rfl⟩ | rfl
    · simp at hx; subst hx; exact hob
    · simp at hx
      rcases hx with rfl | rfl
      · trivial
      · exact hob
theorem src_nil {size : Nat} {tx : TypeId} {x : Value} {cells : List Value} (hs : Src P size tx x 0 cells w) : cells = [] := by
  have := hs.newsLen; simp at this; exact this
theorem run_append_idle (t tx ty e : TypeId) (i : TypeInfo) (ht : P.underlying t = some (.slice e)) (hi : P.info? e = some i) (base : Option Addr) (n c : Nat) (hn : n ≤ c) (x : Value) (news : List Value) (hs : Src P i.size tx x 0 news w) :
    (Builtin.append_ #[t, tx] ty #[.slice base n c, x]).run P w = .ok (.slice base n c) w := by
  have := src_nil hs
  subst this
  rcases hs.kind with ⟨e', hk⟩ | hk <;> simp [Builtin.append_, run_underlying ht, run_underlying hk, sizeOf, typeInfo, hi, hs.len, hn, hs.cells] <;> cases base <;> simp [storeCells]
theorem grownCap_bounds (w : World) (need old : Nat) (e : TypeId) (h : need ≤ capMax) : need ≤ grownCap w need old e ∧ grownCap w need old e ≤ capMax := by
  unfold grownCap Question.cut
  simp only
  have e63 : (2 : Nat) ^ 63 = 9223372036854775808 := rfl
  rw [e63]
  unfold capMax at h ⊢
  have h2 : 0 < 9223372036854775808 - need := by omega
  have := Nat.mod_lt (w.tape w.drawn (.appendCap need old e)) h2
  omega
theorem append_does {J : KT} {nx : Nat} {c : Call} (h : appendK T E H nx c.args.toList c.argTypes.toList J) (ho : o.op = .call c) (hc : c.callee = .builtin .append) : ∃ d ups nw, J d ups nw ∧ (∀ p ∈ nw, p = nx) ∧ Does T o E H nw (Just d ups) := by
  unfold appendK at h
  split at h
  · rename_i s x t tx ha hty
    split at h
    · rename_i e hd
      split at h
      · rename_i n b z zs hsz hby hz
        have hs0 : 0 < (T.ty e).size := by rw [hsz]; simp
        obtain ⟨i, u, hi, hu, his, hib, hti⟩ := T.info hs0
        have hisz : i.size = n + 1 := by rw [his, hsz]
        have hiby : i.bytes = b + 1 := by rw [hib, hby]
        have hne : (T.ty e).zero ≠ [] := by rw [hz]; simp
        split at h
        · rename_i news hzl hnews
          obtain ⟨zv, hzv, hzvs⟩ : ∃ zv, i.zero = some zv ∧ zv.cells.size = n + 1 := by
            obtain ⟨i', z', h1, h2, h3⟩ := T.zero_info hne
            rw [hi] at h1; injection h1 with h1; subst h1
            have := Nat.eq_of_beq_eq_true hzl
            exact ⟨z', h2, by rw [h3, hz]; simpa using this⟩
          split at h
          · -- a base without capacity
            rename_i sz xs hs
            split at h
            · rename_i hb
              have hb := Nat.eq_of_beq_eq_true hb
              subst hb
              obtain ⟨hok, hbd, h⟩ := h
              refine ⟨_, _, _, h, by simp, ?_⟩
              intro X ρ w a Q K r hnw hK
              obtain ⟨hrow, cells, hsrc, hdc, hcl⟩ := srcRows_ok hnews hok r
              have hv := ev_cell r hs
              unfold DCell VCell at hv
              obtain ⟨_, _, _, hz1, A0, c0, e1, e2, _⟩ := hv
              obtain ⟨A, hA⟩ := hz1 rfl
              have hnx := hnw nx (by simp)
              unfold Oper.wp
              by_cases hn0 : news = []
              · subst hn0
                rw [run_append_call ho hc ha hty a w (by rw [hA]; exact run_append_idle t tx _ e i (T.slice hd) hi A 0 0 (Nat.le_refl _) _ cells (by rw [hisz]; exact hsrc))]
                have st := Step.moved r.mem (p := nx) hnx (.inl rfl) w rfl rfl rfl rfl (fun _ _ => rfl)
                refine hK _ _ _ _ X (setSlot (setSlot ρ nx .dead) nx .null) ⟨rfl, rfl⟩ ?_ ?_ ?_
                · have : (fun q => q ∈ [(nx, Ob.arr (n + 1) [])].map (·.1)) = fun q => q = nx ∨ q = nx := by funext q; simp
                  rw [this]; exact st
                · unfold DCell; simp [setSlot]
                · intro x hx; simp at hx; subst hx
                  exact ⟨by omega, by simp, by simp, by simp [setSlot]⟩
              · have hpos : 0 < news.length := List.length_pos_iff.2 hn0
                have hfit : Builtin.nextslicecap (0 + news.length) 0 * i.bytes ≤ 281474976710656 := by
                  have h1 := nextcap_le (need := 0 + news.length) (old := 0) (by omega)
                  have h2 := Nat.mul_le_mul_right i.bytes h1
                  rw [hiby] at h2 ⊢
                  simp only [Nat.zero_add, lenMax] at h2 hbd ⊢
                  rw [Nat.mul_assoc] at h2; omega
                have hb1 : news.length ≤ lenMax := by
                  have : news.length * 1 ≤ news.length * (b + 1) := Nat.mul_le_mul_left _ (by omega)
                  omega
                have hrun := run_append_grow_src (P := P) w t tx o.type e i zv (T.slice hd) hi hzv A 0 0 [] (by cases A <;> simp [Builtin.firstCells, loadCells, loadCellsFrom]) (a.eval x) news.length cells (by rw [hisz]; exact hsrc) (by omega) (by simp [lenMax] at hb1; omega) hfit
                rw [run_append_call ho hc ha hty a w (by rw [hA]; exact hrun)]
                simp only [Nat.zero_add] at hrun ⊢
                have hcap := grownCap_bounds w news.length 0 e (by simp [lenMax, capMax] at hb1 ⊢; omega)
                refine app_new r hnx (.inl ⟨rfl, rfl⟩) hK rfl (by omega) hrow hb1 hpos hcap.1 hcap.2 ?_ ?_
                · simp [zeroCells_size, hzvs, hcl]
                  rw [← Nat.add_mul]; congr 1; omega
                · simp
                  exact DCells.more hdc
            · exact h.elim
          · -- a base of the call's own
            rename_i p len hs
            split at h
            · rename_i sz rows hp
              split at h
              · rename_i hb
                have hb := Nat.eq_of_beq_eq_true hb
                subst hb
                obtain ⟨hok, hlen, hbd, h⟩ := h
                refine ⟨_, _, _, h, by simp, ?_⟩
                intro X ρ w a Q K r hnw hK
                obtain ⟨hrow, cells, hsrc, hdc, hcl⟩ := srcRows_ok hnews hok r
                have hv := ev_cell r hs
                have hnx := hnw nx (by simp)
                have hob := r.obs p
                rw [hp] at hob
                obtain ⟨h0, hr1, hmx, hob⟩ := hob
                unfold DCell at hv
                have hb1 : len + news.length ≤ lenMax := by
                  have : (len + news.length) * 1 ≤ (len + news.length) * (b + 1) := Nat.mul_le_mul_left _ (by omega)
                  omega
                have hrows' : ∀ r ∈ rows.take len ++ news, r.length = n + 1 ∧ r.all D.one = true := by
                  intro r hr
                  rcases List.mem_append.1 hr with h | h
                  · exact hr1 r (List.mem_of_mem_take h)
                  · exact hrow r h
                have hlen' : (rows.take len ++ news).length = len + news.length := by simp; omega
                have hfun : (fun q => q ∈ [(p, Ob.gone), (nx, Ob.arr (n + 1) (rows.take len ++ news))].map (·.1)) = fun q => q = p ∨ q = nx := by funext q; simp
                unfold Oper.wp
                -- where there is no room
                have grow : ∀ (A : Option Addr) (cap : Nat) (olds : List Value), (Builtin.firstCells i.size len (.slice A len cap)).run P w.drew = .ok olds.toArray w.drew → a.eval s = .slice A len cap → cap < len + news.length →
                    DCells X ρ w (rows.take len).flatten olds → olds.length = len * (n + 1) → o.upon P a K Q ((execOp a.eval o).run P w) := by
                  intro A cap olds hfc hsv hroom hdo hol
                  have hfit : Builtin.nextslicecap (len + news.length) cap * i.bytes ≤ 281474976710656 := by
                    have h1 := nextcap_le (need := len + news.length) (old := cap) (by omega)
                    have h2 := Nat.mul_le_mul_right i.bytes h1
                    rw [hiby] at h2 ⊢
                    simp only [lenMax] at h2 hbd ⊢
                    rw [Nat.mul_assoc] at h2; omega
                  have hrun := run_append_grow_src (P := P) w t tx o.type e i zv (T.slice hd) hi hzv A len cap olds hfc (a.eval x) news.length cells (by rw [hisz]; exact hsrc) hroom (by simp [lenMax] at hb1; omega) hfit
                  rw [run_append_call ho hc ha hty a w (by rw [hsv]; exact hrun)]
                  have hcap := grownCap_bounds w (len + news.length) cap e (by simp [lenMax, capMax] at hb1 ⊢; omega)
                  refine app_new r hnx (.inr rfl) hK hlen'.symm (by omega) hrows' (by rw [hlen']; exact hb1) (by omega) hcap.1 hcap.2 ?_ ?_
                  · simp [zeroCells_size, hzvs, hcl, hol]
                    rw [← Nat.add_mul, ← Nat.add_mul]; congr 1; omega
                  · rw [List.flatten_append]
                    simp only [Array.toList_append, List.append_assoc]
                    refine DCells.append (DCells.more hdo) ?_
                    have : (rows.take len).flatten.length = olds.length := by
                      rw [flat_len (sz := n + 1) (fun r hr => (hr1 r (List.mem_of_mem_take hr)).1), hol]; congr 1; simp; omega
                    rw [this, List.drop_left]
                    exact DCells.more hdc
                -- where nothing is appended to a slice without capacity
                have idle : ∀ A : Option Addr, a.eval s = .slice A 0 0 → len = 0 → news = [] → o.upon P a K Q ((execOp a.eval o).run P w) := by
                  intro A hsv hl0 hn0
                  subst hl0; subst hn0
                  rw [run_append_call ho hc ha hty a w (by rw [hsv]; exact run_append_idle t tx _ e i (T.slice hd) hi A 0 0 (Nat.le_refl _) _ cells (by rw [hisz]; exact hsrc))]
                  have st := Step.moved r.mem (p := p) hnx (.inl rfl) w rfl rfl rfl rfl (fun _ _ => rfl)
                  refine hK _ _ _ _ X (setSlot (setSlot ρ p .dead) nx .null) ⟨rfl, rfl⟩ (by rw [hfun]; exact st) ?_ ?_
                  · unfold DCell; simp [setSlot]
                  · intro x hx; simp at hx
                    rcases hx with rfl | rfl
                    · trivial
                    · exact ⟨by omega, by simp, by simp, by simp [setSlot]⟩
                cases hq : ρ p with
                | hole => simp only [hq] at hv
                | dead => simp only [hq] at hob
                | null =>
                  simp only [hq] at hv hob
                  obtain ⟨⟨A, hA⟩, _, rfl⟩ := hv
                  by_cases hn0 : news = []
                  · exact idle A hA rfl hn0
                  · have hpos : 0 < news.length := List.length_pos_iff.2 hn0
                    exact grow A 0 [] (by cases A <;> simp [Builtin.firstCells, loadCells, loadCellsFrom]) hA (by omega) (by simp [DCells]) (by simp)
                | live b' z' cap =>
                  simp only [hq] at hv hob
                  obtain ⟨rfl, h2, h3, arr, e', fr, hh, hcs, hf, hrr⟩ := hob
                  obtain ⟨h4, h5, h6⟩ := hv
                  by_cases hc0 : 0 < cap
                  · have hsv := h5 hc0
                    simp only [Nat.zero_mul, Nat.sub_zero] at hsv
                    have hfl := DRows.to_cells (sz := n + 1) (DRows.take len hrr)
                    have hfln := flat_len (sz := n + 1) (rows := rows.take len) (fun r hr => (hr1 r (List.mem_of_mem_take hr)).1)
                    have hfln : (rows.take len).flatten.length = len * (n + 1) := by rw [hfln]; congr 1; simp; omega
                    have hlc : len * (n + 1) ≤ arr.size := by rw [hcs]; exact Nat.mul_le_mul_right _ (by omega)
                    by_cases hroom : len + news.length ≤ cap
                    · have hnl : (len + news.length) * (n + 1) ≤ arr.size := by rw [hcs]; exact Nat.mul_le_mul_right _ hroom
                      rw [Nat.add_mul] at hnl
                      have hst := run_storeCells_ok (P := P) b' (len * (n + 1)) e' fr cells 0 arr w hh (by omega) (fun k hk => hf k (Nat.le_of_lt hk)) hsrc.one
                      rw [Nat.add_zero] at hst
                      have hrun : (Builtin.append_ #[t, tx] o.type #[a.eval s, a.eval x]).run P w = .ok (.slice (some ⟨b', 0, none⟩) (len + news.length) cap) (w.setRow b' (splice arr.toList (len * (n + 1)) cells).toArray) := by
                        rw [hsv]
                        rcases hsrc.kind with ⟨e2, hk⟩ | hk <;> simp [Builtin.append_, run_underlying (T.slice hd), run_underlying hk, sizeOf, typeInfo, hi, hsrc.len, hroom, hsrc.cells, addr_add, hisz, hst]
                      rw [run_append_call ho hc ha hty a w hrun]
                      have st := Step.moved r.mem (p := p) hnx (.inr ⟨b', n + 1, cap, rfl, hq⟩) (w.setRow b' (splice arr.toList (len * (n + 1)) cells).toArray) rfl rfl rfl (by simp) (fun q hne => setRow_other w b' q _ (fun e => hne (n + 1) cap (e ▸ hq)))
                      refine hK _ _ _ _ X (setSlot (setSlot ρ p .dead) nx (.live b' (n + 1) cap)) ⟨rfl, rfl⟩ (by rw [hfun]; exact st) ?_ ?_
                      · unfold DCell
                        simp only [setSlot, if_true]
                        exact ⟨by omega, fun _ => by simp, fun h => by omega⟩
                      · intro y hy; simp at hy
                        rcases hy with rfl | rfl
                        · trivial
                        · refine ⟨by omega, hrows', by rw [hlen']; exact hb1, ?_⟩
                          simp only [setSlot, if_true, true_and]
                          have hsl : (splice arr.toList (len * (n + 1)) cells).length = arr.size := by rw [splice_length (by simp; omega)]; simp
                          refine ⟨by rw [hlen']; exact hroom, h3, _, e', fr, setRow_heap w b' arr _ e' fr hh, by simp [hsl, hcs], by simpa [hsl] using hf, ?_⟩
                          refine DRows.keep (st.keeps r.mem) st.slots _ _ (DRows.of_cells (fun r hr => (hrows' r hr).1) ?_)
                          rw [List.flatten_append]
                          simp only [splice, List.append_assoc]
                          have htk := DCells.takeLen hfl
                          rw [hfln] at htk
                          refine DCells.append (DCells.more htk) ?_
                          have : (arr.toList.take (len * (n + 1))).length = (rows.take len).flatten.length := by rw [hfln, List.length_take]; simp; omega
                          rw [← this, List.drop_left]
                          exact DCells.more hdc
                    · have htk := DCells.takeLen hfl
                      rw [hfln] at htk
                      refine grow _ cap (arr.toList.take (len * (n + 1))) ?_ hsv (by omega) htk (by rw [List.length_take]; simp; omega)
                      have hl : (arr.toList.take (len * (n + 1))).length = len * i.size := by rw [List.length_take, hisz]; simp; omega
                      refine run_firstCells_some w.drew i.size len ⟨b', 0, none⟩ len cap _ hl (fun j u hu => ?_)
                      have := cell_at (w := w) (off := 0) hh j u (by
                        rw [List.getElem?_take] at hu; split at hu <;> simp_all)
                      simpa using this
                  · obtain ⟨A, hA⟩ := h6 (by omega)
                    have hl0 : len = 0 := by omega
                    by_cases hn0 : news = []
                    · exact idle (some A) hA hl0 hn0
                    · have hpos : 0 < news.length := List.length_pos_iff.2 hn0
                      subst hl0
                      exact grow (some A) 0 [] (by simp [Builtin.firstCells, loadCells, loadCellsFrom]) hA (by omega) (by simp [DCells]) (by simp)
              · exact h.elim
            · exact h.elim
          · exact h.elim
        · exact h.elim
      · exact h.elim
    · exact h.elim
  · exact h.elim
end
end Go.DL

/- DL, part 7: the state as lists; a region in the order of its text; code. Own work; no condition. -/
set_option linter.unusedVariables false
set_option linter.unusedSimpArgs false
namespace Go.DL
open Go.RowKit

section
variable {P : Program} {T : Tab P}

/-! ##### one operation -/
def opD (T : Tab P) (E : Nat → Option D) (H : Nat → Ob) (nx : Nat) (o : Oper) (K : KT) : Prop :=
  match o.op with
  | .alloc t => boxK nx (some ((T.ty t).zero.map .v)) K
  | .box t x => boxK nx ((ev T E t x).bind D.cells1) K
  | .build t parts => buildK T E t parts.toList fun d => K d [] []
  | .buildSlice t len parts => buildSliceK T E nx t len parts.toList K
  | .store t x y => storeK T E H t x y K
  | .makeFunc fn first caps => match fn, first.toList, (evs T E (fun _ => 0) (caps.toList.map fun x => (0, x))) with
    | .func f, [], ds => match seqD ds with | some ds => K (.fn f ds) [] [] | none => False
    | _, _, _ => False
  | .call c => match c.callee with
    | .builtin .append => appendK T E H nx c.args.toList c.argTypes.toList K
    | _ => valK T E H o fun d => K d [] []
  | _ => valK T E H o fun d => K d [] []
where
  seqD : List (Nat × Option D) → Option (List D)
    | [] => some []
    | (_, some d) :: r => (seqD r).map (d :: ·)
    | (_, none) :: _ => none
theorem seqD_cells {E : Nat → Option D} {H : Nat → Ob} {X : Nat → Prop} {ρ : Nat → Slot} {w : World} {a : Act} (r : Real T.glob X ρ w E H a.tmps) : ∀ {l : List Operand} {ds : List D}, opD.seqD (evs T E (fun _ => 0) (l.map fun x => (0, x))) = some ds →
    DCells X ρ w ds (l.map a.eval) ∧ (l.map a.eval).length = ds.length
  | [], ds, h => by simp [evs, opD.seqD] at h; subst h; exact ⟨trivial, rfl⟩
  | x :: l, ds, h => by
    simp only [List.map_cons, evs] at h
    cases hx : ev T E 0 x with
    | none => rw [hx] at h; simp [opD.seqD] at h
    | some d =>
      rw [hx] at h
      simp [opD.seqD] at h
      obtain ⟨es, he, rfl⟩ := h
      obtain ⟨h1, h2⟩ := seqD_cells r he
      exact ⟨⟨ev_cell r hx, h1⟩, by simpa using h2⟩
theorem opD_does {E : Nat → Option D} {H : Nat → Ob} {nx : Nat} {o : Oper} {J : KT} (h : opD T E H nx o J) : ∃ d ups nw, J d ups nw ∧ (∀ p ∈ nw, p = nx) ∧ Does T o E H nw (Just d ups) := by
  unfold opD at h
  split at h
  · rename_i t ho; exact alloc_does h ho
  · rename_i t x ho; exact box_does h ho
  · rename_i t parts ho
    obtain ⟨d, hJ, hv⟩ := build_val (H := H) h ho
    exact ⟨d, [], [], hJ, by simp, hv.does⟩
  · rename_i t len parts ho; exact buildSlice_does h ho
  · rename_i t x y ho; exact storeK_does h ho
  · rename_i fn first caps ho
    split at h
    · rename_i f hfirst
      split at h
      · rename_i ds hds
        refine ⟨_, [], [], h, by simp, does_value fun X ρ w a r => ?_⟩
        obtain ⟨h1, h2⟩ := seqD_cells r hds
        refine ⟨.func (.func f) #[] (caps.map a.eval), ?_, caps.toList.map a.eval, by rw [← Array.toList_map], h2, h1⟩
        have hf : first = #[] := by rw [← Array.toList_inj]; simpa using hfirst
        simp [execOp, ho, Instr.makeFunc, hf]
      · exact h.elim
    · exact h.elim
  · rename_i c ho
    split at h
    · rename_i hc; exact append_does h ho hc
    · obtain ⟨d, hJ, hv⟩ := valK_val h
      exact ⟨d, [], [], hJ, by simp, hv.does⟩
  · obtain ⟨d, hJ, hv⟩ := valK_val h
    exact ⟨d, [], [], hJ, by simp, hv.does⟩

/-! ##### the state as lists -/
structure St where
  env : List (Nat × D)
  heap : List Ob
  dec : List (Nat × Bool)
def look {α : Type} : List (Nat × α) → Nat → Option α
  | [], _ => none
  | (t, d) :: r, u => bif Nat.beq t u then some d else look r u
def setOb : List Ob → Nat → Ob → List Ob
  | [], 0, x => [x]
  | [], n + 1, x => .gone :: setOb [] n x
  | _ :: l, 0, x => x :: l
  | y :: l, n + 1, x => y :: setOb l n x
def obAt : List Ob → Nat → Ob
  | [], _ => .gone
  | x :: _, 0 => x
  | _ :: l, n + 1 => obAt l n
theorem obAt_set : ∀ (l : List Ob) (p : Nat) (x : Ob) (q : Nat), obAt (setOb l p x) q = if q = p then x else obAt l q
  | [], 0, x, 0 => rfl
  | [], 0, x, q + 1 => by simp [setOb, obAt]
  | [], p + 1, x, 0 => by simp [setOb, obAt]
  | [], p + 1, x, q + 1 => by simp [setOb, obAt, obAt_set [] p x q]
  | y :: l, 0, x, 0 => rfl
  | y :: l, 0, x, q + 1 => by simp [setOb, obAt]
  | y :: l, p + 1, x, 0 => by simp [setOb, obAt]
  | y :: l, p + 1, x, q + 1 => by simp [setOb, obAt, obAt_set l p x q]
theorem setOb_length : ∀ (l : List Ob) (p : Nat) (x : Ob), l.length ≤ (setOb l p x).length ∧ p < (setOb l p x).length
  | [], 0, x => by simp [setOb]
  | [], p + 1, x => by have := setOb_length [] p x; simp [setOb]; omega
  | y :: l, 0, x => by simp [setOb]
  | y :: l, p + 1, x => by have := setOb_length l p x; simp [setOb]; omega
def setObs (l : List Ob) : List (Nat × Ob) → List Ob
  | [] => l
  | (p, x) :: r => setObs (setOb l p x) r
/-- Is a place named once? (what ops tell names each place once) -/
theorem setObs_at : ∀ (ups : List (Nat × Ob)) (l : List Ob), (∀ x ∈ ups, x.1 < (setObs l ups).length) ∧ l.length ≤ (setObs l ups).length ∧ ∀ q, (q ∉ ups.map (·.1) → obAt (setObs l ups) q = obAt l q) ∧ (q ∈ ups.map (·.1) → ∃ x ∈ ups, x.1 = q ∧ obAt (setObs l ups) q = x.2)
  | [], l => ⟨by simp, Nat.le_refl _, fun q => ⟨fun _ => rfl, fun h => by simp at h⟩⟩
  | (p, x) :: r, l => by
    obtain ⟨h1, h2, h3⟩ := setObs_at r (setOb l p x)
    have hs := setOb_length l p x
    refine ⟨?_, by show l.length ≤ (setObs (setOb l p x) r).length; omega, fun q => ⟨fun hq => ?_, fun hq => ?_⟩⟩
    · intro y hy
      rcases List.mem_cons.1 hy with rfl | hy
      · show p < (setObs (setOb l p x) r).length; omega
      · exact h1 y hy
    · simp at hq
      have := (h3 q).1 (by simpa using hq.2)
      show obAt (setObs (setOb l p x) r) q = _
      rw [this, obAt_set, if_neg hq.1]
    · by_cases hr : q ∈ r.map (·.1)
      · obtain ⟨y, hy, e1, e2⟩ := (h3 q).2 hr
        exact ⟨y, List.mem_cons_of_mem _ hy, e1, e2⟩
      · have := (h3 q).1 hr
        simp at hq
        have hqp : q = p := by
          rcases hq with h | h
          · exact h
          · exfalso; apply hr; simpa using h
        subst hqp
        refine ⟨(q, x), List.mem_cons_self, rfl, ?_⟩
        show obAt (setObs (setOb l q x) r) q = _
        rw [this, obAt_set, if_pos rfl]
def purge (t : Nat) : List (Nat × Bool) → List (Nat × Bool)
  | [] => []
  | (u, b) :: r => bif Nat.beq u t then purge t r else (u, b) :: purge t r
theorem look_purge (t : Nat) : ∀ (l : List (Nat × Bool)) (u : Nat) (b : Bool), look (purge t l) u = some b → u ≠ t ∧ look l u = some b
  | [], u, b, h => by simp [purge, look] at h
  | (v, c) :: l, u, b, h => by
    simp only [purge] at h
    cases hv : Nat.beq v t with
    | true =>
      simp only [hv, cond_true] at h
      obtain ⟨h1, h2⟩ := look_purge t l u b h
      refine ⟨h1, ?_⟩
      have := Nat.eq_of_beq_eq_true hv
      subst this
      have hne : Nat.beq v u = false := by
        cases hb : Nat.beq v u with
        | false => rfl
        | true => exact absurd (Nat.eq_of_beq_eq_true hb).symm h1
      simp [look, hne, h2]
    | false =>
      simp only [hv, cond_false, look] at h ⊢
      cases hu : Nat.beq v u with
      | true =>
        simp only [hu, cond_true] at h ⊢
        have := Nat.eq_of_beq_eq_true hu
        subst this
        refine ⟨fun e => ?_, h⟩
        subst e
        rw [Nat.beq_refl] at hv; cases hv
      | false =>
        simp only [hu, cond_false] at h ⊢
        exact look_purge t l u b h
def St.put (σ : St) (dst : Option Nat) (d : D) (ups : List (Nat × Ob)) : St :=
  match dst with
  | some t => ⟨(t, d) :: σ.env, setObs σ.heap ups, purge t σ.dec⟩
  | none => ⟨σ.env, setObs σ.heap ups, σ.dec⟩
/-! The same, told so that a machine that works from outside in meets states that are written out. -/
/-! The number of the next place, as a numeral. -/
def lenGo {α : Type} : List α → List Nat → (Nat → Prop) → Prop → Prop
  | [], n :: _, K, _ => K n
  | _ :: l, _ :: ns, K, F => lenGo l ns K F
  | _, [], _, F => F
def lenN : List Nat := [0, 1, 2, 3, 4, 5, 6, 7, 8, 9, 10, 11, 12, 13, 14, 15, 16, 17, 18, 19, 20, 21, 22, 23, 24, 25, 26, 27, 28, 29, 30, 31, 32, 33, 34, 35, 36, 37, 38, 39]
def lenK {α : Type} (l : List α) (K : Nat → Prop) : Prop := lenGo l lenN K (K l.length)
theorem lenGo_eq {α : Type} : ∀ (l : List α) (ns : List Nat) (s : Nat) (K : Nat → Prop) (F : Prop), ns = List.range' s ns.length → F = K (s + l.length) → lenGo l ns K F = K (s + l.length)
  | [], [], s, K, F, _, hF => hF
  | _ :: l, [], s, K, F, _, hF => hF
  | [], n :: ns, s, K, F, h, _ => by
    simp only [List.length_cons, List.range'_succ, List.cons.injEq] at h
    simp [lenGo, h.1]
  | _ :: l, n :: ns, s, K, F, h, hF => by
    simp only [List.length_cons, List.range'_succ, List.cons.injEq] at h
    simp only [lenGo]
    rw [lenGo_eq l ns (s + 1) K F h.2 (by rw [hF, List.length_cons]; congr 1; omega), List.length_cons]
    congr 1; omega
theorem lenK_eq {α : Type} {l : List α} {K : Nat → Prop} : lenK l K = K l.length := by
  unfold lenK
  rw [lenGo_eq l lenN 0 K _ (by decide) (by rw [Nat.zero_add]), Nat.zero_add]
def putK (σ : St) (dst : Option Nat) (d : D) (ups : List (Nat × Ob)) (K : St → Prop) : Prop :=
  match σ with
  | ⟨e, h, c⟩ => match ups with
    | [] => match dst with
      | some t => forceL (purge t c) fun c => K ⟨(t, d) :: e, h, c⟩
      | none => K ⟨e, h, c⟩
    | _ :: _ => forceL (setObs h ups) fun h => match dst with
      | some t => forceL (purge t c) fun c => K ⟨(t, d) :: e, h, c⟩
      | none => K ⟨e, h, c⟩
theorem putK_eq {σ : St} {dst : Option Nat} {d : D} {ups : List (Nat × Ob)} {K : St → Prop} : putK σ dst d ups K = K (σ.put dst d ups) := by
  obtain ⟨e, h, c⟩ := σ
  cases ups <;> cases dst <;> simp [putK, forceL_eq, St.put, setObs]
def litK (t : Nat) (b : Bool) (σ : St) (K : St → Prop) : Prop := match σ with | ⟨e, h, c⟩ => K ⟨(t, .v (.bool b)) :: e, h, (t, b) :: c⟩
def endK (σ : St) (K : St → Prop) : Prop := match σ with | ⟨e, h, _⟩ => K ⟨e, h, []⟩
theorem endK_eq {σ : St} {K : St → Prop} : endK σ K = K ⟨σ.env, σ.heap, []⟩ := by cases σ; rfl
/-- Where a call began. -/
structure Ctx where
  X : Nat → Prop
  ρ : Nat → Slot
  w : World
  N : Nat
  mem : Mem X ρ w
structure Con (T : Tab P) (C : Ctx) (σ : St) (a : Act) (w : World) : Prop where
  size : a.tmps.size = C.N
  defers : a.defers = []
  dec : ∀ t b, look σ.dec t = some b → a.tmps[t]? = some (.bool b)
  real : ∃ X ρ, Real T.glob X ρ w (look σ.env) (obAt σ.heap) a.tmps ∧ Step (fun _ => True) C.X C.ρ C.w X ρ w ∧ ∀ q, σ.heap.length ≤ q → ρ q = .hole
def dstOk (N : Nat) : Option Nat → Prop
  | some t => match Nat.blt t N with | true => True | false => False
  | none => True
theorem Con.put {C : Ctx} {σ : St} {a : Act} {w : World} (c : Con T C σ a w) {X ρ} (r : Real T.glob X ρ w (look σ.env) (obAt σ.heap) a.tmps) (s0 : Step (fun _ => True) C.X C.ρ C.w X ρ w) (hh : ∀ q, σ.heap.length ≤ q → ρ q = .hole)
    {dst : Option Nat} {d : D} {ups : List (Nat × Ob)} {v : Value} {w' : World} {X' : Nat → Prop} {ρ' : Nat → Slot} (st : Step (fun p => p ∈ ups.map (·.1)) X ρ w X' ρ' w') (hd : DCell X' ρ' w' d v) (ho : ∀ x ∈ ups, ObOK X' ρ' w' x.1 x.2)
    (hdst : ∀ t, dst = some t → t < C.N) : Con T C (σ.put dst d ups) (a.put dst v) w' := by
  obtain ⟨h1, h2, h3⟩ := setObs_at ups σ.heap
  have hlook : look (σ.put dst d ups).env = updE (look σ.env) dst d := by
    funext u
    cases dst with
    | none => simp [St.put, updE]
    | some t =>
      simp only [St.put, updE, look]
      by_cases h : t = u
      · subst h; simp
      · have : Nat.beq t u = false := by
          cases hb : Nat.beq t u with
          | false => rfl
          | true => exact absurd (Nat.eq_of_beq_eq_true hb) h
        simp [this, h]
  have hheap : (σ.put dst d ups).heap = setObs σ.heap ups := by cases dst <;> rfl
  refine ⟨by cases dst <;> simp [Act.put, c.size], by cases dst <;> simp [Act.put, c.defers], ?_, X', ρ', ?_, Step.trans s0 st C.mem, ?_⟩
  · intro t b ht
    cases dst with
    | none => exact c.dec t b ht
    | some u =>
      obtain ⟨hne, hl⟩ := look_purge u σ.dec t b ht
      simp [Act.put, Array.getElem?_setIfInBounds_ne (Ne.symm hne), c.dec t b hl]
  · rw [hlook, hheap]
    refine Real.step r st dst hd (fun t ht => by rw [c.size]; exact hdst t ht) fun p => ⟨fun hp => ?_, fun hp => (h3 p).1 hp⟩
    obtain ⟨x, hx, e1, e2⟩ := (h3 p).2 hp
    rw [e2, ← e1]; exact ho x hx
  · intro q hq
    rw [hheap] at hq
    have hn : q ∉ ups.map (·.1) := by
      intro h
      obtain ⟨x, hx, rfl⟩ := List.mem_map.1 h
      have := h1 x hx; omega
    rw [st.same q hn]
    exact hh q (by omega)
end
end Go.DL

/- DL, part 8: regions in the order of their text, code, loops, returns. Own work; no condition. -/
set_option linter.unusedVariables false
set_option linter.unusedSimpArgs false
namespace Go.DL
open Go.RowKit

section
variable {P : Program} {T : Tab P}

/-! ##### a region in the order of its text -/
/-- A call of a Go function, or what the machine does in its place: proved by a contract. -/
def CallOp (T : Tab P) (o : Oper) (E : Nat → Option D) (H : Nat → Ob) (nx : Nat) (K : KT) : Prop :=
  ∃ nw R, (∀ p ∈ nw, nx ≤ p) ∧ Does T o E H nw R ∧ ∀ d ups, R d ups → K d ups nw
def dstB (N : Nat) : Option Nat → Bool
  | some t => Nat.blt t N
  | none => true
def isCall : Op → Bool
  | .call c => match c.callee with | .value _ | .invoke .. => true | .builtin b => match b with | .len | .min | .max => false | _ => true
  | .makeSlice .. => true
  | .range .. | .next .. | .slice .. => true
  | .binOp _ _ _ (.const (.slice ..)) _ => true
  | .convert .. => false
  | _ => false
def execK (T : Tab P) (N : Nat) (o : Oper) (σ : St) (K : St → Prop) : Prop :=
  match dstB N o.dst, isCall o.op with
  | true, true => lenK σ.heap fun nx => CallOp T o (look σ.env) (obAt σ.heap) nx fun d ups _ => putK σ o.dst d ups K
  | true, false => lenK σ.heap fun nx => opD T (look σ.env) (obAt σ.heap) nx o fun d ups _ => putK σ o.dst d ups K
  | false, _ => False
def nthDst : List Oper → Nat → Option Nat
  | [], _ => none
  | o :: _, 0 => o.dst
  | _ :: l, n + 1 => nthDst l n
theorem nthDst_eq : ∀ (l : List Oper) (j : Nat), nthDst l j = (l[j]?).bind (·.dst)
  | [], j => by simp [nthDst]
  | o :: l, 0 => by simp [nthDst]
  | o :: l, j + 1 => by simp [nthDst, nthDst_eq l j]
def pickLit (want lit : Bool) (A B : Prop) : Prop := match want, lit with | true, true | false, false => A | _, _ => B
def litSt (t : Nat) (b : Bool) (σ : St) : St := ⟨(t, .v (.bool b)) :: σ.env, σ.heap, (t, b) :: σ.dec⟩
theorem litK_eq {t : Nat} {b : Bool} {σ : St} {K : St → Prop} : litK t b σ K = K (litSt t b σ) := by cases σ; rfl
/-- Of an operation that was left out nothing is asked. -/
def rawK (u : Value) (A : Prop) : Prop := match u with
  | .bool _ => False
  | _ => A
theorem rawK_out {u : Value} {A : Prop} (h : rawK u A) : (∀ b, u ≠ .bool b) ∧ A := by
  unfold rawK at h
  split at h
  · exact h.elim
  · rename_i hu; exact ⟨hu, h⟩
def guardK (ops : List Oper) (o : Oper) (σ : St) (exec skip : St → Prop) : Prop :=
  match o.guard with
  | none => exec σ
  | some (j, want) => match nthDst ops j with
    | none => False
    | some t => match look σ.dec t with
      | some lit => pickLit want lit (exec σ) (skip σ)
      | none => match look σ.env t with
        | some (.v (.bool b)) => Br b (litK t true σ fun σ => pickLit want true (exec σ) (skip σ)) (litK t false σ fun σ => pickLit want false (exec σ) (skip σ))
        | some (.v (.raw v)) => rawK v (skip σ)
        | _ => False
def stepOps (T : Tab P) (N : Nat) (ops : List Oper) : List Oper → St → (St → Prop) → Prop
  | [], σ, K => endK σ K
  | o :: rest, σ, K => guardK ops o σ (fun σ => execK T N o σ fun σ => stepOps T N ops rest σ K)
      (fun σ => match dstB N o.dst with | true => putK σ o.dst (.v (.raw undef)) [] fun σ => stepOps T N ops rest σ K | false => False)

/-! The same by the recursor itself: the kernel and the walk then meet the same terms. -/
def stepNil (σ : St) (K : St → Prop) : Prop := endK σ K
def stepCons (T : Tab P) (N : Nat) (ops : List Oper) (o : Oper) (ih : St → (St → Prop) → Prop) (σ : St) (K : St → Prop) : Prop :=
  guardK ops o σ (fun σ => execK T N o σ fun σ => ih σ K) (fun σ => match dstB N o.dst with | true => putK σ o.dst (.v (.raw undef)) [] fun σ => ih σ K | false => False)
noncomputable def stepR (T : Tab P) (N : Nat) (ops l : List Oper) : St → (St → Prop) → Prop :=
  List.rec (motive := fun _ => St → (St → Prop) → Prop) stepNil (fun o _ ih => stepCons T N ops o ih) l
theorem stepR_eq {T : Tab P} {N : Nat} {ops : List Oper} : ∀ (l : List Oper) (σ : St) (K : St → Prop), stepR T N ops l σ K = stepOps T N ops l σ K
  | [], σ, K => rfl
  | o :: rest, σ, K => by
    show stepCons T N ops o (stepR T N ops rest) σ K = _
    simp only [stepCons, stepOps, stepR_eq rest]
theorem dstB_lt {N : Nat} {dst : Option Nat} (h : dstB N dst = true) : ∀ t, dst = some t → t < N := by
  intro t ht; subst ht; simp only [dstB] at h; exact Nat.le_of_ble_eq_true h
theorem Con.redec {C : Ctx} {σ : St} {a : Act} {w : World} (c : Con T C σ a w) {t : Nat} {b : Bool} (h : a.tmps[t]? = some (.bool b)) : Con T C (litSt t b σ) a w :=
  ⟨c.size, c.defers, fun u d hu => by
    simp only [litSt, look] at hu
    cases hb : Nat.beq t u with
    | true => simp only [hb, cond_true] at hu; injection hu with hu; subst hu; rw [← Nat.eq_of_beq_eq_true hb]; exact h
    | false => simp only [hb, cond_false] at hu; exact c.dec u d hu, by
    obtain ⟨X, ρ, r, s, hh⟩ := c.real
    refine ⟨X, ρ, ⟨r.glob, r.mem, fun u d hu => ?_, r.obs⟩, s, hh⟩
    simp only [litSt, look] at hu
    cases hb : Nat.beq t u with
    | true =>
      simp only [hb, cond_true] at hu; injection hu with hu; subst hu
      rw [← Nat.eq_of_beq_eq_true hb]; exact ⟨_, h, rfl⟩
    | false => simp only [hb, cond_false] at hu; exact r.env u d hu⟩
theorem Con.nodec {C : Ctx} {σ : St} {a : Act} {w : World} (c : Con T C σ a w) : Con T C ⟨σ.env, σ.heap, []⟩ a w :=
  ⟨c.size, c.defers, fun u d hu => by simp [look] at hu, c.real⟩
theorem execK_wp {C : Ctx} {N : Nat} (hN : C.N = N) {o : Oper} {σ : St} {J : St → Prop} (h : execK T N o σ J) {a : Act} {w : World} (c : Con T C σ a w) {Q : Exit → Act → World → Prop} {K : Act → World → Prop}
    (hK : ∀ σ' a' w', Con T C σ' a' w' → J σ' → K a' w') : o.wp P a w K Q := by
  obtain ⟨X, ρ, r, s0, hh⟩ := c.real
  have fin : ∀ {nw : List Nat} {R : D → List (Nat × Ob) → Prop}, dstB N o.dst = true → (∀ p ∈ nw, σ.heap.length ≤ p) → Does T o (look σ.env) (obAt σ.heap) nw R → (∀ d ups, R d ups → J (σ.put o.dst d ups)) → o.wp P a w K Q := by
    intro nw R hd hnw hdoes hR
    refine hdoes X ρ w a Q K r (fun p hp => hh p (hnw p hp)) ?_
    intro d ups v w' X' ρ' hr st hc ho
    exact hK _ _ _ (c.put r s0 hh st hc ho (fun t ht => by rw [hN]; exact dstB_lt hd t ht)) (hR d ups hr)
  unfold execK at h
  simp only [putK_eq, lenK_eq] at h
  split at h
  · rename_i hd hc
    obtain ⟨nw, R, hnw, hdoes, hR⟩ := h
    exact fin hd hnw hdoes hR
  · rename_i hd hc
    obtain ⟨d, ups, nw, hJ, hnw, hdoes⟩ := opD_does h
    exact fin hd (fun p hp => by rw [hnw p hp]; exact Nat.le_refl _) hdoes (fun d' u' hr => by obtain ⟨rfl, rfl⟩ := hr; exact hJ)
  · exact h.elim
theorem pickLit_out {want lit : Bool} {A B : Prop} (h : pickLit want lit A B) : (lit = want ∧ A) ∨ (lit ≠ want ∧ B) := by
  cases want <;> cases lit <;> simp [pickLit] at h ⊢ <;> exact h
theorem yielded_not {ops : Array Oper} {tmps : Array Value} {j t : Nat} {u : Value} {want : Bool} (hdst : (ops[j]?).bind (·.dst) = some t) (hv : tmps[t]? = some u) (hu : ∀ b, u ≠ .bool b) : yielded ops tmps j ≠ some want := by
  unfold yielded
  rw [hdst]
  simp only [Option.bind_some, hv]
  split
  · rename_i b hb
    injection hb with hb
    exact absurd hb (hu b)
  · simp
theorem stepOps_wp {C : Ctx} {N : Nat} (hN : C.N = N) {ops : Array Oper} {Q : Exit → Act → World → Prop} {J : St → Prop} (hQ : ∀ σ a w, Con T C σ a w → J σ → Q .normal a w) :
    ∀ (l : List Oper) (σ : St) (a : Act) (w : World), stepOps T N ops.toList l σ J → Con T C σ a w → wpList P ops Q l a w
  | [], σ, a, w, h, c => hQ _ _ _ c.nodec (by rw [stepOps, endK_eq] at h; exact h)
  | o :: rest, σ, a, w, h, c => by
    have skip : ∀ {σ : St} , (match dstB N o.dst with | true => stepOps T N ops.toList rest (σ.put o.dst (.v (.raw undef)) []) J | false => False) → Con T C σ a w → wpList P ops Q rest (a.put o.dst undef) w := by
      intro σ h c
      split at h
      · rename_i hd
        obtain ⟨X, ρ, r, s0, hh⟩ := c.real
        have st : Step (fun p => p ∈ ([] : List (Nat × Ob)).map (·.1)) X ρ w X ρ w := Step.refl r.mem
        exact stepOps_wp hN hQ rest _ _ _ h (c.put r s0 hh st (d := .v (.raw undef)) rfl (by simp) (fun t ht => by rw [hN]; exact dstB_lt hd t ht))
      · exact h.elim
    have exec : ∀ {σ : St}, execK T N o σ (fun σ => stepOps T N ops.toList rest σ J) → Con T C σ a w → o.wp P a w (wpList P ops Q rest) Q := by
      intro σ h c
      exact execK_wp hN h c fun σ' a' w' c' h' => stepOps_wp hN hQ rest σ' a' w' h' c'
    simp only [stepOps, putK_eq] at h
    unfold wpList
    unfold guardK at h
    simp only [litK_eq] at h
    cases hg : o.guard with
    | none =>
      simp only [hg] at h
      rw [if_pos (by simp [Region.wanted, hg])]
      exact .inl (exec h c)
    | some g =>
      obtain ⟨j, want⟩ := g
      simp only [hg] at h
      cases ht : nthDst ops.toList j with
      | none => simp only [ht] at h
      | some t =>
        simp only [ht] at h
        have hdst : (ops[j]?).bind (·.dst) = some t := by
          rw [nthDst_eq] at ht; simpa using ht
        have fin : ∀ (lit : Bool) (σ' : St), a.tmps[t]? = some (.bool lit) → Con T C σ' a w → pickLit want lit (execK T N o σ' fun σ => stepOps T N ops.toList rest σ J) (match dstB N o.dst with | true => stepOps T N ops.toList rest (σ'.put o.dst (.v (.raw undef)) []) J | false => False) →
            if Region.wanted o (yielded ops a.tmps) = true then (o.wp P a w (wpList P ops Q rest) Q ∨ (o.asks P a w ∧ LetsOut Q)) else wpList P ops Q rest (a.put o.dst undef) w := by
          intro lit σ' hl c' hp
          have hy : yielded ops a.tmps j = some lit := by simp [yielded, hdst, hl]
          rcases pickLit_out hp with ⟨rfl, hA⟩ | ⟨hne, hB⟩
          · rw [if_pos (by simp [Region.wanted, hg, hy])]
            exact .inl (exec hA c')
          · rw [if_neg (by simp [Region.wanted, hg, hy, hne])]
            exact skip hB c'
        cases hl : look σ.dec t with
        | some lit =>
          simp only [hl] at h
          exact fin lit σ (c.dec t lit hl) c h
        | none =>
          simp only [hl] at h
          split at h
          · rename_i b hb
            have hv : a.tmps[t]? = some (.bool b) := by
              obtain ⟨X, ρ, r, _, _⟩ := c.real
              obtain ⟨v, hv, hd⟩ := r.env t _ hb
              unfold DCell VCell at hd
              rw [hv, hd]
            cases b with
            | true => exact fin true _ hv (c.redec hv) (h.t rfl)
            | false => exact fin false _ hv (c.redec hv) (h.f rfl)
          · rename_i v hv
            obtain ⟨hnb, hB⟩ := rawK_out h
            obtain ⟨X, ρ, r, s0, hh⟩ := c.real
            obtain ⟨v', hv', hd'⟩ := r.env t _ hv
            have hv2 : v' = v := hd'
            subst hv2
            have hy : yielded ops a.tmps j ≠ some want := yielded_not hdst hv' hnb
            rw [if_neg (by simp [Region.wanted, hg, hy])]
            exact skip hB c
          · exact h.elim
/-! ##### code -/
/-- From every state that stands for σ the code ends so that Q holds of a state that stands for what is there. m: how many objects came in. -/
def WpD (T : Tab P) (m N : Nat) (c : Code) (σ : St) (Q : Exit → St → Prop) : Prop :=
  ∀ (C : Ctx), C.N = N → (∀ q, m ≤ q → C.ρ q = .hole) → ∀ a w, Con T C σ a w → c.wp P (fun e a' w' => ∃ σ', Con T C σ' a' w' ∧ Q e σ') a w
def thenQ (k : St → Prop) (Q : Exit → St → Prop) : Exit → St → Prop
  | .normal, σ => k σ
  | e, σ => Q e σ
def inBlockQ (id : Nat) (Q : Exit → St → Prop) : Exit → St → Prop
  | .exit i, σ => bif Nat.beq i id then Q .normal σ else Q (.exit i) σ
  | e, σ => Q e σ
variable {m N : Nat} {σ : St} {Q : Exit → St → Prop}
theorem WpD.skip (h : Q .normal σ) : WpD T m N .skip σ Q := fun C _ _ a w c => wp_skip ⟨σ, c, h⟩
theorem WpD.exit {id : Nat} (h : Q (.exit id) σ) : WpD T m N (.exit id) σ Q := fun C _ _ a w c => wp_exit ⟨σ, c, h⟩
theorem WpD.ret (h : Q .ret σ) : WpD T m N .ret σ Q := fun C _ _ a w c => wp_ret ⟨σ, c, h⟩
theorem WpD.seq {x y : Code} (h : WpD T m N x σ (thenQ (fun σ' => WpD T m N y σ' Q) Q)) : WpD T m N (.seq x y) σ Q := fun C hN hm a w c =>
  wp_seq (wp_mono (h C hN hm a w c) fun e a' w' ⟨σ', c', q⟩ => by
    cases e with
    | normal => exact q C hN hm a' w' c'
    | _ => exact ⟨σ', c', q⟩)
theorem WpD.cond {c : Operand} {x y : Code} {b : Bool} (hc : ev T (look σ.env) 0 c = some (.v (.bool b))) (h : Br b (WpD T m N x σ Q) (WpD T m N y σ Q)) : WpD T m N (.cond c x y) σ Q := fun C hN hm a w k => by
  obtain ⟨X, ρ, r, _, _⟩ := k.real
  have hv := ev_cell r hc
  unfold DCell VCell at hv
  refine wp_cond hv ?_
  cases b with
  | true => exact h.t rfl C hN hm a w k
  | false => exact h.f rfl C hN hm a w k
theorem WpD.block {id : Nat} {x : Code} (h : WpD T m N x σ (inBlockQ id Q)) : WpD T m N (.block id x) σ Q := fun C hN hm a w c =>
  wp_block (wp_mono (h C hN hm a w c) fun e a' w' ⟨σ', c', q⟩ => by
    cases e with
    | exit i =>
      simp only [inBlockQ] at q
      simp only [Exit.inBlock]
      cases hb : Nat.beq i id with
      | true => rw [if_pos (Nat.eq_of_beq_eq_true hb)]; simp only [hb, cond_true] at q; exact ⟨σ', c', q⟩
      | false =>
        rw [if_neg (fun e => by subst e; rw [Nat.beq_refl] at hb; cases hb)]
        simp only [hb, cond_false] at q; exact ⟨σ', c', q⟩
    | _ => exact ⟨σ', c', q⟩)
theorem WpD.region {id : Nat} {ops : Array Oper} (h : stepR T N ops.toList ops.toList σ (Q .normal)) : WpD T m N (.region id ops false) σ Q := fun C hN hm a w c => by
  rw [stepR_eq] at h
  exact wp_region_list (stepOps_wp hN (fun σ' a' w' c' q => ⟨σ', c', q⟩) ops.toList σ a w h c)
theorem WpD.mono {x : Code} {Q' : Exit → St → Prop} (h : WpD T m N x σ Q) (hq : ∀ e σ, Q e σ → Q' e σ) : WpD T m N x σ Q' := fun C hN hm a w c =>
  wp_mono (h C hN hm a w c) fun e a' w' ⟨σ', c', q⟩ => ⟨σ', c', hq e σ' q⟩

/-! ##### another state for the same machine -/
mutual
def renD (θ : Nat → Nat) : D → D
  | .arr p o n => .arr (θ p) o n
  | .ptr p i j => .ptr (θ p) i j
  | .agg ds => .agg (renDs θ ds)
  | .tup ds => .tup (renDs θ ds)
  | .fn f ds => .fn f (renDs θ ds)
  | .any => .any
  | .v x => .v x
def renDs (θ : Nat → Nat) : List D → List D
  | [] => []
  | d :: ds => renD θ d :: renDs θ ds
end
mutual
def refsLt (n : Nat) : D → Bool
  | .arr p _ _ => Nat.blt p n
  | .ptr p _ _ => Nat.blt p n
  | .agg ds => refsLts n ds
  | .tup ds => refsLts n ds
  | .fn _ ds => refsLts n ds
  | .any => true
  | .v _ => true
def refsLts (n : Nat) : List D → Bool
  | [] => true
  | d :: ds => refsLt n d && refsLts n ds
end
def slotsBy (th : List Nat) (ρ : Nat → Slot) (i : Nat) : Slot := match th[i]? with | some q => ρ q | none => .hole
theorem slotsBy_lt {th : List Nat} {ρ : Nat → Slot} {p : Nat} (h : Nat.blt p th.length = true) : slotsBy th ρ p = ρ (th.getD p 0) := by
  have : p < th.length := Nat.le_of_ble_eq_true h
  simp [slotsBy, this]
mutual
theorem renD_cell {X : Nat → Prop} {ρ : Nat → Slot} {w : World} (th : List Nat) : ∀ (d : D) {u : Value}, refsLt th.length d = true → DCell X ρ w (renD (th.getD · 0) d) u → DCell X (slotsBy th ρ) w d u
  | .any, u, _, _ => trivial
  | .v x, u, _, h => h
  | .arr p o n, u, hr, h => by
    unfold DCell; rw [slotsBy_lt hr]; exact h
  | .ptr p i j, u, hr, h => by
    unfold DCell; rw [slotsBy_lt hr]; exact h
  | .agg ds, u, hr, h => by
    obtain ⟨vs, hv, hl, hc⟩ := h
    obtain ⟨h1, h2⟩ := renDs_cell th ds hr hc
    exact ⟨vs, hv, hl.trans h2, h1⟩
  | .tup ds, u, hr, h => by
    obtain ⟨vs, hv, hl, hc⟩ := h
    obtain ⟨h1, h2⟩ := renDs_cell th ds hr hc
    exact ⟨vs, hv, hl.trans h2, h1⟩
  | .fn f ds, u, hr, h => by
    obtain ⟨vs, hv, hl, hc⟩ := h
    obtain ⟨h1, h2⟩ := renDs_cell th ds hr hc
    exact ⟨vs, hv, hl.trans h2, h1⟩
theorem renDs_cell {X : Nat → Prop} {ρ : Nat → Slot} {w : World} (th : List Nat) : ∀ (ds : List D) {us : List Value}, refsLts th.length ds = true → DCells X ρ w (renDs (th.getD · 0) ds) us → DCells X (slotsBy th ρ) w ds us ∧ (renDs (th.getD · 0) ds).length = ds.length
  | [], us, _, _ => ⟨trivial, rfl⟩
  | d :: ds, [], _, h => h.elim
  | d :: ds, u :: us, hr, h => by
    simp only [refsLts, Bool.and_eq_true] at hr
    obtain ⟨h1, h2⟩ := renDs_cell th ds hr.2 h.2
    exact ⟨⟨renD_cell th d hr.1 h.1, h1⟩, by simp only [renDs, List.length_cons, h2]⟩
end
def envLe (env : List (Nat × D)) (th : List Nat) : List (Nat × D) → Prop
  | [] => True
  | (t, d) :: r => look env t = some (renD (th.getD · 0) d) ∧ refsLt th.length d = true ∧ envLe env th r
def obLe (th : List Nat) : Ob → Ob → Prop
  | _, .gone => True
  | .arr sz rows, .arr sz' rows' => sz = sz' ∧ rows = rows'.map (renDs (th.getD · 0)) ∧ rows'.all (refsLts th.length) = true
  | .cap q c, .cap q' c' => Nat.blt q' th.length = true ∧ q = th.getD q' 0 ∧ c = c'
  | .iter s n, .iter s' n' => s = s' ∧ n = n'
  | _, _ => False
def heapLe (heap : List Ob) (th : List Nat) : List Ob → List Nat → Prop
  | [], [] => True
  | x :: xs, p :: ps => obLe th (obAt heap p) x ∧ heapLe heap th xs ps
  | _, _ => False
/-- What stands for σ stands for σ', whose place number i is σ's place number th[i]. -/
structure Le (m : Nat) (th : List Nat) (σ σ' : St) : Prop where
  nodup : th.Nodup
  old : th.take m = List.range m
  env : envLe σ.env th σ'.env
  heap : heapLe σ.heap th σ'.heap th
  dec : σ'.dec = []
theorem envLe_look {env : List (Nat × D)} {th : List Nat} : ∀ {env' : List (Nat × D)}, envLe env th env' → ∀ t d, look env' t = some d → look env t = some (renD (th.getD · 0) d) ∧ refsLt th.length d = true
  | [], _, t, d, h => by simp [look] at h
  | (u, e) :: r, hl, t, d, h => by
    simp only [look] at h
    cases hb : Nat.beq u t with
    | true =>
      simp only [hb, cond_true] at h; injection h with h; subst h
      rw [← Nat.eq_of_beq_eq_true hb]; exact ⟨hl.1, hl.2.1⟩
    | false => simp only [hb, cond_false] at h; exact envLe_look hl.2.2 t d h
theorem heapLe_at {heap : List Ob} {th : List Nat} : ∀ {xs : List Ob} {ps : List Nat}, heapLe heap th xs ps → xs.length = ps.length ∧ ∀ (i : Nat) p, ps[i]? = some p → obLe th (obAt heap p) (obAt xs i)
  | [], [], _ => ⟨rfl, fun i p h => by simp at h⟩
  | [], _ :: _, h => h.elim
  | _ :: _, [], h => h.elim
  | x :: xs, q :: ps, h => by
    obtain ⟨h1, h2⟩ := heapLe_at h.2
    refine ⟨by simp [h1], fun i p hp => ?_⟩
    cases i with
    | zero => simp at hp; subst hp; exact h.1
    | succ i => exact h2 i p (by simpa using hp)
theorem obAt_ge : ∀ {l : List Ob} {q : Nat}, l.length ≤ q → obAt l q = .gone
  | [], q, _ => rfl
  | _ :: l, 0, h => by simp at h
  | _ :: l, q + 1, h => by simp at h; exact obAt_ge (l := l) (q := q) h
theorem Con.le {C : Ctx} {th : List Nat} {σ σ' : St} {a : Act} {w : World} (hm : ∀ q, m ≤ q → C.ρ q = .hole) (l : Le m th σ σ') (c : Con T C σ a w) : Con T C σ' a w := by
  obtain ⟨X, ρ, r, s, hh⟩ := c.real
  obtain ⟨hlen, hat⟩ := heapLe_at l.heap
  refine ⟨c.size, c.defers, fun t b h => by rw [l.dec] at h; simp [look] at h, X, slotsBy th ρ, ?_, ?_, ?_⟩
  · refine ⟨r.glob, ?_, fun t d h => ?_, fun p => ?_⟩
    · refine ⟨r.mem.lt, fun p b sz cap h => ?_, fun p q b sz cap sz' cap' h h' => ?_⟩
      · unfold slotsBy at h
        split at h
        · exact r.mem.live _ b sz cap h
        · cases h
      · unfold slotsBy at h h'
        split at h <;> split at h'
        · rename_i _ p1 e1 _ q1 e2
          have := r.mem.inj _ _ b _ _ _ _ h h'
          subst this
          have hp : p < th.length := (List.getElem?_eq_some_iff.1 e1).1
          exact (List.getElem?_inj hp l.nodup).1 (e1.trans e2.symm)
        · cases h'
        · cases h
        · cases h
    · obtain ⟨h1, h2⟩ := envLe_look l.env t d h
      obtain ⟨v, hv, hd⟩ := r.env t _ h1
      exact ⟨v, hv, renD_cell th d h2 hd⟩
    · by_cases hp : p < th.length
      · have e : th[p]? = some th[p] := List.getElem?_eq_getElem hp
        have ho := hat p _ e
        have hr := r.obs th[p]
        have hs : slotsBy th ρ p = ρ th[p] := by simp [slotsBy, e]
        cases hx : obAt σ'.heap p with
        | gone => trivial
        | cap q' c' =>
          rw [hx] at ho
          cases hy : obAt σ.heap th[p] with
          | gone => rw [hy] at ho; exact ho.elim
          | arr sz' rows' => rw [hy] at ho; exact ho.elim
          | iter s n => rw [hy] at ho; exact ho.elim
          | cap q c =>
            rw [hy] at ho hr
            obtain ⟨h1, rfl, rfl⟩ := ho
            show slotsBy th ρ q' ≠ .hole ∧ (slotsBy th ρ q' = .null → c = 0) ∧ ∀ b s k, slotsBy th ρ q' = .live b s k → k = c
            rw [slotsBy_lt h1]
            exact hr
        | iter s' n' =>
          rw [hx] at ho
          cases hy : obAt σ.heap th[p] with
          | gone => rw [hy] at ho; exact ho.elim
          | arr sz' rows' => rw [hy] at ho; exact ho.elim
          | cap q c => rw [hy] at ho; exact ho.elim
          | iter s n =>
            rw [hy] at ho hr
            obtain ⟨rfl, rfl⟩ := ho
            obtain ⟨b, z, k, h1, h2⟩ := hr
            exact ⟨b, z, k, by rw [hs]; exact h1, h2⟩
        | arr sz rows =>
          rw [hx] at ho
          cases hy : obAt σ.heap th[p] with
          | gone => rw [hy] at ho; exact ho.elim
          | cap q c => rw [hy] at ho; exact ho.elim
          | iter s n => rw [hy] at ho; exact ho.elim
          | arr sz' rows' =>
            rw [hy] at ho hr
            obtain ⟨rfl, rfl, hall⟩ := ho
            obtain ⟨h0, h1, h2, h3⟩ := hr
            have hlenr : ∀ {r : List D}, (renDs (th.getD · 0) r).length = r.length := by
              intro r; induction r with
              | nil => rfl
              | cons d ds ih => simp only [renDs, List.length_cons, ih]
            have hone : ∀ {d : D}, (renD (th.getD · 0) d).one = d.one := by intro d; cases d <;> rfl
            have hones : ∀ {r : List D}, (renDs (th.getD · 0) r).all D.one = r.all D.one := by
              intro r; induction r with
              | nil => rfl
              | cons d ds ih => simp only [renDs, List.all_cons, hone, ih]
            have hrows : ∀ {rows : List (List D)} {vs : List Value}, rows.all (refsLts th.length) = true → DRows X ρ w (rows.map (renDs (th.getD · 0))) vs → DRows X (slotsBy th ρ) w rows vs := by
              intro rows
              induction rows with
              | nil => intro vs _ _; trivial
              | cons r rs ih =>
                intro vs hal hd
                simp only [List.all_cons, Bool.and_eq_true] at hal
                refine ⟨(renDs_cell th r hal.1 hd.1).1, ?_⟩
                have := ih hal.2 hd.2
                rwa [hlenr] at this
            refine ⟨h0, fun r hr => ?_, by simpa using h2, ?_⟩
            · have := h1 _ (List.mem_map.2 ⟨r, hr, rfl⟩)
              rwa [hlenr, hones] at this
            · rw [hs]
              cases hq : ρ th[p] with
              | live b s' cap =>
                simp only [hq] at h3 ⊢
                obtain ⟨e1, e2, e3, cs, t, fr, hh', hcs, hf, hrr⟩ := h3
                exact ⟨e1, by simpa using e2, e3, cs, t, fr, hh', hcs, hf, hrows hall hrr⟩
              | null => simp only [hq] at h3 ⊢; simpa using h3
              | hole => simp only [hq] at h3
              | dead => simp only [hq] at h3
      · rw [obAt_ge (by omega)]; trivial
  · refine ⟨s.os, s.tape, s.output, s.size, s.block, fun p => ?_, fun p h => absurd trivial h, s.xin, s.xout, fun p b sz cap h => ?_, ?_⟩
    · by_cases hp : p < m
      · have e : th[p]? = some p := by
          have := congrArg (fun l => l[p]?) l.old
          simp only [List.getElem?_take, if_pos hp, List.getElem?_range hp] at this
          exact this
        simp only [slotsBy, e]
        exact s.slots p
      · exact .inl (hm p (by omega))
    · unfold slotsBy at h
      split at h
      · exact s.src _ b sz cap h
      · cases h
    · refine ⟨r.mem.lt, fun p b sz cap h => ?_, fun p q b sz cap sz' cap' h h' => ?_⟩
      · unfold slotsBy at h
        split at h
        · exact r.mem.live _ b sz cap h
        · cases h
      · unfold slotsBy at h h'
        split at h <;> split at h'
        · rename_i _ p1 e1 _ q1 e2
          have := r.mem.inj _ _ b _ _ _ _ h h'
          subst this
          have hp : p < th.length := (List.getElem?_eq_some_iff.1 e1).1
          exact (List.getElem?_inj hp l.nodup).1 (e1.trans e2.symm)
        · cases h'
        · cases h
        · cases h
  · intro q hq
    have : th.length ≤ q := by omega
    simp [slotsBy, List.getElem?_eq_none this]
theorem WpD.le {th : List Nat} {x : Code} {σ' : St} (l : Le m th σ σ') (h : WpD T m N x σ' Q) : WpD T m N x σ Q := fun C hN hm a w c => h C hN hm a w (c.le hm l)
/-- Where ways meet again. -/
theorem WpD.cut {ι : Type} (S : ι → St) (p : ι → Prop) {x y : Code} (h : WpD T m N x σ (thenQ (fun σ' => ∃ k th, p k ∧ Le m th σ' (S k)) Q)) (h2 : ∀ k, p k → WpD T m N y (S k) Q) : WpD T m N (.seq x y) σ Q :=
  WpD.seq (h.mono fun e σ' q => by
    cases e with
    | normal => obtain ⟨k, th, hp, hl⟩ := q; exact WpD.le hl (h2 k hp)
    | _ => exact q)
theorem WpD.loop {ι : Type} (S : ι → St) (p : ι → Prop) (μ : ι → Nat) {c : Code} (h0 : ∃ k th, p k ∧ Le m th σ (S k))
    (round : ∀ k, p k → WpD T m N c (S k) (thenQ (fun σ' => ∃ k' th, p k' ∧ Le m th σ' (S k') ∧ μ k' < μ k) Q)) : WpD T m N (.loop c) σ Q := by
  intro C hN hm a w k0
  obtain ⟨k1, th1, hp1, hl1⟩ := h0
  have k1c := k0.le hm hl1
  have key : ∀ n k, μ k = n → p k → ∀ a w, Con T C (S k) a w → ∀ (b : Frame) (kk : List Item) (cs : List Frame),
      ∃ e a' w', (∃ σ', Con T C σ' a' w' ∧ Q e σ') ∧ Arrives P (lone (b.at a (.code c :: .inLoop c :: kk)) cs w) b kk cs e a' w' := by
    intro n
    induction n using Nat.strongRecOn with
    | _ n ih =>
      intro k hn hp a w con b kk cs
      obtain ⟨e, a₁, w₁, ⟨σ', c', hq⟩, harr⟩ := round k hp C hN hm a w con b (.inLoop c :: kk) cs
      cases e with
      | normal =>
        obtain ⟨k', th, hp', hl, hlt⟩ := hq
        obtain ⟨e₂, a₂, w₂, hq₂, harr₂⟩ := ih (μ k') (hn ▸ hlt) k' rfl hp' a₁ w₁ (c'.le hm hl) b kk cs
        exact ⟨e₂, a₂, w₂, hq₂, .of_steps (Steps.trans harr (.one step_inLoop)) harr₂⟩
      | exit id => exact ⟨_, a₁, w₁, ⟨σ', c', hq⟩, .pass (x := .inLoop c) rfl (fun _ _ => .inl (by simp)) harr⟩
      | goto l => exact ⟨_, a₁, w₁, ⟨σ', c', hq⟩, .pass (x := .inLoop c) rfl (fun _ _ => .inl (by simp)) harr⟩
      | ret => exact ⟨_, a₁, w₁, ⟨σ', c', hq⟩, .pass (x := .inLoop c) rfl (fun _ _ => .inl (by simp)) harr⟩
      | panic ch => exact ⟨_, a₁, w₁, ⟨σ', c', hq⟩, .pass (x := .inLoop c) rfl (fun _ _ => .inl (by simp)) harr⟩
      | outgrown => exact ⟨_, a₁, w₁, ⟨σ', c', hq⟩, .pass (x := .inLoop c) rfl (fun _ _ => .inl (by simp)) harr⟩
  intro b kk cs
  obtain ⟨e, a', w', hq, harr⟩ := key _ k1 rfl hp1 a w k1c b kk cs
  exact ⟨e, a', w', hq, .of_steps (.one step_loop) harr⟩
end
attribute [irreducible] WpD CallOp
end Go.DL
