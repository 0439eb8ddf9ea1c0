/- DL, part 0: abstract values and what it means that a value of the machine stands for one. Own work; no condition. -/
import Derived.Orders
import Derived.Below
import Derived.Tactics
import Derived.KernelRfl
import Derived.Laws.Tables
import Derived.Laws.CopyRow
import Derived.Laws.Cells
import Derived.Deep.Draws
set_option linter.unusedVariables false
set_option linter.unusedSimpArgs false
namespace Go.DL
open Go.RowKit

/-- Closed data: what no later step changes. -/
inductive V where
  | int (k : IntKind) (n : Int)
  | bool (b : Bool)
  | str (s : ByteArray)
  | raw (u : Value)
  | sl (sz : Nat) (z : Bool) (xs : List (List V))
  | agg (cs : List V)
  | tup (cs : List V)
  | iptr (cs : List V)
  | fn (f : FuncId) (cs : List V)

/-- What a slot holds: closed data, or a reference to one of the call's own objects. -/
inductive D where
  | any
  | v (x : V)
  | arr (p o n : Nat)
  | ptr (p i j : Nat)
  | agg (ds : List D)
  | tup (ds : List D)
  | fn (f : FuncId) (ds : List D)

/-- Where an object lies. -/
inductive Slot where
  | hole
  | dead
  | null
  | live (b sz cap : Nat)

def capMax : Nat := 9223372036854775807
def lenMax : Nat := 140737488355328

def V.one : V → Bool
  | .agg _ | .tup _ => false
  | .raw u => u.oneCell'
  | _ => true
def D.one : D → Bool
  | .v x => x.one
  | .arr .. | .ptr .. | .fn .. => true
  | _ => false

mutual
def VCell (X : Nat → Prop) (w : World) : V → Value → Prop
  | .int k n, v => v = .int k n
  | .bool b, v => v = .bool b
  | .str s, v => v = .string s
  | .raw u, v => v = u
  | .sl sz z xs, v => 0 < sz ∧ (∀ r ∈ xs, r.length = sz ∧ r.all V.one = true) ∧ xs.length ≤ lenMax ∧ (z = true → ∃ A, v = .slice A 0 0) ∧
      ∃ A c, v = .slice A xs.length c ∧ xs.length ≤ c ∧ c ≤ capMax ∧
        (xs ≠ [] → ∃ b o cs t fr, A = some ⟨b, o, none⟩ ∧ ¬ X b ∧ w.heap[b]? = some (.cells cs t fr) ∧ VRows X w xs (cs.toList.drop o))
  | .agg cs, v => ∃ vs : List Value, v = .agg vs.toArray ∧ vs.length = cs.length ∧ VCells X w cs vs
  | .tup cs, v => ∃ vs : List Value, v = .tuple vs.toArray ∧ vs.length = cs.length ∧ VCells X w cs vs
  | .iptr cs, v => ∃ b o arr t fr, v = .pointer (some ⟨b, o, none⟩) ∧ ¬ X b ∧ w.heap[b]? = some (.cells arr t fr) ∧ VCells X w cs (arr.toList.drop o)
  | .fn f cs, v => ∃ vs : List Value, v = .func (.func f) #[] vs.toArray ∧ vs.length = cs.length ∧ VCells X w cs vs
def VCells (X : Nat → Prop) (w : World) : List V → List Value → Prop
  | [], _ => True
  | _ :: _, [] => False
  | d :: ds, v :: vs => VCell X w d v ∧ VCells X w ds vs
def VRows (X : Nat → Prop) (w : World) : List (List V) → List Value → Prop
  | [], _ => True
  | r :: rs, vs => VCells X w r vs ∧ VRows X w rs (vs.drop r.length)
end

mutual
def DCell (X : Nat → Prop) (ρ : Nat → Slot) (w : World) : D → Value → Prop
  | .any, _ => True
  | .v x, v => VCell X w x v
  | .arr p o n, v => match ρ p with
    | .hole => False
    | .dead => v.oneCell' = true
    | .null => (∃ A, v = .slice A 0 0) ∧ o = 0 ∧ n = 0
    | .live b sz cap => o + n ≤ cap ∧ (o < cap → v = .slice (some ⟨b, o * sz, none⟩) n (cap - o)) ∧ (o = cap → ∃ A, v = .slice (some A) 0 0)
  | .ptr p i j, v => match ρ p with
    | .hole => False
    | .dead => v.oneCell' = true
    | .null => False
    | .live b sz _ => v = .pointer (some ⟨b, i * sz + j, none⟩)
  | .agg ds, v => ∃ vs : List Value, v = .agg vs.toArray ∧ vs.length = ds.length ∧ DCells X ρ w ds vs
  | .tup ds, v => ∃ vs : List Value, v = .tuple vs.toArray ∧ vs.length = ds.length ∧ DCells X ρ w ds vs
  | .fn f ds, v => ∃ vs : List Value, v = .func (.func f) #[] vs.toArray ∧ vs.length = ds.length ∧ DCells X ρ w ds vs
def DCells (X : Nat → Prop) (ρ : Nat → Slot) (w : World) : List D → List Value → Prop
  | [], _ => True
  | _ :: _, [] => False
  | d :: ds, v :: vs => DCell X ρ w d v ∧ DCells X ρ w ds vs
end
def DRows (X : Nat → Prop) (ρ : Nat → Slot) (w : World) : List (List D) → List Value → Prop
  | [], _ => True
  | r :: rs, vs => DCells X ρ w r vs ∧ DRows X ρ w rs (vs.drop r.length)

/-- From (X, w) to (X', w'): what closed data may lie in is as it was. -/
structure Keeps (X : Nat → Prop) (w : World) (X' : Nat → Prop) (w' : World) : Prop where
  out : ∀ b, b < w.heap.size → ¬ X b → ¬ X' b
  block : ∀ b, b < w.heap.size → ¬ X b → w'.heap[b]? = w.heap[b]?

theorem heap_lt {w : World} {b : Nat} {o : Obj} (h : w.heap[b]? = some o) : b < w.heap.size := by
  rcases Nat.lt_or_ge b w.heap.size with h' | h'
  · exact h'
  · rw [Array.getElem?_eq_none h'] at h; cases h

mutual
theorem VCell.keep {X X' : Nat → Prop} {w w' : World} (k : Keeps X w X' w') : ∀ (x : V) (v : Value), VCell X w x v → VCell X' w' x v
  | .int _ _, v, h => h
  | .bool _, v, h => h
  | .str _, v, h => h
  | .raw _, v, h => h
  | .sl sz z xs, v, h => by
    obtain ⟨h0, hr, hm, hz, A, c, hv, hl, hc, hx⟩ := h
    refine ⟨h0, hr, hm, hz, A, c, hv, hl, hc, fun hne => ?_⟩
    obtain ⟨b, o, cs, t, fr, hA, hX, hh, hR⟩ := hx hne
    exact ⟨b, o, cs, t, fr, hA, k.out b (heap_lt hh) hX, (k.block b (heap_lt hh) hX).trans hh, VRows.keep k xs _ hR⟩
  | .agg cs, v, h => by
    obtain ⟨vs, hv, hl, hc⟩ := h
    exact ⟨vs, hv, hl, VCells.keep k cs _ hc⟩
  | .tup cs, v, h => by
    obtain ⟨vs, hv, hl, hc⟩ := h
    exact ⟨vs, hv, hl, VCells.keep k cs _ hc⟩
  | .iptr cs, v, h => by
    obtain ⟨b, o, arr, t, fr, hA, hX, hh, hR⟩ := h
    exact ⟨b, o, arr, t, fr, hA, k.out b (heap_lt hh) hX, (k.block b (heap_lt hh) hX).trans hh, VCells.keep k cs _ hR⟩
  | .fn f cs, v, h => by
    obtain ⟨vs, hv, hl, hc⟩ := h
    exact ⟨vs, hv, hl, VCells.keep k cs _ hc⟩
theorem VCells.keep {X X' : Nat → Prop} {w w' : World} (k : Keeps X w X' w') : ∀ (xs : List V) (vs : List Value), VCells X w xs vs → VCells X' w' xs vs
  | [], _, _ => trivial
  | _ :: _, [], h => h
  | d :: ds, v :: vs, h => ⟨VCell.keep k d v h.1, VCells.keep k ds vs h.2⟩
theorem VRows.keep {X X' : Nat → Prop} {w w' : World} (k : Keeps X w X' w') : ∀ (xs : List (List V)) (vs : List Value), VRows X w xs vs → VRows X' w' xs vs
  | [], _, _ => trivial
  | r :: rs, vs, h => ⟨VCells.keep k r vs h.1, VRows.keep k rs _ h.2⟩
end

/-- How the places of the objects may change under what is kept. -/
def Slots (ρ ρ' : Nat → Slot) : Prop := ∀ p, ρ p = .hole ∨ ρ' p = ρ p ∨ ρ' p = .dead

theorem DCell.arr_one {X : Nat → Prop} {ρ : Nat → Slot} {w : World} {p o n : Nat} {v : Value} (h : DCell X ρ w (.arr p o n) v) : v.oneCell' = true := by
  unfold DCell at h
  split at h
  · exact h.elim
  · exact h
  · obtain ⟨A, hA⟩ := h.1; rw [hA]; rfl
  · obtain ⟨h1, h2, h3⟩ := h
    rename_i b sz cap _
    by_cases hc : o < cap
    · rw [h2 hc]; rfl
    · obtain ⟨A, hA⟩ := h3 (by omega)
      rw [hA]; rfl
theorem DCell.ptr_one {X : Nat → Prop} {ρ : Nat → Slot} {w : World} {p i j : Nat} {v : Value} (h : DCell X ρ w (.ptr p i j) v) : v.oneCell' = true := by
  unfold DCell at h
  split at h
  · exact h.elim
  · exact h
  · exact h.elim
  · rw [h]; rfl
mutual
theorem DCell.keep {X X' : Nat → Prop} {ρ ρ' : Nat → Slot} {w w' : World} (k : Keeps X w X' w') (s : Slots ρ ρ') : ∀ (x : D) (v : Value), DCell X ρ w x v → DCell X' ρ' w' x v
  | .any, v, h => trivial
  | .v x, v, h => VCell.keep k x v h
  | .arr p o n, v, h => by
    have h1 := DCell.arr_one h
    unfold DCell at h ⊢
    rcases s p with e | e | e
    · rw [e] at h; exact h.elim
    · rw [e]; exact h
    · rw [e]; exact h1
  | .ptr p i j, v, h => by
    have h1 := DCell.ptr_one h
    unfold DCell at h ⊢
    rcases s p with e | e | e
    · rw [e] at h; exact h.elim
    · rw [e]; exact h
    · rw [e]; exact h1
  | .agg cs, v, h => by
    obtain ⟨vs, hv, hl, hc⟩ := h
    exact ⟨vs, hv, hl, DCells.keep k s cs _ hc⟩
  | .tup cs, v, h => by
    obtain ⟨vs, hv, hl, hc⟩ := h
    exact ⟨vs, hv, hl, DCells.keep k s cs _ hc⟩
  | .fn f cs, v, h => by
    obtain ⟨vs, hv, hl, hc⟩ := h
    exact ⟨vs, hv, hl, DCells.keep k s cs _ hc⟩
theorem DCells.keep {X X' : Nat → Prop} {ρ ρ' : Nat → Slot} {w w' : World} (k : Keeps X w X' w') (s : Slots ρ ρ') : ∀ (xs : List D) (vs : List Value), DCells X ρ w xs vs → DCells X' ρ' w' xs vs
  | [], _, _ => trivial
  | _ :: _, [], h => h
  | d :: ds, v :: vs, h => ⟨DCell.keep k s d v h.1, DCells.keep k s ds vs h.2⟩
end
theorem DRows.keep {X X' : Nat → Prop} {ρ ρ' : Nat → Slot} {w w' : World} (k : Keeps X w X' w') (s : Slots ρ ρ') : ∀ (xs : List (List D)) (vs : List Value), DRows X ρ w xs vs → DRows X' ρ' w' xs vs
  | [], _, _ => trivial
  | r :: rs, vs, h => ⟨DCells.keep k s r vs h.1, DRows.keep k s rs _ h.2⟩

theorem Slots.refl (ρ : Nat → Slot) : Slots ρ ρ := fun _ => .inr (.inl rfl)

/-! lists of cells -/
section
variable {X : Nat → Prop} {ρ : Nat → Slot} {w : World}
theorem DCells.get : ∀ {ds : List D} {vs : List Value}, DCells X ρ w ds vs → ∀ {i : Nat} {d : D}, ds[i]? = some d → ∃ v, vs[i]? = some v ∧ DCell X ρ w d v
  | [], _, _, i, d, hi => by simp at hi
  | _ :: _, [], h, i, d, hi => h.elim
  | e :: ds, v :: vs, h, 0, d, hi => by simp at hi; subst hi; exact ⟨v, rfl, h.1⟩
  | e :: ds, v :: vs, h, i + 1, d, hi => by simp at hi ⊢; exact DCells.get h.2 hi
theorem DCells.drop : ∀ {ds : List D} {vs : List Value} (n : Nat), DCells X ρ w ds vs → DCells X ρ w (ds.drop n) (vs.drop n)
  | ds, vs, 0, h => h
  | [], _, n + 1, h => by simp [DCells]
  | _ :: _, [], n + 1, h => h.elim
  | e :: ds, v :: vs, n + 1, h => by simpa using DCells.drop n h.2
theorem DCells.take : ∀ {ds : List D} {vs : List Value} (n : Nat), DCells X ρ w ds vs → DCells X ρ w (ds.take n) (vs.take n)
  | ds, vs, 0, h => by simp [DCells]
  | [], _, n + 1, h => by simp [DCells]
  | _ :: _, [], n + 1, h => h.elim
  | e :: ds, v :: vs, n + 1, h => ⟨h.1, DCells.take n h.2⟩
theorem DCells.len : ∀ {ds : List D} {vs : List Value}, DCells X ρ w ds vs → ds.length ≤ vs.length
  | [], _, _ => by simp
  | _ :: _, [], h => h.elim
  | e :: ds, v :: vs, h => by simpa using DCells.len h.2
theorem DCells.append : ∀ {ds es : List D} {vs : List Value}, DCells X ρ w ds vs → DCells X ρ w es (vs.drop ds.length) → DCells X ρ w (ds ++ es) vs
  | [], _, _, _, k => by simpa using k
  | _ :: _, _, [], h, _ => h.elim
  | e :: ds, es, v :: vs, h, k => ⟨h.1, DCells.append h.2 (by simpa using k)⟩
theorem DCells.more : ∀ {ds : List D} {vs us : List Value}, DCells X ρ w ds vs → DCells X ρ w ds (vs ++ us)
  | [], _, _, _ => trivial
  | _ :: _, [], _, h => h.elim
  | e :: ds, v :: vs, us, h => ⟨h.1, DCells.more h.2⟩
theorem VCells.get : ∀ {ds : List V} {vs : List Value}, VCells X w ds vs → ∀ {i : Nat} {d : V}, ds[i]? = some d → ∃ v, vs[i]? = some v ∧ VCell X w d v
  | [], _, _, i, d, hi => by simp at hi
  | _ :: _, [], h, i, d, hi => h.elim
  | e :: ds, v :: vs, h, 0, d, hi => by simp at hi; subst hi; exact ⟨v, rfl, h.1⟩
  | e :: ds, v :: vs, h, i + 1, d, hi => by simp at hi ⊢; exact VCells.get h.2 hi
theorem VCells.drop : ∀ {ds : List V} {vs : List Value} (n : Nat), VCells X w ds vs → VCells X w (ds.drop n) (vs.drop n)
  | ds, vs, 0, h => h
  | [], _, n + 1, h => by simp [VCells]
  | _ :: _, [], n + 1, h => h.elim
  | e :: ds, v :: vs, n + 1, h => by simpa using VCells.drop n h.2
theorem VCells.take : ∀ {ds : List V} {vs : List Value} (n : Nat), VCells X w ds vs → VCells X w (ds.take n) (vs.take n)
  | ds, vs, 0, h => by simp [VCells]
  | [], _, n + 1, h => by simp [VCells]
  | _ :: _, [], n + 1, h => h.elim
  | e :: ds, v :: vs, n + 1, h => ⟨h.1, VCells.take n h.2⟩
theorem VCells.len : ∀ {ds : List V} {vs : List Value}, VCells X w ds vs → ds.length ≤ vs.length
  | [], _, _ => by simp
  | _ :: _, [], h => h.elim
  | e :: ds, v :: vs, h => by simpa using VCells.len h.2
theorem VRows.get {sz : Nat} : ∀ {xs : List (List V)} {vs : List Value}, (∀ r ∈ xs, r.length = sz) → VRows X w xs vs → ∀ {i : Nat} {r : List V}, xs[i]? = some r → VCells X w r (vs.drop (i * sz))
  | [], _, _, _, i, d, hi => by simp at hi
  | e :: xs, vs, hs, h, 0, r, hi => by simp at hi; subst hi; simpa using h.1
  | e :: xs, vs, hs, h, i + 1, r, hi => by
    have := VRows.get (sz := sz) (fun r hr => hs r (List.mem_cons_of_mem _ hr)) h.2 (i := i) (r := r) (by simpa using hi)
    rw [hs e List.mem_cons_self, List.drop_drop] at this
    rwa [Nat.add_mul, Nat.one_mul, Nat.add_comm]
theorem DRows.get {sz : Nat} : ∀ {xs : List (List D)} {vs : List Value}, (∀ r ∈ xs, r.length = sz) → DRows X ρ w xs vs → ∀ {i : Nat} {r : List D}, xs[i]? = some r → DCells X ρ w r (vs.drop (i * sz))
  | [], _, _, _, i, d, hi => by simp at hi
  | e :: xs, vs, hs, h, 0, r, hi => by simp at hi; subst hi; simpa using h.1
  | e :: xs, vs, hs, h, i + 1, r, hi => by
    have := DRows.get (sz := sz) (fun r hr => hs r (List.mem_cons_of_mem _ hr)) h.2 (i := i) (r := r) (by simpa using hi)
    rw [hs e List.mem_cons_self, List.drop_drop] at this
    rwa [Nat.add_mul, Nat.one_mul, Nat.add_comm]
end

theorem VCell.one {X : Nat → Prop} {w : World} {x : V} {v : Value} (h1 : x.one = true) (h : VCell X w x v) : v.oneCell' = true := by
  cases x <;> simp [V.one] at h1 <;> unfold VCell at h
  · subst h; rfl
  · subst h; rfl
  · subst h; rfl
  · subst h; exact h1
  · obtain ⟨_, _, _, _, A, c, rfl, _⟩ := h; rfl
  · obtain ⟨b, o, _, _, _, rfl, _⟩ := h; rfl
  · obtain ⟨vs, rfl, _⟩ := h; rfl
theorem DCell.one {X : Nat → Prop} {ρ : Nat → Slot} {w : World} {x : D} {v : Value} (h1 : x.one = true) (h : DCell X ρ w x v) : v.oneCell' = true := by
  cases x with
  | any => simp [D.one] at h1
  | v x => exact VCell.one h1 h
  | arr p o n => exact DCell.arr_one h
  | ptr p i j => exact DCell.ptr_one h
  | agg ds => simp [D.one] at h1
  | tup ds => simp [D.one] at h1
  | fn f ds => obtain ⟨vs, rfl, _⟩ := h; rfl
theorem DCells.one {X : Nat → Prop} {ρ : Nat → Slot} {w : World} : ∀ {ds : List D} {vs : List Value}, ds.all (·.one) = true → ds.length = vs.length → DCells X ρ w ds vs → ∀ v ∈ vs, v.oneCell' = true
  | [], [], _, _, _, v, hv => by cases hv
  | [], _ :: _, _, hl, _, v, hv => by simp at hl
  | _ :: _, [], _, _, h, _, _ => h.elim
  | d :: ds, u :: vs, h1, hl, h, v, hv => by
    simp at h1 hl
    rcases List.mem_cons.1 hv with rfl | hv
    · exact DCell.one h1.1 h.1
    · exact DCells.one (by simpa using h1.2) hl h.2 v hv
end Go.DL
