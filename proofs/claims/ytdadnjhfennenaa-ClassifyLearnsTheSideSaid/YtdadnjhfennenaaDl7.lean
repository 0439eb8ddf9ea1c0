/- DL, part 7: the state as lists; a region in the order of its text; code. Own work; no condition. -/
import Derived.Test.YtdadnjhfennenaaDl6
set_option linter.unusedVariables false
set_option linter.unusedSimpArgs false
namespace Go.DL
open Go.RowKit

section
variable {P : Program} {T : Tab P}

/-! ##### one operation -/
def opD (T : Tab P) (E : Nat → Option D) (H : Nat → Ob) (nx : Nat) (o : Oper) (K : KT) : Prop :=
  match o.op with
  | .alloc t => boxK nx (some ((T.ty t).zero.map .v)) K
  | .box t x => boxK nx ((ev T E t x).bind D.cells1) K
  | .build t parts => buildK T E t parts.toList fun d => K d [] []
  | .buildSlice t len parts => buildSliceK T E nx t len parts.toList K
  | .store t x y => storeK T E H t x y K
  | .makeFunc fn first caps => match fn, first.toList, (evs T E (fun _ => 0) (caps.toList.map fun x => (0, x))) with
    | .func f, [], ds => match seqD ds with | some ds => K (.fn f ds) [] [] | none => False
    | _, _, _ => False
  | .call c => match c.callee with
    | .builtin .append => appendK T E H nx c.args.toList c.argTypes.toList K
    | _ => valK T E H o fun d => K d [] []
  | _ => valK T E H o fun d => K d [] []
where
  seqD : List (Nat × Option D) → Option (List D)
    | [] => some []
    | (_, some d) :: r => (seqD r).map (d :: ·)
    | (_, none) :: _ => none
theorem seqD_cells {E : Nat → Option D} {H : Nat → Ob} {X : Nat → Prop} {ρ : Nat → Slot} {w : World} {a : Act} (r : Real T.glob X ρ w E H a.tmps) : ∀ {l : List Operand} {ds : List D}, opD.seqD (evs T E (fun _ => 0) (l.map fun x => (0, x))) = some ds →
    DCells X ρ w ds (l.map a.eval) ∧ (l.map a.eval).length = ds.length
  | [], ds, h => by simp [evs, opD.seqD] at h; subst h; exact ⟨trivial, rfl⟩
  | x :: l, ds, h => by
    simp only [List.map_cons, evs] at h
    cases hx : ev T E 0 x with
    | none => rw [hx] at h; simp [opD.seqD] at h
    | some d =>
      rw [hx] at h
      simp [opD.seqD] at h
      obtain ⟨es, he, rfl⟩ := h
      obtain ⟨h1, h2⟩ := seqD_cells r he
      exact ⟨⟨ev_cell r hx, h1⟩, by simpa using h2⟩
theorem opD_does {E : Nat → Option D} {H : Nat → Ob} {nx : Nat} {o : Oper} {J : KT} (h : opD T E H nx o J) : ∃ d ups nw, J d ups nw ∧ (∀ p ∈ nw, p = nx) ∧ Does T o E H nw (Just d ups) := by
  unfold opD at h
  split at h
  · rename_i t ho; exact alloc_does h ho
  · rename_i t x ho; exact box_does h ho
  · rename_i t parts ho
    obtain ⟨d, hJ, hv⟩ := build_val (H := H) h ho
    exact ⟨d, [], [], hJ, by simp, hv.does⟩
  · rename_i t len parts ho; exact buildSlice_does h ho
  · rename_i t x y ho; exact storeK_does h ho
  · rename_i fn first caps ho
    split at h
    · rename_i f hfirst
      split at h
      · rename_i ds hds
        refine ⟨_, [], [], h, by simp, does_value fun X ρ w a r => ?_⟩
        obtain ⟨h1, h2⟩ := seqD_cells r hds
        refine ⟨.func (.func f) #[] (caps.map a.eval), ?_, caps.toList.map a.eval, by rw [← Array.toList_map], h2, h1⟩
        have hf : first = #[] := by rw [← Array.toList_inj]; simpa using hfirst
        simp [execOp, ho, Instr.makeFunc, hf]
      · exact h.elim
    · exact h.elim
  · rename_i c ho
    split at h
    · rename_i hc; exact append_does h ho hc
    · obtain ⟨d, hJ, hv⟩ := valK_val h
      exact ⟨d, [], [], hJ, by simp, hv.does⟩
  · obtain ⟨d, hJ, hv⟩ := valK_val h
    exact ⟨d, [], [], hJ, by simp, hv.does⟩

/-! ##### the state as lists -/
structure St where
  env : List (Nat × D)
  heap : List Ob
  dec : List (Nat × Bool)
def look {α : Type} : List (Nat × α) → Nat → Option α
  | [], _ => none
  | (t, d) :: r, u => bif Nat.beq t u then some d else look r u
def setOb : List Ob → Nat → Ob → List Ob
  | [], 0, x => [x]
  | [], n + 1, x => .gone :: setOb [] n x
  | _ :: l, 0, x => x :: l
  | y :: l, n + 1, x => y :: setOb l n x
def obAt : List Ob → Nat → Ob
  | [], _ => .gone
  | x :: _, 0 => x
  | _ :: l, n + 1 => obAt l n
theorem obAt_set : ∀ (l : List Ob) (p : Nat) (x : Ob) (q : Nat), obAt (setOb l p x) q = if q = p then x else obAt l q
  | [], 0, x, 0 => rfl
  | [], 0, x, q + 1 => by simp [setOb, obAt]
  | [], p + 1, x, 0 => by simp [setOb, obAt]
  | [], p + 1, x, q + 1 => by simp [setOb, obAt, obAt_set [] p x q]
  | y :: l, 0, x, 0 => rfl
  | y :: l, 0, x, q + 1 => by simp [setOb, obAt]
  | y :: l, p + 1, x, 0 => by simp [setOb, obAt]
  | y :: l, p + 1, x, q + 1 => by simp [setOb, obAt, obAt_set l p x q]
theorem setOb_length : ∀ (l : List Ob) (p : Nat) (x : Ob), l.length ≤ (setOb l p x).length ∧ p < (setOb l p x).length
  | [], 0, x => by simp [setOb]
  | [], p + 1, x => by have := setOb_length [] p x; simp [setOb]; omega
  | y :: l, 0, x => by simp [setOb]
  | y :: l, p + 1, x => by have := setOb_length l p x; simp [setOb]; omega
def setObs (l : List Ob) : List (Nat × Ob) → List Ob
  | [] => l
  | (p, x) :: r => setObs (setOb l p x) r
/-- Is a place named once? (what ops tell names each place once) -/
theorem setObs_at : ∀ (ups : List (Nat × Ob)) (l : List Ob), (∀ x ∈ ups, x.1 < (setObs l ups).length) ∧ l.length ≤ (setObs l ups).length ∧ ∀ q, (q ∉ ups.map (·.1) → obAt (setObs l ups) q = obAt l q) ∧ (q ∈ ups.map (·.1) → ∃ x ∈ ups, x.1 = q ∧ obAt (setObs l ups) q = x.2)
  | [], l => ⟨by simp, Nat.le_refl _, fun q => ⟨fun _ => rfl, fun h => by simp at h⟩⟩
  | (p, x) :: r, l => by
    obtain ⟨h1, h2, h3⟩ := setObs_at r (setOb l p x)
    have hs := setOb_length l p x
    refine ⟨?_, by show l.length ≤ (setObs (setOb l p x) r).length; omega, fun q => ⟨fun hq => ?_, fun hq => ?_⟩⟩
    · intro y hy
      rcases List.mem_cons.1 hy with rfl | hy
      · show p < (setObs (setOb l p x) r).length; omega
      · exact h1 y hy
    · simp at hq
      have := (h3 q).1 (by simpa using hq.2)
      show obAt (setObs (setOb l p x) r) q = _
      rw [this, obAt_set, if_neg hq.1]
    · by_cases hr : q ∈ r.map (·.1)
      · obtain ⟨y, hy, e1, e2⟩ := (h3 q).2 hr
        exact ⟨y, List.mem_cons_of_mem _ hy, e1, e2⟩
      · have := (h3 q).1 hr
        simp at hq
        have hqp : q = p := by
          rcases hq with h | h
          · exact h
          · exfalso; apply hr; simpa using h
        subst hqp
        refine ⟨(q, x), List.mem_cons_self, rfl, ?_⟩
        show obAt (setObs (setOb l q x) r) q = _
        rw [this, obAt_set, if_pos rfl]
def purge (t : Nat) : List (Nat × Bool) → List (Nat × Bool)
  | [] => []
  | (u, b) :: r => bif Nat.beq u t then purge t r else (u, b) :: purge t r
theorem look_purge (t : Nat) : ∀ (l : List (Nat × Bool)) (u : Nat) (b : Bool), look (purge t l) u = some b → u ≠ t ∧ look l u = some b
  | [], u, b, h => by simp [purge, look] at h
  | (v, c) :: l, u, b, h => by
    simp only [purge] at h
    cases hv : Nat.beq v t with
    | true =>
      simp only [hv, cond_true] at h
      obtain ⟨h1, h2⟩ := look_purge t l u b h
      refine ⟨h1, ?_⟩
      have := Nat.eq_of_beq_eq_true hv
      subst this
      have hne : Nat.beq v u = false := by
        cases hb : Nat.beq v u with
        | false => rfl
        | true => exact absurd (Nat.eq_of_beq_eq_true hb).symm h1
      simp [look, hne, h2]
    | false =>
      simp only [hv, cond_false, look] at h ⊢
      cases hu : Nat.beq v u with
      | true =>
        simp only [hu, cond_true] at h ⊢
        have := Nat.eq_of_beq_eq_true hu
        subst this
        refine ⟨fun e => ?_, h⟩
        subst e
        rw [Nat.beq_refl] at hv; cases hv
      | false =>
        simp only [hu, cond_false] at h ⊢
        exact look_purge t l u b h
def St.put (σ : St) (dst : Option Nat) (d : D) (ups : List (Nat × Ob)) : St :=
  match dst with
  | some t => ⟨(t, d) :: σ.env, setObs σ.heap ups, purge t σ.dec⟩
  | none => ⟨σ.env, setObs σ.heap ups, σ.dec⟩
/-! The same, told so that a machine that works from outside in meets states that are written out. -/
/-! The number of the next place, as a numeral. -/
def lenGo {α : Type} : List α → List Nat → (Nat → Prop) → Prop → Prop
  | [], n :: _, K, _ => K n
  | _ :: l, _ :: ns, K, F => lenGo l ns K F
  | _, [], _, F => F
def lenN : List Nat := [0, 1, 2, 3, 4, 5, 6, 7, 8, 9, 10, 11, 12, 13, 14, 15, 16, 17, 18, 19, 20, 21, 22, 23, 24, 25, 26, 27, 28, 29, 30, 31, 32, 33, 34, 35, 36, 37, 38, 39]
def lenK {α : Type} (l : List α) (K : Nat → Prop) : Prop := lenGo l lenN K (K l.length)
theorem lenGo_eq {α : Type} : ∀ (l : List α) (ns : List Nat) (s : Nat) (K : Nat → Prop) (F : Prop), ns = List.range' s ns.length → F = K (s + l.length) → lenGo l ns K F = K (s + l.length)
  | [], [], s, K, F, _, hF => hF
  | _ :: l, [], s, K, F, _, hF => hF
  | [], n :: ns, s, K, F, h, _ => by
    simp only [List.length_cons, List.range'_succ, List.cons.injEq] at h
    simp [lenGo, h.1]
  | _ :: l, n :: ns, s, K, F, h, hF => by
    simp only [List.length_cons, List.range'_succ, List.cons.injEq] at h
    simp only [lenGo]
    rw [lenGo_eq l ns (s + 1) K F h.2 (by rw [hF, List.length_cons]; congr 1; omega), List.length_cons]
    congr 1; omega
theorem lenK_eq {α : Type} {l : List α} {K : Nat → Prop} : lenK l K = K l.length := by
  unfold lenK
  rw [lenGo_eq l lenN 0 K _ (by decide) (by rw [Nat.zero_add]), Nat.zero_add]
def putK (σ : St) (dst : Option Nat) (d : D) (ups : List (Nat × Ob)) (K : St → Prop) : Prop :=
  match σ with
  | ⟨e, h, c⟩ => match ups with
    | [] => match dst with
      | some t => forceL (purge t c) fun c => K ⟨(t, d) :: e, h, c⟩
      | none => K ⟨e, h, c⟩
    | _ :: _ => forceL (setObs h ups) fun h => match dst with
      | some t => forceL (purge t c) fun c => K ⟨(t, d) :: e, h, c⟩
      | none => K ⟨e, h, c⟩
theorem putK_eq {σ : St} {dst : Option Nat} {d : D} {ups : List (Nat × Ob)} {K : St → Prop} : putK σ dst d ups K = K (σ.put dst d ups) := by
  obtain ⟨e, h, c⟩ := σ
  cases ups <;> cases dst <;> simp [putK, forceL_eq, St.put, setObs]
def litK (t : Nat) (b : Bool) (σ : St) (K : St → Prop) : Prop := match σ with | ⟨e, h, c⟩ => K ⟨(t, .v (.bool b)) :: e, h, (t, b) :: c⟩
def endK (σ : St) (K : St → Prop) : Prop := match σ with | ⟨e, h, _⟩ => K ⟨e, h, []⟩
theorem endK_eq {σ : St} {K : St → Prop} : endK σ K = K ⟨σ.env, σ.heap, []⟩ := by cases σ; rfl
/-- Where a call began. -/
structure Ctx where
  X : Nat → Prop
  ρ : Nat → Slot
  w : World
  N : Nat
  mem : Mem X ρ w
structure Con (T : Tab P) (C : Ctx) (σ : St) (a : Act) (w : World) : Prop where
  size : a.tmps.size = C.N
  defers : a.defers = []
  dec : ∀ t b, look σ.dec t = some b → a.tmps[t]? = some (.bool b)
  real : ∃ X ρ, Real T.glob X ρ w (look σ.env) (obAt σ.heap) a.tmps ∧ Step (fun _ => True) C.X C.ρ C.w X ρ w ∧ ∀ q, σ.heap.length ≤ q → ρ q = .hole
def dstOk (N : Nat) : Option Nat → Prop
  | some t => match Nat.blt t N with | true => True | false => False
  | none => True
theorem Con.put {C : Ctx} {σ : St} {a : Act} {w : World} (c : Con T C σ a w) {X ρ} (r : Real T.glob X ρ w (look σ.env) (obAt σ.heap) a.tmps) (s0 : Step (fun _ => True) C.X C.ρ C.w X ρ w) (hh : ∀ q, σ.heap.length ≤ q → ρ q = .hole)
    {dst : Option Nat} {d : D} {ups : List (Nat × Ob)} {v : Value} {w' : World} {X' : Nat → Prop} {ρ' : Nat → Slot} (st : Step (fun p => p ∈ ups.map (·.1)) X ρ w X' ρ' w') (hd : DCell X' ρ' w' d v) (ho : ∀ x ∈ ups, ObOK X' ρ' w' x.1 x.2)
    (hdst : ∀ t, dst = some t → t < C.N) : Con T C (σ.put dst d ups) (a.put dst v) w' := by
  obtain ⟨h1, h2, h3⟩ := setObs_at ups σ.heap
  have hlook : look (σ.put dst d ups).env = updE (look σ.env) dst d := by
    funext u
    cases dst with
    | none => simp [St.put, updE]
    | some t =>
      simp only [St.put, updE, look]
      by_cases h : t = u
      · subst h; simp
      · have : Nat.beq t u = false := by
          cases hb : Nat.beq t u with
          | false => rfl
          | true => exact absurd (Nat.eq_of_beq_eq_true hb) h
        simp [this, h]
  have hheap : (σ.put dst d ups).heap = setObs σ.heap ups := by cases dst <;> rfl
  refine ⟨by cases dst <;> simp [Act.put, c.size], by cases dst <;> simp [Act.put, c.defers], ?_, X', ρ', ?_, Step.trans s0 st C.mem, ?_⟩
  · intro t b ht
    cases dst with
    | none => exact c.dec t b ht
    | some u =>
      obtain ⟨hne, hl⟩ := look_purge u σ.dec t b ht
      simp [Act.put, Array.getElem?_setIfInBounds_ne (Ne.symm hne), c.dec t b hl]
  · rw [hlook, hheap]
    refine Real.step r st dst hd (fun t ht => by rw [c.size]; exact hdst t ht) fun p => ⟨fun hp => ?_, fun hp => (h3 p).1 hp⟩
    obtain ⟨x, hx, e1, e2⟩ := (h3 p).2 hp
    rw [e2, ← e1]; exact ho x hx
  · intro q hq
    rw [hheap] at hq
    have hn : q ∉ ups.map (·.1) := by
      intro h
      obtain ⟨x, hx, rfl⟩ := List.mem_map.1 h
      have := h1 x hx; omega
    rw [st.same q hn]
    exact hh q (by omega)
end
end Go.DL
