/- DL, part 10: regions whose order Go leaves open. Own work; no condition. -/
import Derived.Test.YtdadnjhfennenaaDl9
set_option linter.unusedVariables false
set_option linter.unusedSimpArgs false
namespace Go.DL
open Go.RowKit

section
variable {P : Program} {T : Tab P}

/-! ##### what an operation looks at -/
def tmpOf : Operand → List Nat
  | .tmp t => [t]
  | _ => []
def tmpsOf : List Operand → List Nat
  | [] => []
  | x :: r => tmpOf x ++ tmpsOf r
def tmpsOf2 : List (Nat × Operand) → List Nat
  | [] => []
  | (_, x) :: r => tmpOf x ++ tmpsOf2 r
def optT : Option Operand → List Nat
  | some x => tmpOf x
  | none => []
def opRds : Op → List Nat
  | .move x | .assign x | .box _ x | .load _ x | .nilCheck x | .unOp _ _ x | .convert _ _ x | .fieldAddr _ x _ | .field _ x _ | .extract x _ | .range _ x | .next x _ => tmpOf x
  | .pick c a b => tmpOf c ++ (tmpOf a ++ tmpOf b)
  | .build _ ps | .buildSlice _ _ ps => tmpsOf2 ps.toList
  | .store _ a v | .binOp _ _ a v _ | .makeSlice _ a v | .indexAddr _ a v | .index _ a v => tmpOf a ++ tmpOf v
  | .slice _ x l h m => tmpOf x ++ (optT l ++ (optT h ++ optT m))
  | .makeFunc _ _ caps => tmpsOf caps.toList
  | .call c => (match c.callee with | .value f => tmpOf f | _ => []) ++ tmpsOf c.args.toList
  | _ => []
mutual
def posOf : D → List Nat
  | .arr p _ _ => [p]
  | .ptr p _ _ => [p]
  | .agg ds => posOfs ds
  | .tup ds => posOfs ds
  | .fn _ ds => posOfs ds
  | .any => []
  | .v _ => []
def posOfs : List D → List Nat
  | [] => []
  | d :: ds => posOf d ++ posOfs ds
end
def posAt (env : List (Nat × D)) : List Nat → List Nat
  | [] => []
  | t :: ts => (match look env t with | some d => posOf d | none => []) ++ posAt env ts
def isIn (t : Nat) : List Nat → Bool
  | [] => false
  | u :: r => bif Nat.beq u t then true else isIn t r
theorem isIn_iff {t : Nat} : ∀ {l : List Nat}, isIn t l = true ↔ t ∈ l
  | [] => by simp [isIn]
  | u :: r => by
    simp only [isIn, List.mem_cons]
    cases hb : Nat.beq u t with
    | true => simp [Nat.eq_of_beq_eq_true hb]
    | false =>
      have : t ≠ u := fun e => by subst e; rw [Nat.beq_refl] at hb; cases hb
      simp [this, isIn_iff (l := r)]
def onE (rt : List Nat) (E : Nat → Option D) (t : Nat) : Option D := bif isIn t rt then E t else none
def onH (rp : List Nat) (H : Nat → Ob) (p : Nat) : Ob := bif isIn p rp then H p else .gone

structure Rec where
  rt : List Nat
  rp : List Nat
  dst : Option Nat
  wp : List Nat
def optIn : Option Nat → List Nat → Bool
  | some t, l => isIn t l
  | none, _ => false
def optEq : Option Nat → Option Nat → Bool
  | some t, some u => Nat.beq t u
  | _, _ => false
def meet : List Nat → List Nat → Bool
  | [], _ => false
  | x :: xs, l => bif isIn x l then true else meet xs l
def confl (a b : Rec) : Bool := optIn a.dst b.rt || optIn b.dst a.rt || optEq a.dst b.dst || meet a.wp b.rp || meet b.wp a.rp || meet a.wp b.wp
def maskOf (acc : List Nat) : List Edge → Nat
  | [] => 0
  | e :: r => bif Region.binds .any e then (1 <<< e.on) ||| (acc.getD e.on 0 ||| maskOf acc r) else maskOf acc r
def ancs : List Oper → List Nat → List Nat
  | [], acc => acc
  | o :: r, acc => ancs r (acc ++ [maskOf acc o.after.toList])
/-- Is each earlier record that meets this one ahead of it by the edges? -/
def chk1 (mask : Nat) (b : Rec) : Nat → List Rec → Bool
  | _, [] => true
  | i, a :: r => bif confl a b then (bif mask.testBit i then chk1 mask b (i + 1) r else false) else chk1 mask b (i + 1) r
def chkAll : List Rec → List Rec → List Nat → Bool
  | _, [], _ => true
  | done, b :: r, m :: ms => bif chk1 m b 0 done then chkAll (done ++ [b]) r ms else false
  | _, _ :: _, [] => false
def edgesOk : Nat → List Oper → Bool
  | _, [] => true
  | i, o :: r => bif o.after.toList.all (fun e => !Region.binds .any e || Nat.blt e.on i) then edgesOk (i + 1) r else false

/-- A call whose outcome is told. -/
def CallDet (T : Tab P) (o : Oper) (E : Nat → Option D) (H : Nat → Ob) (nx : Nat) (K : KT) : Prop :=
  ∃ d ups nw, (∀ p ∈ nw, nx ≤ p ∧ p ∈ ups.map (·.1)) ∧ Does T o E H nw (Just d ups) ∧ K d ups nw
/-- The new places are among those that are told. -/
def nwIn (nw : List Nat) (ups : List (Nat × Ob)) (K : Prop) : Prop :=
  match nw.all fun p => isIn p (ups.map (·.1)) with | true => K | false => False
/-- A record, written out. -/
def recK (rt rp : List Nat) (dst : Option Nat) (wp : List Nat) (K : Rec → Prop) : Prop :=
  forceL rt fun rt => forceL rp fun rp => forceL wp fun wp => match dst with
    | some t => K ⟨rt, rp, some t, wp⟩
    | none => K ⟨rt, rp, none, wp⟩
theorem recK_eq {rt rp : List Nat} {dst : Option Nat} {wp : List Nat} {K : Rec → Prop} : recK rt rp dst wp K = K ⟨rt, rp, dst, wp⟩ := by
  unfold recK
  simp only [forceL_eq]
  cases dst <;> rfl
def drawExec (T : Tab P) (N : Nat) (o : Oper) (gd : List Nat) (σ : St) (K : St → Rec → Prop) : Prop :=
  match dstB N o.dst, isCall o.op with
  | true, true => lenK σ.heap fun nx => CallDet T o (onE (opRds o.op) (look σ.env)) (onH (posAt σ.env (opRds o.op)) (obAt σ.heap)) nx fun d ups nw => putK σ o.dst d ups fun σ' => recK (gd ++ opRds o.op) (posAt σ.env (opRds o.op)) o.dst (ups.map (·.1)) (K σ')
  | true, false => lenK σ.heap fun nx => opD T (onE (opRds o.op) (look σ.env)) (onH (posAt σ.env (opRds o.op)) (obAt σ.heap)) nx o fun d ups nw => nwIn nw ups (putK σ o.dst d ups fun σ' => recK (gd ++ opRds o.op) (posAt σ.env (opRds o.op)) o.dst (ups.map (·.1)) (K σ'))
  | false, _ => False
def drawGuard (ops : List Oper) (o : Oper) (σ : St) (exec skip : St → List Nat → Prop) : Prop :=
  match o.guard with
  | none => exec σ []
  | some (j, want) => match nthDst ops j with
    | none => False
    | some t => match look σ.dec t with
      | some lit => pickLit want lit (exec σ [t]) (skip σ [t])
      | none => match look σ.env t with
        | some (.v (.bool b)) => Br b (litK t true σ fun σ => pickLit want true (exec σ [t]) (skip σ [t])) (litK t false σ fun σ => pickLit want false (exec σ [t]) (skip σ [t]))
        | some (.v (.raw v)) => rawK v (skip σ [t])
        | _ => False
def drawOps (T : Tab P) (N : Nat) (ops : List Oper) : List Oper → List Rec → St → (List Rec → St → Prop) → Prop
  | [], rs, σ, K => endK σ (K rs)
  | o :: rest, rs, σ, K => drawGuard ops o σ (fun σ gd => drawExec T N o gd σ fun σ r => drawOps T N ops rest (rs ++ [r]) σ K)
      (fun σ gd => match dstB N o.dst with | true => putK σ o.dst (.v (.raw undef)) [] fun σ => drawOps T N ops rest (rs ++ [⟨gd, [], o.dst, []⟩]) σ K | false => False)
def drawNil (rs : List Rec) (σ : St) (K : List Rec → St → Prop) : Prop := endK σ (K rs)
def drawCons (T : Tab P) (N : Nat) (ops : List Oper) (o : Oper) (ih : List Rec → St → (List Rec → St → Prop) → Prop) (rs : List Rec) (σ : St) (K : List Rec → St → Prop) : Prop :=
  drawGuard ops o σ (fun σ gd => drawExec T N o gd σ fun σ r => ih (rs ++ [r]) σ K) (fun σ gd => match dstB N o.dst with | true => putK σ o.dst (.v (.raw undef)) [] fun σ => ih (rs ++ [⟨gd, [], o.dst, []⟩]) σ K | false => False)
noncomputable def drawR (T : Tab P) (N : Nat) (ops l : List Oper) : List Rec → St → (List Rec → St → Prop) → Prop :=
  List.rec (motive := fun _ => List Rec → St → (List Rec → St → Prop) → Prop) drawNil (fun o _ ih => drawCons T N ops o ih) l
theorem drawR_eq {N : Nat} {ops : List Oper} : ∀ (l : List Oper) (rs : List Rec) (σ : St) (K : List Rec → St → Prop), drawR T N ops l rs σ K = drawOps T N ops l rs σ K
  | [], rs, σ, K => rfl
  | o :: rest, rs, σ, K => by
    show drawCons T N ops o (drawR T N ops rest) rs σ K = _
    simp only [drawCons, drawOps, drawR_eq rest]
/-! The test of the whole region, told so that the kernel works it out step by step. -/
def forceB {α : Type} : List α → (List α → Bool) → Bool
  | [], K => K []
  | x :: xs, K => forceB xs fun ys => K (x :: ys)
theorem forceB_eq {α : Type} : ∀ (l : List α) (K : List α → Bool), forceB l K = K l
  | [], K => rfl
  | x :: xs, K => by simp only [forceB, forceB_eq xs]
def forceN (n : Nat) (K : Nat → Bool) : Bool := match n with
  | 0 => K 0
  | m + 1 => K (m + 1)
theorem forceN_eq (n : Nat) (K : Nat → Bool) : forceN n K = K n := by cases n <;> rfl
def ancsK : List Oper → List Nat → (List Nat → Bool) → Bool
  | [], acc, K => K acc
  | o :: r, acc, K => forceN (maskOf acc o.after.toList) fun m => forceB (acc ++ [m]) fun acc => ancsK r acc K
theorem ancsK_eq : ∀ (l : List Oper) (acc : List Nat) (K : List Nat → Bool), ancsK l acc K = K (ancs l acc)
  | [], acc, K => rfl
  | o :: r, acc, K => by simp only [ancsK, forceN_eq, forceB_eq, ancs, ancsK_eq r]
def chkAllK : List Rec → List Rec → List Nat → Bool
  | _, [], _ => true
  | done, b :: r, m :: ms => bif chk1 m b 0 done then forceB (done ++ [b]) fun done => chkAllK done r ms else false
  | _, _ :: _, [] => false
theorem chkAllK_eq : ∀ (done r : List Rec) (ms : List Nat), chkAllK done r ms = chkAll done r ms
  | done, [], ms => by simp only [chkAllK, chkAll]
  | done, b :: r, m :: ms => by simp only [chkAllK, chkAll, forceB_eq, chkAllK_eq _ r ms]
  | done, _ :: _, [] => by simp only [chkAllK, chkAll]
def endB (ops : List Oper) (rs : List Rec) : Bool := bif edgesOk 0 ops then ancsK ops [] fun ms => forceB rs fun rs => chkAllK [] rs ms else false
theorem endB_eq {ops : List Oper} {rs : List Rec} (h : endB ops rs = true) : edgesOk 0 ops = true ∧ chkAll [] rs (ancs ops []) = true := by
  unfold endB at h
  rw [ancsK_eq, forceB_eq, chkAllK_eq] at h
  cases he : edgesOk 0 ops with
  | true => rw [he] at h; exact ⟨rfl, h⟩
  | false => rw [he] at h; cases h
/-- A test, for the kernel alone. -/
structure EndOk (b : Bool) (K : Prop) : Prop where
  ok : b = true
  k : K
def drawEnd (ops : List Oper) (K : St → Prop) (rs : List Rec) (σ : St) : Prop :=
  EndOk (endB ops rs) (K σ)

/-! ##### why the order does not matter -/
structure Inst where
  r : Rec
  d : D
  ups : List (Nat × Ob)
  nw : List Nat
def updH (H : Nat → Ob) : List (Nat × Ob) → Nat → Ob
  | [] => H
  | (p, x) :: r => updH (fun q => if q = p then x else H q) r
theorem updH_out : ∀ {ups : List (Nat × Ob)} {H : Nat → Ob} {q : Nat}, q ∉ ups.map (·.1) → updH H ups q = H q
  | [], H, q, _ => rfl
  | (p, x) :: r, H, q, h => by
    simp at h
    simp only [updH]
    rw [updH_out (by simpa using h.2), if_neg h.1]
theorem updH_in : ∀ {ups : List (Nat × Ob)} {H H' : Nat → Ob} {q : Nat}, q ∈ ups.map (·.1) → updH H ups q = updH H' ups q ∧ ∃ x ∈ ups, x.1 = q ∧ updH H ups q = x.2
  | [], H, H', q, h => by simp at h
  | (p, x) :: r, H, H', q, h => by
    simp only [updH]
    by_cases hr : q ∈ r.map (·.1)
    · obtain ⟨h1, y, hy, e1, e2⟩ := updH_in (H := fun q => if q = p then x else H q) (H' := fun q => if q = p then x else H' q) hr
      exact ⟨h1, y, List.mem_cons_of_mem _ hy, e1, e2⟩
    · have hqp : q = p := by
        rcases List.mem_cons.1 h with h | h
        · exact h
        · exact absurd h hr
      subst hqp
      rw [updH_out hr, updH_out hr, if_pos rfl, if_pos rfl]
      exact ⟨rfl, (q, x), List.mem_cons_self, rfl, rfl⟩
theorem updH_pt : ∀ {ups : List (Nat × Ob)} {H H' : Nat → Ob} {q : Nat}, H q = H' q → updH H ups q = updH H' ups q := by
  intro ups H H' q h
  by_cases hq : q ∈ ups.map (·.1)
  · exact (updH_in hq).1
  · rw [updH_out hq, updH_out hq, h]
theorem obAt_setObs : ∀ (ups : List (Nat × Ob)) (l : List Ob), obAt (setObs l ups) = updH (obAt l) ups
  | [], l => rfl
  | (p, x) :: r, l => by
    simp only [setObs, updH]
    rw [obAt_setObs r (setOb l p x)]
    congr 1
    funext q
    exact obAt_set l p x q
def selE (S : Nat → Bool) : Nat → List Inst → (Nat → Option D) → Nat → Option D
  | _, [], E => E
  | i, x :: xs, E => selE S (i + 1) xs (if S i then updE E x.r.dst x.d else E)
def selH (S : Nat → Bool) : Nat → List Inst → (Nat → Ob) → Nat → Ob
  | _, [], H => H
  | i, x :: xs, H => selH S (i + 1) xs (if S i then updH H x.ups else H)
theorem updE_pt {E E' : Nat → Option D} {dst : Option Nat} {d : D} {t : Nat} (h : E t = E' t) : updE E dst d t = updE E' dst d t := by
  unfold updE; split
  · rfl
  · exact h
theorem updE_ne {E : Nat → Option D} {dst : Option Nat} {d : D} {t : Nat} (h : dst ≠ some t) : updE E dst d t = E t := by unfold updE; rw [if_neg h]
theorem selE_pt (S : Nat → Bool) : ∀ (xs : List Inst) (k : Nat) {E E' : Nat → Option D} {t : Nat}, E t = E' t → selE S k xs E t = selE S k xs E' t
  | [], k, E, E', t, h => h
  | x :: xs, k, E, E', t, h => by
    simp only [selE]
    refine selE_pt S xs (k + 1) ?_
    split
    · exact updE_pt h
    · exact h
theorem selH_pt (S : Nat → Bool) : ∀ (xs : List Inst) (k : Nat) {E E' : Nat → Ob} {t : Nat}, E t = E' t → selH S k xs E t = selH S k xs E' t
  | [], k, E, E', t, h => h
  | x :: xs, k, E, E', t, h => by
    simp only [selH]
    refine selH_pt S xs (k + 1) ?_
    split
    · exact updH_pt h
    · exact h
theorem selE_app (S : Nat → Bool) : ∀ (xs ys : List Inst) (k : Nat) (E : Nat → Option D), selE S k (xs ++ ys) E = selE S (k + xs.length) ys (selE S k xs E)
  | [], ys, k, E => rfl
  | x :: xs, ys, k, E => by simp only [List.cons_append, selE, List.length_cons]; rw [selE_app S xs ys]; congr 1; omega
theorem selH_app (S : Nat → Bool) : ∀ (xs ys : List Inst) (k : Nat) (E : Nat → Ob), selH S k (xs ++ ys) E = selH S (k + xs.length) ys (selH S k xs E)
  | [], ys, k, E => rfl
  | x :: xs, ys, k, E => by simp only [List.cons_append, selH, List.length_cons]; rw [selH_app S xs ys]; congr 1; omega
/-- Where all writers of t are chosen, the choice is as the whole; where none is, it does nothing. -/
theorem selE_all (S : Nat → Bool) : ∀ (xs : List Inst) (k : Nat) {E : Nat → Option D} {t : Nat}, (∀ (j : Nat) x, xs[j]? = some x → x.r.dst = some t → S (k + j) = true) → selE S k xs E t = selE (fun _ => true) k xs E t
  | [], k, E, t, _ => rfl
  | x :: xs, k, E, t, h => by
    simp only [selE, if_true]
    rw [selE_all S xs (k + 1) (fun j y hy hd => by have := h (j + 1) y (by simpa using hy) hd; rwa [show k + (j + 1) = k + 1 + j from by omega] at this)]
    refine selE_pt _ xs (k + 1) ?_
    by_cases hS : S k = true
    · rw [if_pos hS]
    · rw [if_neg hS, updE_ne]
      intro hd
      exact hS (by simpa using h 0 x rfl hd)
theorem selE_none (S : Nat → Bool) : ∀ (xs : List Inst) (k : Nat) {E : Nat → Option D} {t : Nat}, (∀ (j : Nat) x, xs[j]? = some x → x.r.dst = some t → S (k + j) = false) → selE S k xs E t = E t
  | [], k, E, t, _ => rfl
  | x :: xs, k, E, t, h => by
    simp only [selE]
    rw [selE_none S xs (k + 1) (fun j y hy hd => by have := h (j + 1) y (by simpa using hy) hd; rwa [show k + (j + 1) = k + 1 + j from by omega] at this)]
    split
    · rename_i hS
      rw [updE_ne]
      intro hd
      have := h 0 x rfl hd
      simp only [Nat.add_zero] at this
      rw [this] at hS; cases hS
    · rfl
theorem selH_all (S : Nat → Bool) : ∀ (xs : List Inst) (k : Nat) {E : Nat → Ob} {t : Nat}, (∀ (j : Nat) x, xs[j]? = some x → t ∈ x.ups.map (·.1) → S (k + j) = true) → selH S k xs E t = selH (fun _ => true) k xs E t
  | [], k, E, t, _ => rfl
  | x :: xs, k, E, t, h => by
    simp only [selH, if_true]
    rw [selH_all S xs (k + 1) (fun j y hy hd => by have := h (j + 1) y (by simpa using hy) hd; rwa [show k + (j + 1) = k + 1 + j from by omega] at this)]
    refine selH_pt _ xs (k + 1) ?_
    by_cases hS : S k = true
    · rw [if_pos hS]
    · rw [if_neg hS, updH_out]
      intro hd
      exact hS (by simpa using h 0 x rfl hd)
theorem selH_none (S : Nat → Bool) : ∀ (xs : List Inst) (k : Nat) {E : Nat → Ob} {t : Nat}, (∀ (j : Nat) x, xs[j]? = some x → t ∈ x.ups.map (·.1) → S (k + j) = false) → selH S k xs E t = E t
  | [], k, E, t, _ => rfl
  | x :: xs, k, E, t, h => by
    simp only [selH]
    rw [selH_none S xs (k + 1) (fun j y hy hd => by have := h (j + 1) y (by simpa using hy) hd; rwa [show k + (j + 1) = k + 1 + j from by omega] at this)]
    split
    · rename_i hS
      rw [updH_out]
      intro hd
      have := h 0 x rfl hd
      simp only [Nat.add_zero] at this
      rw [this] at hS; cases hS
    · rfl
theorem selE_congr {S S' : Nat → Bool} : ∀ (xs : List Inst) (k : Nat) {E : Nat → Option D}, (∀ j, j < xs.length → S (k + j) = S' (k + j)) → selE S k xs E = selE S' k xs E
  | [], k, E, _ => rfl
  | x :: xs, k, E, h => by
    simp only [selE]
    have h0 := h 0 (by simp)
    simp only [Nat.add_zero] at h0
    rw [h0]
    exact selE_congr xs (k + 1) (fun j hj => by have := h (j + 1) (by simp; omega); rwa [show k + (j + 1) = k + 1 + j from by omega] at this)
theorem selH_congr {S S' : Nat → Bool} : ∀ (xs : List Inst) (k : Nat) {E : Nat → Ob}, (∀ j, j < xs.length → S (k + j) = S' (k + j)) → selH S k xs E = selH S' k xs E
  | [], k, E, _ => rfl
  | x :: xs, k, E, h => by
    simp only [selH]
    have h0 := h 0 (by simp)
    simp only [Nat.add_zero] at h0
    rw [h0]
    exact selH_congr xs (k + 1) (fun j hj => by have := h (j + 1) (by simp; omega); rwa [show k + (j + 1) = k + 1 + j from by omega] at this)
/-- No two that meet are out of order: S holds what is ahead of i, and nothing that is behind it. -/
structure Fits (xs : List Inst) (S : Nat → Bool) (i : Nat) (x : Inst) : Prop where
  here : xs[i]? = some x
  out : S i = false
  ahead : ∀ (j : Nat) y, j < i → xs[j]? = some y → confl y.r x.r = true → S j = true
  behind : ∀ (j : Nat) y, i < j → xs[j]? = some y → confl x.r y.r = true → S j = false
theorem split_at {xs : List Inst} {i : Nat} {x : Inst} (h : xs[i]? = some x) : xs = xs.take i ++ x :: xs.drop (i + 1) ∧ (xs.take i).length = i := by
  have hlt : i < xs.length := (List.getElem?_eq_some_iff.1 h).1
  refine ⟨?_, by simp; omega⟩
  have e : xs[i] = x := (List.getElem?_eq_some_iff.1 h).2
  rw [← e, List.getElem_cons_drop, List.take_append_drop]
theorem confl_dst_rt {a b : Rec} {t : Nat} (ha : a.dst = some t) (hb : t ∈ b.rt) : confl a b = true ∧ confl b a = true := by
  have : optIn a.dst b.rt = true := by rw [ha]; exact isIn_iff.2 hb
  simp [confl, this]
theorem confl_dst_dst {a b : Rec} {t : Nat} (ha : a.dst = some t) (hb : b.dst = some t) : confl a b = true := by
  have : optEq a.dst b.dst = true := by rw [ha, hb]; exact Nat.beq_refl t
  simp [confl, this]
theorem meet_iff : ∀ {l m : List Nat}, meet l m = true ↔ ∃ x, x ∈ l ∧ x ∈ m
  | [], m => by simp [meet]
  | x :: xs, m => by
    simp only [meet]
    cases hb : isIn x m with
    | true => simp only [cond_true, true_iff]; exact ⟨x, List.mem_cons_self, isIn_iff.1 hb⟩
    | false =>
      simp only [cond_false, meet_iff (l := xs)]
      constructor
      · rintro ⟨y, h1, h2⟩; exact ⟨y, List.mem_cons_of_mem _ h1, h2⟩
      · rintro ⟨y, h1, h2⟩
        rcases List.mem_cons.1 h1 with rfl | h1
        · rw [isIn_iff.2 h2] at hb; cases hb
        · exact ⟨y, h1, h2⟩
theorem confl_wp_rp {a b : Rec} {p : Nat} (ha : p ∈ a.wp) (hb : p ∈ b.rp) : confl a b = true ∧ confl b a = true := by
  have : meet a.wp b.rp = true := meet_iff.2 ⟨p, ha, hb⟩
  simp [confl, this]
theorem confl_wp_wp {a b : Rec} {p : Nat} (ha : p ∈ a.wp) (hb : p ∈ b.wp) : confl a b = true := by
  have : meet a.wp b.wp = true := meet_iff.2 ⟨p, ha, hb⟩
  simp [confl, this]
variable {xs : List Inst} {S : Nat → Bool} {i : Nat} {x : Inst}
theorem Fits.readE (f : Fits xs S i x) (E : Nat → Option D) {t : Nat} (ht : t ∈ x.r.rt) : selE S 0 xs E t = selE (fun _ => true) 0 (xs.take i) E t := by
  obtain ⟨h1, h2⟩ := split_at f.here
  conv => lhs; rw [h1, selE_app]
  simp only [selE, Nat.zero_add, h2]
  rw [f.out]
  simp only [Bool.false_eq_true, if_false]
  rw [selE_none, selE_all]
  · intro j y hy hd
    have hj : j < i := by have := (List.getElem?_eq_some_iff.1 hy).1; simp at this; omega
    rw [Nat.zero_add]
    exact f.ahead j y hj (by rwa [List.getElem?_take, if_pos hj] at hy) (confl_dst_rt hd ht).1
  · intro j y hy hd
    rw [List.getElem?_drop] at hy
    exact f.behind (i + 1 + j) y (by omega) hy (confl_dst_rt hd ht).2
theorem Fits.readH (f : Fits xs S i x) (hw : ∀ y ∈ xs, y.r.wp = y.ups.map (·.1)) (E : Nat → Ob) {t : Nat} (ht : t ∈ x.r.rp) : selH S 0 xs E t = selH (fun _ => true) 0 (xs.take i) E t := by
  obtain ⟨h1, h2⟩ := split_at f.here
  conv => lhs; rw [h1, selH_app]
  simp only [selH, Nat.zero_add, h2]
  rw [f.out]
  simp only [Bool.false_eq_true, if_false]
  rw [selH_none, selH_all]
  · intro j y hy hd
    have hj : j < i := by have := (List.getElem?_eq_some_iff.1 hy).1; simp at this; omega
    rw [Nat.zero_add]
    rw [List.getElem?_take, if_pos hj] at hy
    exact f.ahead j y hj hy (confl_wp_rp (by rw [hw y (List.mem_of_getElem? hy)]; exact hd) ht).1
  · intro j y hy hd
    rw [List.getElem?_drop] at hy
    exact f.behind (i + 1 + j) y (by omega) hy (confl_wp_rp (by rw [hw y (List.mem_of_getElem? hy)]; exact hd) ht).2
theorem Fits.addE (f : Fits xs S i x) (E : Nat → Option D) {S' : Nat → Bool} (hS : ∀ j, S' j = if j = i then true else S j) : selE S' 0 xs E = updE (selE S 0 xs E) x.r.dst x.d := by
  obtain ⟨h1, h2⟩ := split_at f.here
  funext t
  have e1 : selE S' 0 (xs.take i) E = selE S 0 (xs.take i) E := selE_congr _ _ (fun j hj => by rw [hS, if_neg (by omega)])
  have e2 : ∀ F : Nat → Option D, selE S' (i + 1) (xs.drop (i + 1)) F = selE S (i + 1) (xs.drop (i + 1)) F := fun F => selE_congr _ _ (fun j hj => by rw [hS, if_neg (by omega)])
  have l1 : selE S' 0 xs E t = selE S (i + 1) (xs.drop (i + 1)) (updE (selE S 0 (xs.take i) E) x.r.dst x.d) t := by
    conv => lhs; rw [h1, selE_app]
    simp only [selE, Nat.zero_add, h2, e1, e2]
    rw [hS, if_pos rfl]; rfl
  have l2 : selE S 0 xs E t = selE S (i + 1) (xs.drop (i + 1)) (selE S 0 (xs.take i) E) t := by
    conv => lhs; rw [h1, selE_app]
    simp only [selE, Nat.zero_add, h2]
    rw [f.out]; rfl
  rw [l1]
  by_cases hd : x.r.dst = some t
  · rw [selE_none]
    · unfold updE; rw [if_pos hd, if_pos hd]
    · intro j y hy hd'
      rw [List.getElem?_drop] at hy
      exact f.behind (i + 1 + j) y (by omega) hy (confl_dst_dst hd hd')
  · rw [updE_ne hd, l2]
    exact selE_pt _ _ _ (updE_ne hd)
theorem Fits.addH (f : Fits xs S i x) (hw : ∀ y ∈ xs, y.r.wp = y.ups.map (·.1)) (E : Nat → Ob) {S' : Nat → Bool} (hS : ∀ j, S' j = if j = i then true else S j) : selH S' 0 xs E = updH (selH S 0 xs E) x.ups := by
  obtain ⟨h1, h2⟩ := split_at f.here
  funext t
  have e1 : selH S' 0 (xs.take i) E = selH S 0 (xs.take i) E := selH_congr _ _ (fun j hj => by rw [hS, if_neg (by omega)])
  have e2 : ∀ F : Nat → Ob, selH S' (i + 1) (xs.drop (i + 1)) F = selH S (i + 1) (xs.drop (i + 1)) F := fun F => selH_congr _ _ (fun j hj => by rw [hS, if_neg (by omega)])
  have l1 : selH S' 0 xs E t = selH S (i + 1) (xs.drop (i + 1)) (updH (selH S 0 (xs.take i) E) x.ups) t := by
    conv => lhs; rw [h1, selH_app]
    simp only [selH, Nat.zero_add, h2, e1, e2]
    rw [hS, if_pos rfl]; rfl
  have l2 : selH S 0 xs E t = selH S (i + 1) (xs.drop (i + 1)) (selH S 0 (xs.take i) E) t := by
    conv => lhs; rw [h1, selH_app]
    simp only [selH, Nat.zero_add, h2]
    rw [f.out]; rfl
  rw [l1]
  by_cases hd : t ∈ x.ups.map (·.1)
  · rw [selH_none]
    · exact (updH_in hd).1
    · intro j y hy hd'
      rw [List.getElem?_drop] at hy
      exact f.behind (i + 1 + j) y (by omega) hy (confl_wp_wp (by rw [hw x (List.mem_of_getElem? f.here)]; exact hd) (by rw [hw y (List.mem_of_getElem? hy)]; exact hd'))
  · rw [updH_out hd, l2]
    exact selH_pt _ _ _ (updH_out hd)

/-! ##### the trace of a region -/
def Good (T : Tab P) (ops : Array Oper) (o : Oper) (E : Nat → Option D) (H : Nat → Ob) (x : Inst) : Prop :=
  ∀ E' H', (∀ t ∈ x.r.rt, E' t = E t) → (∀ p ∈ x.r.rp, H' p = H p) → ∀ X ρ w (a : Act) (Q : Exit → Act → World → Prop) (K : Act → World → Prop), Real T.glob X ρ w E' H' a.tmps → (∀ p ∈ x.nw, ρ p = .hole) →
    (∀ v w' X' ρ', Step (fun p => p ∈ x.ups.map (·.1)) X ρ w X' ρ' w' → DCell X' ρ' w' x.d v → (∀ y ∈ x.ups, ObOK X' ρ' w' y.1 y.2) → K (a.put o.dst v) w') →
    if Region.wanted o (yielded ops a.tmps) then o.wp P a w K Q ∨ (o.asks P a w ∧ LetsOut Q) else K (a.put o.dst undef) w
inductive Tr (T : Tab P) (ops : Array Oper) : List Oper → List Inst → (Nat → Option D) → (Nat → Ob) → Nat → (Nat → Option D) → (Nat → Ob) → Nat → Prop where
  | nil {E H n} : Tr T ops [] [] E H n E H n
  | cons {o os x xs E H n n' E' H' n''} (g : Good T ops o E H x) (hd : x.r.dst = o.dst) (hw : x.r.wp = x.ups.map (·.1)) (hn : ∀ p ∈ x.nw, n ≤ p ∧ p ∈ x.r.wp) (hle : n ≤ n') (hlt : ∀ p ∈ x.r.wp, p < n')
      (r : Tr T ops os xs (updE E o.dst x.d) (updH H x.ups) n' E' H' n'') : Tr T ops (o :: os) (x :: xs) E H n E' H' n''
theorem Tr.get {ops : Array Oper} : ∀ {os xs E H n E' H' n'}, Tr T ops os xs E H n E' H' n' → os.length = xs.length ∧ n ≤ n' ∧ E' = selE (fun _ => true) 0 xs E ∧ H' = selH (fun _ => true) 0 xs H ∧ (∀ y ∈ xs, y.r.wp = y.ups.map (·.1) ∧ ∀ p ∈ y.r.wp, p < n') ∧
    ∀ (i : Nat) o, os[i]? = some o → ∃ x, xs[i]? = some x ∧ x.r.dst = o.dst ∧ Good T ops o (selE (fun _ => true) 0 (xs.take i) E) (selH (fun _ => true) 0 (xs.take i) H) x ∧
      ∀ p ∈ x.nw, n ≤ p ∧ p ∈ x.r.wp ∧ ∀ (j : Nat) y, j < i → xs[j]? = some y → p ∉ y.r.wp := by
  intro os xs E H n E' H' n' h
  induction h with
  | nil => exact ⟨rfl, Nat.le_refl _, rfl, rfl, by simp, fun i o h => by simp at h⟩
  | @cons o os x xs E H n n1 E' H' n2 g hd hw hn hle hlt r ih =>
    obtain ⟨h1, h2, h3, h4, h5, h6⟩ := ih
    have sh : ∀ (k : Nat) (l : List Inst) (F : Nat → Option D), selE (fun _ => true) (k + 1) l F = selE (fun _ => true) k l F := fun k l => by
      induction l generalizing k with
      | nil => intro F; rfl
      | cons y l ih => intro F; simp only [selE, if_true]; exact ih (k + 1) _
    have sh2 : ∀ (k : Nat) (l : List Inst) (F : Nat → Ob), selH (fun _ => true) (k + 1) l F = selH (fun _ => true) k l F := fun k l => by
      induction l generalizing k with
      | nil => intro F; rfl
      | cons y l ih => intro F; simp only [selH, if_true]; exact ih (k + 1) _
    refine ⟨by simp [h1], Nat.le_trans hle h2, ?_, ?_, ?_, ?_⟩
    · rw [h3]; simp only [selE, if_true, hd]; rw [sh]
    · rw [h4]; simp only [selH, if_true]; rw [sh2]
    · intro y hy
      rcases List.mem_cons.1 hy with rfl | hy
      · exact ⟨hw, fun p hp => Nat.lt_of_lt_of_le (hlt p hp) h2⟩
      · exact h5 y hy
    · intro i o' ho
      cases i with
      | zero =>
        simp at ho; subst ho
        exact ⟨x, rfl, hd, g, fun p hp => ⟨(hn p hp).1, (hn p hp).2, fun j y hj => absurd hj (Nat.not_lt_zero _)⟩⟩
      | succ i =>
        obtain ⟨y, hy, hyd, hyg, hyn⟩ := h6 i o' (by simpa using ho)
        refine ⟨y, by simpa using hy, hyd, ?_, fun p hp => ?_⟩
        · simp only [List.take_succ_cons, selE, selH, if_true, hd]
          rw [sh, sh2]; exact hyg
        · obtain ⟨a1, a2, a3⟩ := hyn p hp
          refine ⟨by omega, a2, fun j z hj hz => ?_⟩
          cases j with
          | zero => simp at hz; subst hz; intro hp'; have := hlt p hp'; omega
          | succ j => exact a3 j z (by omega) (by simpa using hz)

/-! ##### the edges -/
theorem ancs_spec : ∀ (l : List Oper) (acc : List Nat) (S : Nat → Prop), (∀ j, (h : j < acc.length) → S j → ∀ i, Nat.testBit acc[j] i = true → S i) →
    (∀ (j : Nat) o, l[j]? = some o → S (acc.length + j) → ∀ e ∈ o.after, Region.binds .any e = true → S e.on) → ∀ j, (h : j < (ancs l acc).length) → S j → ∀ i, Nat.testBit (ancs l acc)[j] i = true → S i
  | [], acc, S, h1, _, j, hj, hS, i, hi => h1 j hj hS i hi
  | o :: l, acc, S, h1, h2, j, hj, hS, i, hi => by
    have key : S acc.length → ∀ i, Nat.testBit (maskOf acc o.after.toList) i = true → S i := by
      intro hS'
      have hall : ∀ e ∈ o.after.toList, Region.binds .any e = true → S e.on := fun e he hb => h2 0 o rfl (by simpa using hS') e (by simpa using he) hb
      have : ∀ (es : List Edge), (∀ e ∈ es, Region.binds .any e = true → S e.on) → ∀ i, Nat.testBit (maskOf acc es) i = true → S i := by
        intro es
        induction es with
        | nil => intro _ i hi; simp [maskOf] at hi
        | cons e es ih =>
          intro he i hi
          simp only [maskOf] at hi
          cases hb : Region.binds .any e with
          | false => simp only [hb, cond_false] at hi; exact ih (fun e' h' => he e' (List.mem_cons_of_mem _ h')) i hi
          | true =>
            simp only [hb, cond_true, Nat.testBit_or, Bool.or_eq_true] at hi
            have hon := he e List.mem_cons_self hb
            rcases hi with hi | hi | hi
            · rw [Nat.one_shiftLeft, Nat.testBit_two_pow] at hi
              have : e.on = i := by simpa using hi
              rw [← this]; exact hon
            · by_cases hlt : e.on < acc.length
              · have : acc.getD e.on 0 = acc[e.on] := by simp [hlt]
                rw [this] at hi
                exact h1 _ hlt hon i hi
              · have : acc.getD e.on 0 = 0 := by simp; rw [List.getElem?_eq_none (by omega)]; rfl
                rw [this] at hi; simp at hi
            · exact ih (fun e' h' => he e' (List.mem_cons_of_mem _ h')) i hi
      exact this _ hall
    refine ancs_spec l (acc ++ [maskOf acc o.after.toList]) S ?_ ?_ j hj hS i hi
    · intro j hj hS i hi
      by_cases hlt : j < acc.length
      · rw [List.getElem_append_left hlt] at hi; exact h1 j hlt hS i hi
      · have : j = acc.length := by simp at hj; omega
        subst this
        simp at hi
        exact key hS i hi
    · intro j o' ho hS
      exact h2 (j + 1) o' (by simpa using ho) (by simp at hS; rwa [show acc.length + (j + 1) = acc.length + 1 + j from by omega])
theorem ancs_length : ∀ (l : List Oper) (acc : List Nat), (ancs l acc).length = acc.length + l.length
  | [], acc => rfl
  | o :: l, acc => by simp only [ancs]; rw [ancs_length l]; simp; omega
theorem chk1_spec {mask : Nat} {b : Rec} : ∀ {l : List Rec} {i : Nat}, chk1 mask b i l = true → ∀ (j : Nat) a, l[j]? = some a → confl a b = true → Nat.testBit mask (i + j) = true
  | [], i, _, j, a, h, _ => by simp at h
  | c :: l, i, h, j, a, ha, hc => by
    simp only [chk1] at h
    cases j with
    | zero =>
      simp at ha; subst ha
      rw [hc] at h
      simp only [cond_true] at h
      cases hb : mask.testBit i with
      | true => simp
      | false => rw [hb] at h; simp at h
    | succ j =>
      have h' : chk1 mask b (i + 1) l = true := by
        cases hc' : confl c b with
        | false => rw [hc'] at h; simpa using h
        | true =>
          rw [hc'] at h; simp only [cond_true] at h
          cases hb : mask.testBit i with
          | true => rw [hb] at h; simpa using h
          | false => rw [hb] at h; simp at h
      have := chk1_spec h' j a (by simpa using ha) hc
      rwa [show i + (j + 1) = i + 1 + j from by omega]
theorem chkAll_spec : ∀ {r : List Rec} {done : List Rec} {ms : List Nat} {ms0 : List Nat}, chkAll done r ms = true → ms0.length = done.length → (∀ (i j : Nat) a b m, i < j → done[i]? = some a → done[j]? = some b → ms0[j]? = some m → confl a b = true → Nat.testBit m i = true) →
    ∀ (i j : Nat) a b m, i < j → (done ++ r)[i]? = some a → (done ++ r)[j]? = some b → (ms0 ++ ms)[j]? = some m → confl a b = true → Nat.testBit m i = true
  | [], done, ms, ms0, _, hl, hd, i, j, a, b, m, hij, ha, hb, hm, hc => by
    rw [List.append_nil] at ha hb
    have hj : j < done.length := (List.getElem?_eq_some_iff.1 hb).1
    rw [List.getElem?_append_left (by omega)] at hm
    exact hd i j a b m hij ha hb hm hc
  | c :: r, done, [], ms0, h, _, _, _, _, _, _, _, _, _, _, _, _ => by simp [chkAll] at h
  | c :: r, done, m0 :: ms, ms0, h, hl, hd, i, j, a, b, m, hij, ha, hb, hm, hc => by
    simp only [chkAll] at h
    cases hk : chk1 m0 c 0 done with
    | false => rw [hk] at h; simp at h
    | true =>
      rw [hk] at h; simp only [cond_true] at h
      refine chkAll_spec (ms0 := ms0 ++ [m0]) h (by simp [hl]) ?_ i j a b m hij (by simpa using ha) (by simpa using hb) (by simpa using hm) hc
      intro i j a b m hij ha hb hm hc
      have hj : j < done.length + 1 := by have := (List.getElem?_eq_some_iff.1 hb).1; simpa using this
      by_cases hjd : j < done.length
      · rw [List.getElem?_append_left (by omega)] at ha
        rw [List.getElem?_append_left hjd] at hb
        rw [List.getElem?_append_left (by omega)] at hm
        exact hd i j a b m hij ha hb hm hc
      · have : j = done.length := by omega
        subst this
        rw [List.getElem?_append_left hij] at ha
        rw [List.getElem?_append_right (Nat.le_refl _)] at hb
        rw [List.getElem?_append_right (by omega)] at hm
        simp at hb
        rw [hl] at hm
        simp at hm
        subst hb hm
        have := chk1_spec hk i a ha hc
        simpa using this
theorem edgesOk_spec : ∀ {l : List Oper} {k : Nat}, edgesOk k l = true → ∀ (j : Nat) o, l[j]? = some o → ∀ e ∈ o.after, Region.binds .any e = true → e.on < k + j
  | [], k, _, j, o, h => by simp at h
  | c :: l, k, h, j, o, ho => by
    simp only [edgesOk] at h
    cases hk : (c.after.toList.all fun e => !Region.binds .any e || Nat.blt e.on k) with
    | false => rw [hk] at h; simp at h
    | true =>
      rw [hk] at h; simp only [cond_true] at h
      cases j with
      | zero =>
        simp at ho; subst ho
        intro e he hb
        have := (List.all_eq_true.1 hk) e (by simpa using he)
        rw [hb] at this
        simp only [Bool.not_true, Bool.false_or] at this
        have := Nat.le_of_ble_eq_true this
        omega
      | succ j =>
        have := edgesOk_spec h j o (by simpa using ho)
        intro e he hb
        have := this e he hb
        omega
end
attribute [irreducible] CallDet
end Go.DL
