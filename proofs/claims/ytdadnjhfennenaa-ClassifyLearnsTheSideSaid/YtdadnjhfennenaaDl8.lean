/- DL, part 8: regions in the order of their text, code, loops, returns. Own work; no condition. -/
import Derived.Test.YtdadnjhfennenaaDl7
set_option linter.unusedVariables false
set_option linter.unusedSimpArgs false
namespace Go.DL
open Go.RowKit

section
variable {P : Program} {T : Tab P}

/-! ##### a region in the order of its text -/
/-- A call of a Go function, or what the machine does in its place: proved by a contract. -/
def CallOp (T : Tab P) (o : Oper) (E : Nat → Option D) (H : Nat → Ob) (nx : Nat) (K : KT) : Prop :=
  ∃ nw R, (∀ p ∈ nw, nx ≤ p) ∧ Does T o E H nw R ∧ ∀ d ups, R d ups → K d ups nw
def dstB (N : Nat) : Option Nat → Bool
  | some t => Nat.blt t N
  | none => true
def isCall : Op → Bool
  | .call c => match c.callee with | .value _ | .invoke .. => true | .builtin b => match b with | .len | .min | .max => false | _ => true
  | .makeSlice .. => true
  | .range .. | .next .. | .slice .. => true
  | .binOp _ _ _ (.const (.slice ..)) _ => true
  | .convert .. => false
  | _ => false
def execK (T : Tab P) (N : Nat) (o : Oper) (σ : St) (K : St → Prop) : Prop :=
  match dstB N o.dst, isCall o.op with
  | true, true => lenK σ.heap fun nx => CallOp T o (look σ.env) (obAt σ.heap) nx fun d ups _ => putK σ o.dst d ups K
  | true, false => lenK σ.heap fun nx => opD T (look σ.env) (obAt σ.heap) nx o fun d ups _ => putK σ o.dst d ups K
  | false, _ => False
def nthDst : List Oper → Nat → Option Nat
  | [], _ => none
  | o :: _, 0 => o.dst
  | _ :: l, n + 1 => nthDst l n
theorem nthDst_eq : ∀ (l : List Oper) (j : Nat), nthDst l j = (l[j]?).bind (·.dst)
  | [], j => by simp [nthDst]
  | o :: l, 0 => by simp [nthDst]
  | o :: l, j + 1 => by simp [nthDst, nthDst_eq l j]
def pickLit (want lit : Bool) (A B : Prop) : Prop := match want, lit with | true, true | false, false => A | _, _ => B
def litSt (t : Nat) (b : Bool) (σ : St) : St := ⟨(t, .v (.bool b)) :: σ.env, σ.heap, (t, b) :: σ.dec⟩
theorem litK_eq {t : Nat} {b : Bool} {σ : St} {K : St → Prop} : litK t b σ K = K (litSt t b σ) := by cases σ; rfl
/-- Of an operation that was left out nothing is asked. -/
def rawK (u : Value) (A : Prop) : Prop := match u with
  | .bool _ => False
  | _ => A
theorem rawK_out {u : Value} {A : Prop} (h : rawK u A) : (∀ b, u ≠ .bool b) ∧ A := by
  unfold rawK at h
  split at h
  · exact h.elim
  · rename_i hu; exact ⟨hu, h⟩
def guardK (ops : List Oper) (o : Oper) (σ : St) (exec skip : St → Prop) : Prop :=
  match o.guard with
  | none => exec σ
  | some (j, want) => match nthDst ops j with
    | none => False
    | some t => match look σ.dec t with
      | some lit => pickLit want lit (exec σ) (skip σ)
      | none => match look σ.env t with
        | some (.v (.bool b)) => Br b (litK t true σ fun σ => pickLit want true (exec σ) (skip σ)) (litK t false σ fun σ => pickLit want false (exec σ) (skip σ))
        | some (.v (.raw v)) => rawK v (skip σ)
        | _ => False
def stepOps (T : Tab P) (N : Nat) (ops : List Oper) : List Oper → St → (St → Prop) → Prop
  | [], σ, K => endK σ K
  | o :: rest, σ, K => guardK ops o σ (fun σ => execK T N o σ fun σ => stepOps T N ops rest σ K)
      (fun σ => match dstB N o.dst with | true => putK σ o.dst (.v (.raw undef)) [] fun σ => stepOps T N ops rest σ K | false => False)

/-! The same by the recursor itself: the kernel and the walk then meet the same terms. -/
def stepNil (σ : St) (K : St → Prop) : Prop := endK σ K
def stepCons (T : Tab P) (N : Nat) (ops : List Oper) (o : Oper) (ih : St → (St → Prop) → Prop) (σ : St) (K : St → Prop) : Prop :=
  guardK ops o σ (fun σ => execK T N o σ fun σ => ih σ K) (fun σ => match dstB N o.dst with | true => putK σ o.dst (.v (.raw undef)) [] fun σ => ih σ K | false => False)
noncomputable def stepR (T : Tab P) (N : Nat) (ops l : List Oper) : St → (St → Prop) → Prop :=
  List.rec (motive := fun _ => St → (St → Prop) → Prop) stepNil (fun o _ ih => stepCons T N ops o ih) l
theorem stepR_eq {T : Tab P} {N : Nat} {ops : List Oper} : ∀ (l : List Oper) (σ : St) (K : St → Prop), stepR T N ops l σ K = stepOps T N ops l σ K
  | [], σ, K => rfl
  | o :: rest, σ, K => by
    show stepCons T N ops o (stepR T N ops rest) σ K = _
    simp only [stepCons, stepOps, stepR_eq rest]
theorem dstB_lt {N : Nat} {dst : Option Nat} (h : dstB N dst = true) : ∀ t, dst = some t → t < N := by
  intro t ht; subst ht; simp only [dstB] at h; exact Nat.le_of_ble_eq_true h
theorem Con.redec {C : Ctx} {σ : St} {a : Act} {w : World} (c : Con T C σ a w) {t : Nat} {b : Bool} (h : a.tmps[t]? = some (.bool b)) : Con T C (litSt t b σ) a w :=
  ⟨c.size, c.defers, fun u d hu => by
    simp only [litSt, look] at hu
    cases hb : Nat.beq t u with
    | true => simp only [hb, cond_true] at hu; injection hu with hu; subst hu; rw [← Nat.eq_of_beq_eq_true hb]; exact h
    | false => simp only [hb, cond_false] at hu; exact c.dec u d hu, by
    obtain ⟨X, ρ, r, s, hh⟩ := c.real
    refine ⟨X, ρ, ⟨r.glob, r.mem, fun u d hu => ?_, r.obs⟩, s, hh⟩
    simp only [litSt, look] at hu
    cases hb : Nat.beq t u with
    | true =>
      simp only [hb, cond_true] at hu; injection hu with hu; subst hu
      rw [← Nat.eq_of_beq_eq_true hb]; exact ⟨_, h, rfl⟩
    | false => simp only [hb, cond_false] at hu; exact r.env u d hu⟩
theorem Con.nodec {C : Ctx} {σ : St} {a : Act} {w : World} (c : Con T C σ a w) : Con T C ⟨σ.env, σ.heap, []⟩ a w :=
  ⟨c.size, c.defers, fun u d hu => by simp [look] at hu, c.real⟩
theorem execK_wp {C : Ctx} {N : Nat} (hN : C.N = N) {o : Oper} {σ : St} {J : St → Prop} (h : execK T N o σ J) {a : Act} {w : World} (c : Con T C σ a w) {Q : Exit → Act → World → Prop} {K : Act → World → Prop}
    (hK : ∀ σ' a' w', Con T C σ' a' w' → J σ' → K a' w') : o.wp P a w K Q := by
  obtain ⟨X, ρ, r, s0, hh⟩ := c.real
  have fin : ∀ {nw : List Nat} {R : D → List (Nat × Ob) → Prop}, dstB N o.dst = true → (∀ p ∈ nw, σ.heap.length ≤ p) → Does T o (look σ.env) (obAt σ.heap) nw R → (∀ d ups, R d ups → J (σ.put o.dst d ups)) → o.wp P a w K Q := by
    intro nw R hd hnw hdoes hR
    refine hdoes X ρ w a Q K r (fun p hp => hh p (hnw p hp)) ?_
    intro d ups v w' X' ρ' hr st hc ho
    exact hK _ _ _ (c.put r s0 hh st hc ho (fun t ht => by rw [hN]; exact dstB_lt hd t ht)) (hR d ups hr)
  unfold execK at h
  simp only [putK_eq, lenK_eq] at h
  split at h
  · rename_i hd hc
    obtain ⟨nw, R, hnw, hdoes, hR⟩ := h
    exact fin hd hnw hdoes hR
  · rename_i hd hc
    obtain ⟨d, ups, nw, hJ, hnw, hdoes⟩ := opD_does h
    exact fin hd (fun p hp => by rw [hnw p hp]; exact Nat.le_refl _) hdoes (fun d' u' hr => by obtain ⟨rfl, rfl⟩ := hr; exact hJ)
  · exact h.elim
theorem pickLit_out {want lit : Bool} {A B : Prop} (h : pickLit want lit A B) : (lit = want ∧ A) ∨ (lit ≠ want ∧ B) := by
  cases want <;> cases lit <;> simp [pickLit] at h ⊢ <;> exact h
theorem yielded_not {ops : Array Oper} {tmps : Array Value} {j t : Nat} {u : Value} {want : Bool} (hdst : (ops[j]?).bind (·.dst) = some t) (hv : tmps[t]? = some u) (hu : ∀ b, u ≠ .bool b) : yielded ops tmps j ≠ some want := by
  unfold yielded
  rw [hdst]
  simp only [Option.bind_some, hv]
  split
  · rename_i b hb
    injection hb with hb
    exact absurd hb (hu b)
  · simp
theorem stepOps_wp {C : Ctx} {N : Nat} (hN : C.N = N) {ops : Array Oper} {Q : Exit → Act → World → Prop} {J : St → Prop} (hQ : ∀ σ a w, Con T C σ a w → J σ → Q .normal a w) :
    ∀ (l : List Oper) (σ : St) (a : Act) (w : World), stepOps T N ops.toList l σ J → Con T C σ a w → wpList P ops Q l a w
  | [], σ, a, w, h, c => hQ _ _ _ c.nodec (by rw [stepOps, endK_eq] at h; exact h)
  | o :: rest, σ, a, w, h, c => by
    have skip : ∀ {σ : St} , (match dstB N o.dst with | true => stepOps T N ops.toList rest (σ.put o.dst (.v (.raw undef)) []) J | false => False) → Con T C σ a w → wpList P ops Q rest (a.put o.dst undef) w := by
      intro σ h c
      split at h
      · rename_i hd
        obtain ⟨X, ρ, r, s0, hh⟩ := c.real
        have st : Step (fun p => p ∈ ([] : List (Nat × Ob)).map (·.1)) X ρ w X ρ w := Step.refl r.mem
        exact stepOps_wp hN hQ rest _ _ _ h (c.put r s0 hh st (d := .v (.raw undef)) rfl (by simp) (fun t ht => by rw [hN]; exact dstB_lt hd t ht))
      · exact h.elim
    have exec : ∀ {σ : St}, execK T N o σ (fun σ => stepOps T N ops.toList rest σ J) → Con T C σ a w → o.wp P a w (wpList P ops Q rest) Q := by
      intro σ h c
      exact execK_wp hN h c fun σ' a' w' c' h' => stepOps_wp hN hQ rest σ' a' w' h' c'
    simp only [stepOps, putK_eq] at h
    unfold wpList
    unfold guardK at h
    simp only [litK_eq] at h
    cases hg : o.guard with
    | none =>
      simp only [hg] at h
      rw [if_pos (by simp [Region.wanted, hg])]
      exact .inl (exec h c)
    | some g =>
      obtain ⟨j, want⟩ := g
      simp only [hg] at h
      cases ht : nthDst ops.toList j with
      | none => simp only [ht] at h
      | some t =>
        simp only [ht] at h
        have hdst : (ops[j]?).bind (·.dst) = some t := by
          rw [nthDst_eq] at ht; simpa using ht
        have fin : ∀ (lit : Bool) (σ' : St), a.tmps[t]? = some (.bool lit) → Con T C σ' a w → pickLit want lit (execK T N o σ' fun σ => stepOps T N ops.toList rest σ J) (match dstB N o.dst with | true => stepOps T N ops.toList rest (σ'.put o.dst (.v (.raw undef)) []) J | false => False) →
            if Region.wanted o (yielded ops a.tmps) = true then (o.wp P a w (wpList P ops Q rest) Q ∨ (o.asks P a w ∧ LetsOut Q)) else wpList P ops Q rest (a.put o.dst undef) w := by
          intro lit σ' hl c' hp
          have hy : yielded ops a.tmps j = some lit := by simp [yielded, hdst, hl]
          rcases pickLit_out hp with ⟨rfl, hA⟩ | ⟨hne, hB⟩
          · rw [if_pos (by simp [Region.wanted, hg, hy])]
            exact .inl (exec hA c')
          · rw [if_neg (by simp [Region.wanted, hg, hy, hne])]
            exact skip hB c'
        cases hl : look σ.dec t with
        | some lit =>
          simp only [hl] at h
          exact fin lit σ (c.dec t lit hl) c h
        | none =>
          simp only [hl] at h
          split at h
          · rename_i b hb
            have hv : a.tmps[t]? = some (.bool b) := by
              obtain ⟨X, ρ, r, _, _⟩ := c.real
              obtain ⟨v, hv, hd⟩ := r.env t _ hb
              unfold DCell VCell at hd
              rw [hv, hd]
            cases b with
            | true => exact fin true _ hv (c.redec hv) (h.t rfl)
            | false => exact fin false _ hv (c.redec hv) (h.f rfl)
          · rename_i v hv
            obtain ⟨hnb, hB⟩ := rawK_out h
            obtain ⟨X, ρ, r, s0, hh⟩ := c.real
            obtain ⟨v', hv', hd'⟩ := r.env t _ hv
            have hv2 : v' = v := hd'
            subst hv2
            have hy : yielded ops a.tmps j ≠ some want := yielded_not hdst hv' hnb
            rw [if_neg (by simp [Region.wanted, hg, hy])]
            exact skip hB c
          · exact h.elim
/-! ##### code -/
/-- From every state that stands for σ the code ends so that Q holds of a state that stands for what is there. m: how many objects came in. -/
def WpD (T : Tab P) (m N : Nat) (c : Code) (σ : St) (Q : Exit → St → Prop) : Prop :=
  ∀ (C : Ctx), C.N = N → (∀ q, m ≤ q → C.ρ q = .hole) → ∀ a w, Con T C σ a w → c.wp P (fun e a' w' => ∃ σ', Con T C σ' a' w' ∧ Q e σ') a w
def thenQ (k : St → Prop) (Q : Exit → St → Prop) : Exit → St → Prop
  | .normal, σ => k σ
  | e, σ => Q e σ
def inBlockQ (id : Nat) (Q : Exit → St → Prop) : Exit → St → Prop
  | .exit i, σ => bif Nat.beq i id then Q .normal σ else Q (.exit i) σ
  | e, σ => Q e σ
variable {m N : Nat} {σ : St} {Q : Exit → St → Prop}
theorem WpD.skip (h : Q .normal σ) : WpD T m N .skip σ Q := fun C _ _ a w c => wp_skip ⟨σ, c, h⟩
theorem WpD.exit {id : Nat} (h : Q (.exit id) σ) : WpD T m N (.exit id) σ Q := fun C _ _ a w c => wp_exit ⟨σ, c, h⟩
theorem WpD.ret (h : Q .ret σ) : WpD T m N .ret σ Q := fun C _ _ a w c => wp_ret ⟨σ, c, h⟩
theorem WpD.seq {x y : Code} (h : WpD T m N x σ (thenQ (fun σ' => WpD T m N y σ' Q) Q)) : WpD T m N (.seq x y) σ Q := fun C hN hm a w c =>
  wp_seq (wp_mono (h C hN hm a w c) fun e a' w' ⟨σ', c', q⟩ => by
    cases e with
    | normal => exact q C hN hm a' w' c'
    | _ => exact ⟨σ', c', q⟩)
theorem WpD.cond {c : Operand} {x y : Code} {b : Bool} (hc : ev T (look σ.env) 0 c = some (.v (.bool b))) (h : Br b (WpD T m N x σ Q) (WpD T m N y σ Q)) : WpD T m N (.cond c x y) σ Q := fun C hN hm a w k => by
  obtain ⟨X, ρ, r, _, _⟩ := k.real
  have hv := ev_cell r hc
  unfold DCell VCell at hv
  refine wp_cond hv ?_
  cases b with
  | true => exact h.t rfl C hN hm a w k
  | false => exact h.f rfl C hN hm a w k
theorem WpD.block {id : Nat} {x : Code} (h : WpD T m N x σ (inBlockQ id Q)) : WpD T m N (.block id x) σ Q := fun C hN hm a w c =>
  wp_block (wp_mono (h C hN hm a w c) fun e a' w' ⟨σ', c', q⟩ => by
    cases e with
    | exit i =>
      simp only [inBlockQ] at q
      simp only [Exit.inBlock]
      cases hb : Nat.beq i id with
      | true => rw [if_pos (Nat.eq_of_beq_eq_true hb)]; simp only [hb, cond_true] at q; exact ⟨σ', c', q⟩
      | false =>
        rw [if_neg (fun e => by subst e; rw [Nat.beq_refl] at hb; cases hb)]
        simp only [hb, cond_false] at q; exact ⟨σ', c', q⟩
    | _ => exact ⟨σ', c', q⟩)
theorem WpD.region {id : Nat} {ops : Array Oper} (h : stepR T N ops.toList ops.toList σ (Q .normal)) : WpD T m N (.region id ops false) σ Q := fun C hN hm a w c => by
  rw [stepR_eq] at h
  exact wp_region_list (stepOps_wp hN (fun σ' a' w' c' q => ⟨σ', c', q⟩) ops.toList σ a w h c)
theorem WpD.mono {x : Code} {Q' : Exit → St → Prop} (h : WpD T m N x σ Q) (hq : ∀ e σ, Q e σ → Q' e σ) : WpD T m N x σ Q' := fun C hN hm a w c =>
  wp_mono (h C hN hm a w c) fun e a' w' ⟨σ', c', q⟩ => ⟨σ', c', hq e σ' q⟩

/-! ##### another state for the same machine -/
mutual
def renD (θ : Nat → Nat) : D → D
  | .arr p o n => .arr (θ p) o n
  | .ptr p i j => .ptr (θ p) i j
  | .agg ds => .agg (renDs θ ds)
  | .tup ds => .tup (renDs θ ds)
  | .fn f ds => .fn f (renDs θ ds)
  | .any => .any
  | .v x => .v x
def renDs (θ : Nat → Nat) : List D → List D
  | [] => []
  | d :: ds => renD θ d :: renDs θ ds
end
mutual
def refsLt (n : Nat) : D → Bool
  | .arr p _ _ => Nat.blt p n
  | .ptr p _ _ => Nat.blt p n
  | .agg ds => refsLts n ds
  | .tup ds => refsLts n ds
  | .fn _ ds => refsLts n ds
  | .any => true
  | .v _ => true
def refsLts (n : Nat) : List D → Bool
  | [] => true
  | d :: ds => refsLt n d && refsLts n ds
end
def slotsBy (th : List Nat) (ρ : Nat → Slot) (i : Nat) : Slot := match th[i]? with | some q => ρ q | none => .hole
theorem slotsBy_lt {th : List Nat} {ρ : Nat → Slot} {p : Nat} (h : Nat.blt p th.length = true) : slotsBy th ρ p = ρ (th.getD p 0) := by
  have : p < th.length := Nat.le_of_ble_eq_true h
  simp [slotsBy, this]
mutual
theorem renD_cell {X : Nat → Prop} {ρ : Nat → Slot} {w : World} (th : List Nat) : ∀ (d : D) {u : Value}, refsLt th.length d = true → DCell X ρ w (renD (th.getD · 0) d) u → DCell X (slotsBy th ρ) w d u
  | .any, u, _, _ => trivial
  | .v x, u, _, h => h
  | .arr p o n, u, hr, h => by
    unfold DCell; rw [slotsBy_lt hr]; exact h
  | .ptr p i j, u, hr, h => by
    unfold DCell; rw [slotsBy_lt hr]; exact h
  | .agg ds, u, hr, h => by
    obtain ⟨vs, hv, hl, hc⟩ := h
    obtain ⟨h1, h2⟩ := renDs_cell th ds hr hc
    exact ⟨vs, hv, hl.trans h2, h1⟩
  | .tup ds, u, hr, h => by
    obtain ⟨vs, hv, hl, hc⟩ := h
    obtain ⟨h1, h2⟩ := renDs_cell th ds hr hc
    exact ⟨vs, hv, hl.trans h2, h1⟩
  | .fn f ds, u, hr, h => by
    obtain ⟨vs, hv, hl, hc⟩ := h
    obtain ⟨h1, h2⟩ := renDs_cell th ds hr hc
    exact ⟨vs, hv, hl.trans h2, h1⟩
theorem renDs_cell {X : Nat → Prop} {ρ : Nat → Slot} {w : World} (th : List Nat) : ∀ (ds : List D) {us : List Value}, refsLts th.length ds = true → DCells X ρ w (renDs (th.getD · 0) ds) us → DCells X (slotsBy th ρ) w ds us ∧ (renDs (th.getD · 0) ds).length = ds.length
  | [], us, _, _ => ⟨trivial, rfl⟩
  | d :: ds, [], _, h => h.elim
  | d :: ds, u :: us, hr, h => by
    simp only [refsLts, Bool.and_eq_true] at hr
    obtain ⟨h1, h2⟩ := renDs_cell th ds hr.2 h.2
    exact ⟨⟨renD_cell th d hr.1 h.1, h1⟩, by simp only [renDs, List.length_cons, h2]⟩
end
def envLe (env : List (Nat × D)) (th : List Nat) : List (Nat × D) → Prop
  | [] => True
  | (t, d) :: r => look env t = some (renD (th.getD · 0) d) ∧ refsLt th.length d = true ∧ envLe env th r
def obLe (th : List Nat) : Ob → Ob → Prop
  | _, .gone => True
  | .arr sz rows, .arr sz' rows' => sz = sz' ∧ rows = rows'.map (renDs (th.getD · 0)) ∧ rows'.all (refsLts th.length) = true
  | .cap q c, .cap q' c' => Nat.blt q' th.length = true ∧ q = th.getD q' 0 ∧ c = c'
  | _, _ => False
def heapLe (heap : List Ob) (th : List Nat) : List Ob → List Nat → Prop
  | [], [] => True
  | x :: xs, p :: ps => obLe th (obAt heap p) x ∧ heapLe heap th xs ps
  | _, _ => False
/-- What stands for σ stands for σ', whose place number i is σ's place number th[i]. -/
structure Le (m : Nat) (th : List Nat) (σ σ' : St) : Prop where
  nodup : th.Nodup
  old : th.take m = List.range m
  env : envLe σ.env th σ'.env
  heap : heapLe σ.heap th σ'.heap th
  dec : σ'.dec = []
theorem envLe_look {env : List (Nat × D)} {th : List Nat} : ∀ {env' : List (Nat × D)}, envLe env th env' → ∀ t d, look env' t = some d → look env t = some (renD (th.getD · 0) d) ∧ refsLt th.length d = true
  | [], _, t, d, h => by simp [look] at h
  | (u, e) :: r, hl, t, d, h => by
    simp only [look] at h
    cases hb : Nat.beq u t with
    | true =>
      simp only [hb, cond_true] at h; injection h with h; subst h
      rw [← Nat.eq_of_beq_eq_true hb]; exact ⟨hl.1, hl.2.1⟩
    | false => simp only [hb, cond_false] at h; exact envLe_look hl.2.2 t d h
theorem heapLe_at {heap : List Ob} {th : List Nat} : ∀ {xs : List Ob} {ps : List Nat}, heapLe heap th xs ps → xs.length = ps.length ∧ ∀ (i : Nat) p, ps[i]? = some p → obLe th (obAt heap p) (obAt xs i)
  | [], [], _ => ⟨rfl, fun i p h => by simp at h⟩
  | [], _ :: _, h => h.elim
  | _ :: _, [], h => h.elim
  | x :: xs, q :: ps, h => by
    obtain ⟨h1, h2⟩ := heapLe_at h.2
    refine ⟨by simp [h1], fun i p hp => ?_⟩
    cases i with
    | zero => simp at hp; subst hp; exact h.1
    | succ i => exact h2 i p (by simpa using hp)
theorem obAt_ge : ∀ {l : List Ob} {q : Nat}, l.length ≤ q → obAt l q = .gone
  | [], q, _ => rfl
  | _ :: l, 0, h => by simp at h
  | _ :: l, q + 1, h => by simp at h; exact obAt_ge (l := l) (q := q) h
theorem Con.le {C : Ctx} {th : List Nat} {σ σ' : St} {a : Act} {w : World} (hm : ∀ q, m ≤ q → C.ρ q = .hole) (l : Le m th σ σ') (c : Con T C σ a w) : Con T C σ' a w := by
  obtain ⟨X, ρ, r, s, hh⟩ := c.real
  obtain ⟨hlen, hat⟩ := heapLe_at l.heap
  refine ⟨c.size, c.defers, fun t b h => by rw [l.dec] at h; simp [look] at h, X, slotsBy th ρ, ?_, ?_, ?_⟩
  · refine ⟨r.glob, ?_, fun t d h => ?_, fun p => ?_⟩
    · refine ⟨r.mem.lt, fun p b sz cap h => ?_, fun p q b sz cap sz' cap' h h' => ?_⟩
      · unfold slotsBy at h
        split at h
        · exact r.mem.live _ b sz cap h
        · cases h
      · unfold slotsBy at h h'
        split at h <;> split at h'
        · rename_i _ p1 e1 _ q1 e2
          have := r.mem.inj _ _ b _ _ _ _ h h'
          subst this
          have hp : p < th.length := (List.getElem?_eq_some_iff.1 e1).1
          exact (List.getElem?_inj hp l.nodup).1 (e1.trans e2.symm)
        · cases h'
        · cases h
        · cases h
    · obtain ⟨h1, h2⟩ := envLe_look l.env t d h
      obtain ⟨v, hv, hd⟩ := r.env t _ h1
      exact ⟨v, hv, renD_cell th d h2 hd⟩
    · by_cases hp : p < th.length
      · have e : th[p]? = some th[p] := List.getElem?_eq_getElem hp
        have ho := hat p _ e
        have hr := r.obs th[p]
        have hs : slotsBy th ρ p = ρ th[p] := by simp [slotsBy, e]
        cases hx : obAt σ'.heap p with
        | gone => trivial
        | cap q' c' =>
          rw [hx] at ho
          cases hy : obAt σ.heap th[p] with
          | gone => rw [hy] at ho; exact ho.elim
          | arr sz' rows' => rw [hy] at ho; exact ho.elim
          | cap q c =>
            rw [hy] at ho hr
            obtain ⟨h1, rfl, rfl⟩ := ho
            show slotsBy th ρ q' ≠ .hole ∧ (slotsBy th ρ q' = .null → c = 0) ∧ ∀ b s k, slotsBy th ρ q' = .live b s k → k = c
            rw [slotsBy_lt h1]
            exact hr
        | arr sz rows =>
          rw [hx] at ho
          cases hy : obAt σ.heap th[p] with
          | gone => rw [hy] at ho; exact ho.elim
          | cap q c => rw [hy] at ho; exact ho.elim
          | arr sz' rows' =>
            rw [hy] at ho hr
            obtain ⟨rfl, rfl, hall⟩ := ho
            obtain ⟨h0, h1, h2, h3⟩ := hr
            have hlenr : ∀ {r : List D}, (renDs (th.getD · 0) r).length = r.length := by
              intro r; induction r with
              | nil => rfl
              | cons d ds ih => simp only [renDs, List.length_cons, ih]
            have hone : ∀ {d : D}, (renD (th.getD · 0) d).one = d.one := by intro d; cases d <;> rfl
            have hones : ∀ {r : List D}, (renDs (th.getD · 0) r).all D.one = r.all D.one := by
              intro r; induction r with
              | nil => rfl
              | cons d ds ih => simp only [renDs, List.all_cons, hone, ih]
            have hrows : ∀ {rows : List (List D)} {vs : List Value}, rows.all (refsLts th.length) = true → DRows X ρ w (rows.map (renDs (th.getD · 0))) vs → DRows X (slotsBy th ρ) w rows vs := by
              intro rows
              induction rows with
              | nil => intro vs _ _; trivial
              | cons r rs ih =>
                intro vs hal hd
                simp only [List.all_cons, Bool.and_eq_true] at hal
                refine ⟨(renDs_cell th r hal.1 hd.1).1, ?_⟩
                have := ih hal.2 hd.2
                rwa [hlenr] at this
            refine ⟨h0, fun r hr => ?_, by simpa using h2, ?_⟩
            · have := h1 _ (List.mem_map.2 ⟨r, hr, rfl⟩)
              rwa [hlenr, hones] at this
            · rw [hs]
              cases hq : ρ th[p] with
              | live b s' cap =>
                simp only [hq] at h3 ⊢
                obtain ⟨e1, e2, e3, cs, t, fr, hh', hcs, hf, hrr⟩ := h3
                exact ⟨e1, by simpa using e2, e3, cs, t, fr, hh', hcs, hf, hrows hall hrr⟩
              | null => simp only [hq] at h3 ⊢; simpa using h3
              | hole => simp only [hq] at h3
              | dead => simp only [hq] at h3
      · rw [obAt_ge (by omega)]; trivial
  · refine ⟨s.os, s.tape, s.output, s.size, s.block, fun p => ?_, fun p h => absurd trivial h, s.xin, s.xout, fun p b sz cap h => ?_, ?_⟩
    · by_cases hp : p < m
      · have e : th[p]? = some p := by
          have := congrArg (fun l => l[p]?) l.old
          simp only [List.getElem?_take, if_pos hp, List.getElem?_range hp] at this
          exact this
        simp only [slotsBy, e]
        exact s.slots p
      · exact .inl (hm p (by omega))
    · unfold slotsBy at h
      split at h
      · exact s.src _ b sz cap h
      · cases h
    · refine ⟨r.mem.lt, fun p b sz cap h => ?_, fun p q b sz cap sz' cap' h h' => ?_⟩
      · unfold slotsBy at h
        split at h
        · exact r.mem.live _ b sz cap h
        · cases h
      · unfold slotsBy at h h'
        split at h <;> split at h'
        · rename_i _ p1 e1 _ q1 e2
          have := r.mem.inj _ _ b _ _ _ _ h h'
          subst this
          have hp : p < th.length := (List.getElem?_eq_some_iff.1 e1).1
          exact (List.getElem?_inj hp l.nodup).1 (e1.trans e2.symm)
        · cases h'
        · cases h
        · cases h
  · intro q hq
    have : th.length ≤ q := by omega
    simp [slotsBy, List.getElem?_eq_none this]
theorem WpD.le {th : List Nat} {x : Code} {σ' : St} (l : Le m th σ σ') (h : WpD T m N x σ' Q) : WpD T m N x σ Q := fun C hN hm a w c => h C hN hm a w (c.le hm l)
/-- Where ways meet again. -/
theorem WpD.cut {ι : Type} (S : ι → St) (p : ι → Prop) {x y : Code} (h : WpD T m N x σ (thenQ (fun σ' => ∃ k th, p k ∧ Le m th σ' (S k)) Q)) (h2 : ∀ k, p k → WpD T m N y (S k) Q) : WpD T m N (.seq x y) σ Q :=
  WpD.seq (h.mono fun e σ' q => by
    cases e with
    | normal => obtain ⟨k, th, hp, hl⟩ := q; exact WpD.le hl (h2 k hp)
    | _ => exact q)
theorem WpD.loop {ι : Type} (S : ι → St) (p : ι → Prop) (μ : ι → Nat) {c : Code} (h0 : ∃ k th, p k ∧ Le m th σ (S k))
    (round : ∀ k, p k → WpD T m N c (S k) (thenQ (fun σ' => ∃ k' th, p k' ∧ Le m th σ' (S k') ∧ μ k' < μ k) Q)) : WpD T m N (.loop c) σ Q := by
  intro C hN hm a w k0
  obtain ⟨k1, th1, hp1, hl1⟩ := h0
  have k1c := k0.le hm hl1
  have key : ∀ n k, μ k = n → p k → ∀ a w, Con T C (S k) a w → ∀ (b : Frame) (kk : List Item) (cs : List Frame),
      ∃ e a' w', (∃ σ', Con T C σ' a' w' ∧ Q e σ') ∧ Arrives P (lone (b.at a (.code c :: .inLoop c :: kk)) cs w) b kk cs e a' w' := by
    intro n
    induction n using Nat.strongRecOn with
    | _ n ih =>
      intro k hn hp a w con b kk cs
      obtain ⟨e, a₁, w₁, ⟨σ', c', hq⟩, harr⟩ := round k hp C hN hm a w con b (.inLoop c :: kk) cs
      cases e with
      | normal =>
        obtain ⟨k', th, hp', hl, hlt⟩ := hq
        obtain ⟨e₂, a₂, w₂, hq₂, harr₂⟩ := ih (μ k') (hn ▸ hlt) k' rfl hp' a₁ w₁ (c'.le hm hl) b kk cs
        exact ⟨e₂, a₂, w₂, hq₂, .of_steps (Steps.trans harr (.one step_inLoop)) harr₂⟩
      | exit id => exact ⟨_, a₁, w₁, ⟨σ', c', hq⟩, .pass (x := .inLoop c) rfl (fun _ _ => .inl (by simp)) harr⟩
      | goto l => exact ⟨_, a₁, w₁, ⟨σ', c', hq⟩, .pass (x := .inLoop c) rfl (fun _ _ => .inl (by simp)) harr⟩
      | ret => exact ⟨_, a₁, w₁, ⟨σ', c', hq⟩, .pass (x := .inLoop c) rfl (fun _ _ => .inl (by simp)) harr⟩
      | panic ch => exact ⟨_, a₁, w₁, ⟨σ', c', hq⟩, .pass (x := .inLoop c) rfl (fun _ _ => .inl (by simp)) harr⟩
      | outgrown => exact ⟨_, a₁, w₁, ⟨σ', c', hq⟩, .pass (x := .inLoop c) rfl (fun _ _ => .inl (by simp)) harr⟩
  intro b kk cs
  obtain ⟨e, a', w', hq, harr⟩ := key _ k1 rfl hp1 a w k1c b kk cs
  exact ⟨e, a', w', hq, .of_steps (.one step_loop) harr⟩
end
attribute [irreducible] WpD CallOp
end Go.DL
