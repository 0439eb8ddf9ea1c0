/- DL, part 9: contracts of functions: how they are proved and how they are used. Own work; no condition. -/
import Derived.Test.YtdadnjhfennenaaDl8
set_option linter.unusedVariables false
set_option linter.unusedSimpArgs false
namespace Go.DL
open Go.RowKit

section
variable {P : Program} {T : Tab P}

/-- A function called with closed data returns closed data and leaves what was there as it was. -/
def IsFn (P : Program) (f : FuncId) : Prop := ∃ fn, P.funcs[f]? = some fn ∧ fn.body.isSome = true ∧ (fn.name == "runtime.NumGoroutine") = false
def CallV (T : Tab P) (f : FuncId) (args : List V) (Q : V → Prop) : Prop :=
  IsFn P f ∧ ∀ (X : Nat → Prop) (w : World) (vs : List Value), (∀ b, X b → b < w.heap.size) → (∀ g cs, T.glob g = some cs → VCell X w (.iptr cs) (.pointer (some ⟨g, 0, none⟩))) → VCells X w args vs → vs.length = args.length →
    Calls P f vs.toArray w fun e w' => ∃ r v, e = .returned v ∧ Q r ∧ VCell X w' r v ∧ Below w.heap.size w w'
theorem CallV.mono {f : FuncId} {args : List V} {Q Q' : V → Prop} (h : CallV T f args Q) (hq : ∀ r, Q r → Q' r) : CallV T f args Q' := ⟨h.1, fun X w vs hX hg hv hl =>
  (h.2 X w vs hX hg hv hl).mono fun e w' ⟨r, v, he, q, hc, hb⟩ => ⟨r, v, he, hq r q, hc, hb⟩⟩
/-- A function called with objects of the caller's (places 0, 1, ..): what it returns and what they hold then. -/
def CallD (T : Tab P) (f : FuncId) (args : List D) (L : List Ob) (Q : D → List Ob → Prop) : Prop :=
  IsFn P f ∧ ∀ (X : Nat → Prop) (ρ : Nat → Slot) (w : World) (vs : List Value), Mem X ρ w → (∀ g cs, T.glob g = some cs → VCell X w (.iptr cs) (.pointer (some ⟨g, 0, none⟩))) → DCells X ρ w args vs → vs.length = args.length →
    (∀ p, ObOK X ρ w p (obAt L p)) → (∀ p, L.length ≤ p → ρ p = .hole) →
    Calls P f vs.toArray w fun e w' => ∃ v d L' X' ρ', e = .returned v ∧ Q d L' ∧ Step (fun _ => True) X ρ w X' ρ' w' ∧ DCell X' ρ' w' d v ∧ (∀ p, ObOK X' ρ' w' p (obAt L' p)) ∧ (∀ p, L'.length ≤ p → ρ' p = .hole)

/-! ##### reading a D as closed data through the objects -/
mutual
def DV (H : Nat → Ob) : D → V → Prop
  | .v x, y => x = y
  | .arr p o n, .sl sz z xs => z = false ∧ ∃ rows, H p = .arr sz rows ∧ (rows.drop o).take n = xs.map (fun r => r.map .v) ∧ xs.length = n
  | .ptr p i j, .iptr cs => ∃ sz rows row, H p = .arr sz rows ∧ rows[i]? = some row ∧ row.drop j = cs.map .v
  | .agg ds, .agg cs => DVs H ds cs
  | .tup ds, .tup cs => DVs H ds cs
  | .fn f ds, .fn g cs => f = g ∧ DVs H ds cs
  | _, _ => False
def DVs (H : Nat → Ob) : List D → List V → Prop
  | [], [] => True
  | d :: ds, x :: xs => DV H d x ∧ DVs H ds xs
  | _, _ => False
end
theorem DCells.toV {X : Nat → Prop} {ρ : Nat → Slot} {w : World} : ∀ {cs : List V} {vs : List Value}, DCells X ρ w (cs.map .v) vs → VCells X w cs vs
  | [], _, _ => trivial
  | _ :: _, [], h => h.elim
  | c :: cs, v :: vs, h => ⟨h.1, DCells.toV h.2⟩
theorem DRows.toV {X : Nat → Prop} {ρ : Nat → Slot} {w : World} : ∀ {xs : List (List V)} {vs : List Value}, DRows X ρ w (xs.map fun r => r.map .v) vs → VRows X w xs vs
  | [], _, _ => trivial
  | r :: rs, vs, h => ⟨DCells.toV h.1, by
      have := DRows.toV h.2
      simpa using this⟩
theorem all_d {r : List V} (h : (r.map D.v).all D.one = true) : r.all V.one = true := by
  rw [List.all_eq_true] at h ⊢
  exact fun x hx => h _ (List.mem_map.2 ⟨x, hx, rfl⟩)
mutual
/-- Y: what is barred to the reading; the objects lie outside of it. -/
theorem DV_cell {X Y : Nat → Prop} {ρ : Nat → Slot} {w : World} {H : Nat → Ob} (hob : ∀ p, ObOK X ρ w p (H p)) (hY : ∀ b, Y b → X b) (hl : ∀ p b sz cap, ρ p = .live b sz cap → ¬ Y b) : ∀ (d : D) (x : V) (u : Value), DV H d x → DCell X ρ w d u → VCell Y w x u
  | .v y, x, u, h, c => by
    unfold DV at h; subst h
    exact VCell.keep ⟨fun b _ hX hYb => hX (hY b hYb), fun b _ _ => rfl⟩ _ _ c
  | .arr p o n, .sl sz z xs, u, h, c => by
    unfold DV at h
    obtain ⟨rfl, rows, hp, hx, hn⟩ := h
    have ho := hob p
    rw [hp] at ho
    obtain ⟨h0, hr, hm, ho⟩ := ho
    have hone : ∀ r ∈ xs, r.length = sz ∧ r.all V.one = true := by
      intro r hr'
      have : r.map D.v ∈ (rows.drop o).take n := by rw [hx]; exact List.mem_map.2 ⟨r, hr', rfl⟩
      have := hr _ (List.mem_of_mem_drop (List.mem_of_mem_take this))
      exact ⟨by simpa using this.1, all_d this.2⟩
    have hlen : xs.length ≤ rows.length := by
      have := congrArg List.length hx
      simp at this; omega
    unfold DCell at c
    cases hq : ρ p with
    | hole => simp only [hq] at c
    | dead => simp only [hq] at ho
    | null =>
      simp only [hq] at c ho
      obtain ⟨⟨A, rfl⟩, rfl, rfl⟩ := c
      have : xs = [] := List.length_eq_zero_iff.1 hn
      subst this
      exact ⟨h0, by simp, by simp, (fun h => by cases h), A, 0, rfl, by simp, by simp, fun h => absurd rfl h⟩
    | live b s cap =>
      simp only [hq] at c ho
      obtain ⟨rfl, h2, h3, cs, t, fr, hh, hcs, hf, hrr⟩ := ho
      obtain ⟨h4, h5, h6⟩ := c
      by_cases hc : o < cap
      · refine ⟨h0, hone, by omega, (fun h => by cases h), some ⟨b, o * s, none⟩, cap - o, by rw [h5 hc, hn], by omega, by omega, fun _ => ⟨b, o * s, cs, t, fr, rfl, hl p b s cap hq, hh, ?_⟩⟩
        have := DRows.take n (DRows.drop o (fun r hr' => (hr r hr').1) hrr)
        rw [hx] at this
        exact VRows.keep ⟨fun b _ hX hYb => hX (hY b hYb), fun b _ _ => rfl⟩ _ _ (DRows.toV this)
      · obtain ⟨A, hA⟩ := h6 (by omega)
        have hn0 : n = 0 := by omega
        have : xs = [] := List.length_eq_zero_iff.1 (by omega)
        subst this
        exact ⟨h0, by simp, by simp, (fun h => by cases h), some A, 0, by rw [hA]; rfl, by simp, by simp, fun h => absurd rfl h⟩
  | .ptr p i j, .iptr cs, u, h, c => by
    unfold DV at h
    obtain ⟨sz, rows, row, hp, hi, hrow⟩ := h
    have ho := hob p
    rw [hp] at ho
    obtain ⟨h0, hr, hm, ho⟩ := ho
    unfold DCell at c
    cases hq : ρ p with
    | hole => simp only [hq] at c
    | dead => simp only [hq] at ho
    | null => simp only [hq] at c
    | live b s cap =>
      simp only [hq] at c ho
      obtain ⟨rfl, h2, h3, arr, t, fr, hh, hcs, hf, hrr⟩ := ho
      refine ⟨b, i * s + j, arr, t, fr, c, hl p b s cap hq, hh, ?_⟩
      have := DCells.drop j (DRows.get (fun r hr' => (hr r hr').1) hrr hi)
      rw [hrow, List.drop_drop] at this
      exact VCells.keep ⟨fun b _ hX hYb => hX (hY b hYb), fun b _ _ => rfl⟩ _ _ (DCells.toV this)
  | .agg ds, .agg cs, u, h, c => by
    unfold DV at h
    obtain ⟨vs, hv, hlen, hc⟩ := c
    obtain ⟨h1, h2⟩ := DVs_cell hob hY hl ds cs vs h hc
    exact ⟨vs, hv, hlen.trans h2, h1⟩
  | .tup ds, .tup cs, u, h, c => by
    unfold DV at h
    obtain ⟨vs, hv, hlen, hc⟩ := c
    obtain ⟨h1, h2⟩ := DVs_cell hob hY hl ds cs vs h hc
    exact ⟨vs, hv, hlen.trans h2, h1⟩
  | .fn f ds, .fn g cs, u, h, c => by
    unfold DV at h
    obtain ⟨rfl, h⟩ := h
    obtain ⟨vs, hv, hlen, hc⟩ := c
    obtain ⟨h1, h2⟩ := DVs_cell hob hY hl ds cs vs h hc
    exact ⟨vs, hv, hlen.trans h2, h1⟩
theorem DVs_cell {X Y : Nat → Prop} {ρ : Nat → Slot} {w : World} {H : Nat → Ob} (hob : ∀ p, ObOK X ρ w p (H p)) (hY : ∀ b, Y b → X b) (hl : ∀ p b sz cap, ρ p = .live b sz cap → ¬ Y b) : ∀ (ds : List D) (xs : List V) (us : List Value), DVs H ds xs → DCells X ρ w ds us → VCells Y w xs us ∧ ds.length = xs.length
  | [], [], us, _, _ => ⟨trivial, rfl⟩
  | [], _ :: _, us, h, _ => by unfold DVs at h; exact h.elim
  | _ :: _, [], us, h, _ => by unfold DVs at h; exact h.elim
  | d :: ds, x :: xs, [], _, c => c.elim
  | d :: ds, x :: xs, u :: us, h, c => by
    unfold DVs at h
    obtain ⟨h1, h2⟩ := DVs_cell hob hY hl ds xs us h.2 c.2
    exact ⟨⟨DV_cell hob hY hl d x u h.1 c.1, h1⟩, by simp [h2]⟩
end

theorem DVs_of_toVs {H : Nat → Ob} : ∀ {ds : List D} {xs : List V}, (∀ d ∈ ds, ∀ x, d.toV = some x → DV H d x) → D.toVs ds = some xs → DVs H ds xs
  | [], xs, _, h => by simp [D.toVs] at h; subst h; exact trivial
  | d :: ds, xs, hd, h => by
    simp only [D.toVs] at h
    split at h
    · rename_i x ys hx hy
      injection h with h; subst h
      exact ⟨hd d List.mem_cons_self x hx, DVs_of_toVs (fun e he => hd e (List.mem_cons_of_mem _ he)) hy⟩
    · cases h
theorem DV_toV {H : Nat → Ob} : ∀ {d : D} {x : V}, d.toV = some x → DV H d x
  | .any, x, h => by simp [D.toV] at h
  | .v y, x, h => by simp [D.toV] at h; exact h
  | .arr .., x, h => by simp [D.toV] at h
  | .ptr .., x, h => by simp [D.toV] at h
  | .agg ds, x, h => by
    simp [D.toV] at h
    obtain ⟨xs, hx, rfl⟩ := h
    exact DVs_of_toVs (fun e he x hx => DV_toV hx) hx
  | .tup ds, x, h => by
    simp [D.toV] at h
    obtain ⟨xs, hx, rfl⟩ := h
    exact DVs_of_toVs (fun e he x hx => DV_toV hx) hx
  | .fn f ds, x, h => by
    simp [D.toV] at h
    obtain ⟨xs, hx, rfl⟩ := h
    exact ⟨rfl, DVs_of_toVs (fun e he x hx => DV_toV hx) hx⟩

/-! ##### entering a function -/
def argEnv : Nat → List D → List (Nat × D)
  | _, [] => []
  | i, d :: ds => (i, d) :: argEnv (i + 1) ds
theorem argEnv_look {X : Nat → Prop} {ρ : Nat → Slot} {w : World} : ∀ {ds : List D} {vs : List Value} (i : Nat), DCells X ρ w ds vs → ∀ t d, look (argEnv i ds) t = some d → i ≤ t ∧ ∃ v, vs[t - i]? = some v ∧ DCell X ρ w d v
  | [], vs, i, _, t, d, h => by simp [argEnv, look] at h
  | _ :: _, [], i, h, _, _, _ => h.elim
  | e :: ds, v :: vs, i, hc, t, d, h => by
    simp only [argEnv, look] at h
    cases hb : Nat.beq i t with
    | true =>
      simp only [hb, cond_true] at h; injection h with h; subst h
      have := Nat.eq_of_beq_eq_true hb; subst this
      exact ⟨Nat.le_refl _, v, by simp, hc.1⟩
    | false =>
      simp only [hb, cond_false] at h
      obtain ⟨h1, u, h2, h3⟩ := argEnv_look (i + 1) hc.2 t d h
      refine ⟨by omega, u, ?_, h3⟩
      rw [show t - i = (t - (i + 1)) + 1 from by omega]
      exact h2
/-- The results, as the function's variables tell them. -/
def resK (T : Tab P) (σ : St) : List ResultVar → (List D → Prop) → Prop
  | [], K => K []
  | .tmp t :: r, K => match look σ.env t with | some d => resK T σ r fun ds => K (d :: ds) | none => False
  | .cell a t :: r, K => derefK (obAt σ.heap) (look σ.env a) fun cs => partK T t 0 cs fun d => resK T σ r fun ds => K (d :: ds)
def resD : List D → D
  | [d] => d
  | ds => .tup ds
/-- The end of a body: a state at which the results satisfy Q. -/
def retQ (T : Tab P) (fn : Func) (Q : D → List Ob → Prop) : Exit → St → Prop
  | .normal, σ | .ret, σ => resK T σ fn.results.toList fun ds => Q (resD ds) σ.heap
  | _, _ => False
def resF (tmps : Array Value) : ResultVar → Sem Value
  | .tmp t => pure (tmps.getD t undef)
  | .cell a t => do loadVar t (← asAddr (tmps.getD a undef))
theorem resK_run {σ : St} {a : Act} {w : World} {X : Nat → Prop} {ρ : Nat → Slot} (r : Real T.glob X ρ w (look σ.env) (obAt σ.heap) a.tmps) : ∀ {l : List ResultVar} {J : List D → Prop}, resK T σ l J →
    ∃ ds vs, J ds ∧ (l.mapM (resF a.tmps)).run P w = .ok vs w ∧ DCells X ρ w ds vs ∧ vs.length = ds.length
  | [], J, h => ⟨[], [], h, by simp, trivial, rfl⟩
  | .tmp t :: l, J, h => by
    simp only [resK] at h
    cases ht : look σ.env t with
    | none => rw [ht] at h; exact h.elim
    | some d =>
      rw [ht] at h
      obtain ⟨ds, vs, hJ, hrun, hc, hl⟩ := resK_run r h
      obtain ⟨v, hv, hd⟩ := r.env t d ht
      refine ⟨d :: ds, v :: vs, hJ, ?_, ⟨hd, hc⟩, by simp [hl]⟩
      rw [List.mapM_cons]
      have h1 : (resF a.tmps (.tmp t)).run P w = .ok v w := by simp [resF, hv]
      simp only [Sem.run_bind, h1, hrun, Result.andThen_ok, Sem.run_pure]
  | .cell c t :: l, J, h => by
    simp only [resK] at h
    cases ht : look σ.env c with
    | none => rw [ht] at h; exact h.elim
    | some dx =>
      rw [ht] at h
      obtain ⟨v, hv, hd⟩ := r.env c dx ht
      obtain ⟨cs, b, off, arr, e, fr, h, rfl, hh, hcs⟩ := derefK_at h r rfl hd
      obtain ⟨d, h, u, hu, hdu⟩ := load_part hh hcs h
      obtain ⟨ds, vs, hJ, hrun, hc', hl⟩ := resK_run r h
      refine ⟨d :: ds, u :: vs, hJ, ?_, ⟨hdu, hc'⟩, by simp [hl]⟩
      rw [List.mapM_cons]
      have hv' : a.tmps.getD c undef = .pointer (some ⟨b, off, none⟩) := by simp [hv]
      have h1 : (resF a.tmps (.cell c t)).run P w = .ok u w := by
        simp only [resF, Sem.run_bind, hv', asAddr, Sem.run_pure, Result.andThen_ok, hu]
      simp only [Sem.run_bind, h1, hrun, Result.andThen_ok, Sem.run_pure]
theorem results_run {fn : Func} {σ : St} {a : Act} {w : World} {X : Nat → Prop} {ρ : Nat → Slot} (r : Real T.glob X ρ w (look σ.env) (obAt σ.heap) a.tmps) {J : D → Prop} (h : resK T σ fn.results.toList fun ds => J (resD ds)) :
    ∃ d v, J d ∧ (results fn a.tmps).run P w = .ok v w ∧ DCell X ρ w d v := by
  obtain ⟨ds, vs, hJ, hrun, hc, hl⟩ := resK_run r h
  refine ⟨resD ds, if h : vs.toArray.size = 1 then vs.toArray[0] else .tuple vs.toArray, hJ, ?_, ?_⟩
  · show (do let vs ← fn.results.mapM (resF a.tmps); pure (if h : vs.size = 1 then vs[0] else .tuple vs) : Sem Value).run P w = _
    rw [Sem.run_bind, Array.mapM_eq_mapM_toList, Sem.run_map, hrun]
    rfl
  · cases ds with
    | nil =>
      have : vs = [] := List.length_eq_zero_iff.1 hl
      subst this
      exact ⟨[], rfl, rfl, trivial⟩
    | cons d ds =>
      cases vs with
      | nil => simp at hl
      | cons u us =>
        cases ds with
        | nil =>
          have : us = [] := List.length_eq_zero_iff.1 (by simpa using hl)
          subst this
          exact hc.1
        | cons d2 ds =>
          cases us with
          | nil => simp at hl
          | cons u2 us => exact ⟨u :: u2 :: us, by simp, hl, hc⟩

theorem Real.entry {X : Nat → Prop} {ρ : Nat → Slot} {w : World} {args : List D} {vs : List Value} {L : List Ob} {n : Nat} (hm : Mem X ρ w) (hg : ∀ g cs, T.glob g = some cs → VCell X w (.iptr cs) (.pointer (some ⟨g, 0, none⟩))) (hc : DCells X ρ w args vs)
    (hL : ∀ p, ObOK X ρ w p (obAt L p)) : Real T.glob X ρ w (look (argEnv 0 args)) (obAt L) (vs.toArray ++ Array.replicate n undef) := by
  refine ⟨hg, hm, fun t d h => ?_, hL⟩
  obtain ⟨_, v, hv, hd⟩ := argEnv_look 0 hc t d h
  refine ⟨v, ?_, hd⟩
  have hlt : t < vs.length := (List.getElem?_eq_some_iff.1 (by simpa using hv)).1
  rw [Array.getElem?_append_left (by simpa using hlt)]
  simpa using hv
theorem callD_of {f : FuncId} {fn : Func} {code : Code} {args : List D} {L : List Ob} {Q : D → List Ob → Prop} (hf : P.funcs[f]? = some fn) (hb : fn.body = some code) (hn : args.length ≤ fn.ntmps) (hname : (fn.name == "runtime.NumGoroutine") = false)
    (h : WpD T L.length fn.ntmps code ⟨argEnv 0 args, L, []⟩ (retQ T fn Q)) : CallD T f args L Q := by
  refine ⟨⟨fn, hf, by rw [hb]; rfl, hname⟩, ?_⟩
  unfold WpD at h
  intro X ρ w vs hm hg hc hl hL hh
  refine calls_of_wp hf hb ?_
  refine wp_mono (h ⟨X, ρ, w, fn.ntmps, hm⟩ rfl hh _ w ⟨by simp [hl]; omega, rfl, fun t b h => by simp [look] at h, X, ρ, Real.entry hm hg hc hL, Step.refl hm, hh⟩) ?_
  rintro e a' w' ⟨σ', c', q⟩
  have fin : (resK T σ' fn.results.toList fun ds => Q (resD ds) σ'.heap) → bodyPost P fn (fun e w' => ∃ v d L' X' ρ', e = .returned v ∧ Q d L' ∧ Step (fun _ => True) X ρ w X' ρ' w' ∧ DCell X' ρ' w' d v ∧ (∀ p, ObOK X' ρ' w' p (obAt L' p)) ∧ (∀ p, L'.length ≤ p → ρ' p = .hole)) .normal a' w' := by
    intro q
    obtain ⟨X', ρ', r, s, hh'⟩ := c'.real
    obtain ⟨d, v, hJ, hrun, hd⟩ := results_run (J := fun d => Q d σ'.heap) r q
    exact ⟨c'.defers, v, hrun, v, d, σ'.heap, X', ρ', rfl, hJ, s, hd, r.obs, hh'⟩
  cases e with
  | normal => exact fin q
  | ret => exact fin q
  | _ => exact q.elim
theorem callV_of_callD {f : FuncId} {args : List V} {Q : V → Prop} (h : CallD T f (args.map .v) [] fun d L => ∃ r, DV (obAt L) d r ∧ Q r) : CallV T f args Q := by
  refine ⟨h.1, ?_⟩
  intro X w vs hX hg hc hl
  have hm : Mem X (fun _ => .hole) w := ⟨hX, (fun p b sz cap h => by cases h), (fun p q b sz cap sz' cap' h => by cases h)⟩
  refine (h.2 X (fun _ => .hole) w vs hm hg (VCells.toD hc) (by simpa using hl) (fun p => trivial) (fun _ _ => rfl)).mono ?_
  rintro e w' ⟨v, d, L', X', ρ', he, ⟨r, hdv, q⟩, s, hd, hob, hh⟩
  have hin : ∀ b, X b → X' b := fun b hb => by
    rcases s.xin b hb with h | ⟨p, sz, cap, _, h⟩
    · exact h
    · cases h
  refine ⟨r, v, he, q, DV_cell hob hin (fun p b sz cap hp hXb => ?_) d r v hdv hd, ⟨s.os, s.tape, s.output, s.size, fun b hb => s.block b hb fun p sz cap _ h => by cases h⟩⟩
  rcases s.src p b sz cap hp with ⟨q', s', c', h⟩ | h
  · cases h
  · have := hX b hXb; omega
theorem callV_of {f : FuncId} {fn : Func} {code : Code} {args : List V} {Q : V → Prop} (hf : P.funcs[f]? = some fn) (hb : fn.body = some code) (hn : args.length ≤ fn.ntmps) (hname : (fn.name == "runtime.NumGoroutine") = false)
    (h : WpD T 0 fn.ntmps code ⟨argEnv 0 (args.map .v), [], []⟩ (retQ T fn fun d L => ∃ r, DV (obAt L) d r ∧ Q r)) : CallV T f args Q :=
  callV_of_callD (callD_of hf hb (by simpa using hn) hname h)

/-! ##### calling a function -/
def evL (T : Tab P) (E : Nat → Option D) : List Operand → List Nat → Option (List D)
  | [], _ => some []
  | x :: xs, ts => match ev T E (ts.headD 0) x, evL T E xs ts.tail with
    | some d, some ds => some (d :: ds)
    | _, _ => none
theorem evL_cells {E : Nat → Option D} {H : Nat → Ob} {X : Nat → Prop} {ρ : Nat → Slot} {w : World} {a : Act} (r : Real T.glob X ρ w E H a.tmps) : ∀ {l : List Operand} {ts : List Nat} {ds : List D}, evL T E l ts = some ds → DCells X ρ w ds (l.map a.eval) ∧ (l.map a.eval).length = ds.length
  | [], ts, ds, h => by simp [evL] at h; subst h; exact ⟨trivial, rfl⟩
  | x :: xs, ts, ds, h => by
    simp only [evL] at h
    split at h
    · rename_i d es hd hes
      injection h with h; subst h
      obtain ⟨h1, h2⟩ := evL_cells r hes
      exact ⟨⟨ev_cell r hd, h1⟩, by simpa using h2⟩
    · cases h
/-- What is called: a function with what it has captured. -/
def callee : Option D → Option (FuncId × List D)
  | some (.v (.fn f cs)) => some (f, cs.map .v)
  | some (.fn f ds) => some (f, ds)
  | _ => none
theorem callee_val {X : Nat → Prop} {ρ : Nat → Slot} {w : World} {x : D} {f : FuncId} {caps : List D} (h : callee (some x) = some (f, caps)) {v : Value} (hv : DCell X ρ w x v) : ∃ vs : List Value, v = .func (.func f) #[] vs.toArray ∧ DCells X ρ w caps vs ∧ vs.length = caps.length := by
  unfold callee at h
  split at h
  · rename_i g cs heq
    injection heq with heq; subst heq
    injection h with h; injection h with h1 h2; subst h1 h2
    obtain ⟨vs, hv, hl, hc⟩ := hv
    exact ⟨vs, hv, VCells.toD hc, by simpa using hl⟩
  · rename_i g ds heq
    injection heq with heq; subst heq
    injection h with h; injection h with h1 h2; subst h1 h2
    obtain ⟨vs, hv, hl, hc⟩ := hv
    exact ⟨vs, hv, hc, hl⟩
  · cases h
/-- The operation runs into the function. -/
theorem run_enter {o : Oper} {c : Call} {x : Operand} {f : FuncId} {fn : Func} {a : Act} {w : World} {vs : List Value} (ho : o.op = .call c) (hc : c.callee = .value x) (hv : a.eval x = .func (.func f) #[] vs.toArray) (hf : P.funcs[f]? = some fn) (hb : fn.body.isSome = true) (hn : (fn.name == "runtime.NumGoroutine") = false) :
    (execOp a.eval o).run P w = .ok (.enter f (c.args.toList.map a.eval ++ vs).toArray) w := by
  have hb' : fn.body.isNone = false := by cases h : fn.body <;> simp_all
  simp only [execOp, ho, resolve, hc, hv, Deferred.ofValue, Sem.run_bind, Sem.run_pure, Result.andThen_ok, invoke, callFunc]
  have hn' : fn.name ≠ "runtime.NumGoroutine" := by simpa using hn
  have hb2 : fn.body ≠ none := by intro e; rw [e] at hb; simp at hb
  simp [program, Sem.run, hf, hb', hn', hb2]
theorem below_step {X : Nat → Prop} {ρ : Nat → Slot} {w w' : World} (m : Mem X ρ w) (b : Below w.heap.size w w') : Step (fun p => p ∈ ([] : List (Nat × Ob)).map (·.1)) X ρ w X ρ w' :=
  ⟨b.os, b.tape, b.output, b.size, fun k hk _ => b.block k hk, Slots.refl _, fun _ _ => rfl, fun _ h => .inl h, fun _ h => .inl h, fun p b sz cap h => .inl ⟨p, sz, cap, h⟩, ⟨fun k hk => Nat.lt_of_lt_of_le (m.lt k hk) b.size, m.live, m.inj⟩⟩
section
variable {o : Oper} {E : Nat → Option D} {H : Nat → Ob} {nx : Nat} {K : KT} {c : Call} {x : Operand} {f : FuncId} {ds caps : List D} {vargs : List V} {Q : V → Prop}
/-- A call with closed data. -/
theorem call_pure_does (hC : CallV T f vargs Q) (ho : o.op = .call c) (hc : c.callee = .value x) (hx : callee (ev T E 0 x) = some (f, caps)) (hargs : evL T E c.args.toList c.argTypes.toList = some ds) (hv : D.toVs (ds ++ caps) = some vargs) : Does T o E H [] (fun d ups => ups = [] ∧ ∃ r, d = .v r ∧ Q r) := by
  intro X ρ w a Q' K' r _ hK'
  obtain ⟨⟨fn, hf, hb, hn⟩, hC⟩ := hC
  cases hx' : ev T E 0 x with
  | none => rw [hx'] at hx; simp [callee] at hx
  | some dx =>
    rw [hx'] at hx
    obtain ⟨us, hv1, hc1, hl1⟩ := callee_val hx (ev_cell r hx')
    obtain ⟨hc2, hl2⟩ := evL_cells r hargs
    have happ : DCells X ρ w (ds ++ caps) (c.args.toList.map a.eval ++ us) := DCells.append (DCells.more hc2) (by rw [← hl2, List.drop_left]; exact hc1)
    obtain ⟨h1, h2⟩ := D.toVs_cell _ hv happ
    unfold Oper.wp
    rw [run_enter ho hc hv1 hf hb hn]
    refine (hC X w _ r.mem.lt r.glob h1 (by rw [← h2]; simp [hl2, hl1])).mono ?_
    rintro e w' ⟨q, v, rfl, hq, hcell, hbel⟩
    exact hK' (.v q) [] v w' X ρ ⟨rfl, q, rfl, hq⟩ (below_step r.mem hbel) hcell (by simp)
theorem call_pure (hC : CallV T f vargs Q) (ho : o.op = .call c) (hc : c.callee = .value x) (hx : callee (ev T E 0 x) = some (f, caps)) (hargs : evL T E c.args.toList c.argTypes.toList = some ds) (hv : D.toVs (ds ++ caps) = some vargs)
    (hK : ∀ r, Q r → K (.v r) [] []) : CallOp T o E H nx K := by
  unfold CallOp
  exact ⟨[], fun d ups => ups = [] ∧ ∃ r, d = .v r ∧ Q r, by simp, call_pure_does hC ho hc hx hargs hv, fun d ups ⟨h1, r, h2, q⟩ => by subst h1 h2; exact hK r q⟩
mutual
/-- Data without references. -/
def V.flat : V → Bool
  | .int .. | .bool _ | .str _ | .raw _ => true
  | .agg cs | .tup cs => V.flats cs
  | _ => false
def V.flats : List V → Bool
  | [] => true
  | x :: xs => x.flat && V.flats xs
end
mutual
theorem V.flat_cell {X X' : Nat → Prop} {w w' : World} : ∀ (x : V) {u : Value}, x.flat = true → VCell X w x u → VCell X' w' x u
  | .int .., u, _, h => h
  | .bool _, u, _, h => h
  | .str _, u, _, h => h
  | .raw _, u, _, h => h
  | .agg cs, u, hf, h => by obtain ⟨vs, hv, hl, hc⟩ := h; exact ⟨vs, hv, hl, V.flats_cell cs hf hc⟩
  | .tup cs, u, hf, h => by obtain ⟨vs, hv, hl, hc⟩ := h; exact ⟨vs, hv, hl, V.flats_cell cs hf hc⟩
  | .sl .., u, hf, _ => by simp [V.flat] at hf
  | .iptr _, u, hf, _ => by simp [V.flat] at hf
  | .fn .., u, hf, _ => by simp [V.flat] at hf
theorem V.flats_cell {X X' : Nat → Prop} {w w' : World} : ∀ (xs : List V) {us : List Value}, V.flats xs = true → VCells X w xs us → VCells X' w' xs us
  | [], us, _, _ => trivial
  | _ :: _, [], _, h => h.elim
  | x :: xs, u :: us, hf, h => by
    simp only [V.flats, Bool.and_eq_true] at hf
    exact ⟨V.flat_cell x hf.1 h.1, V.flats_cell xs hf.2 h.2⟩
end
/-- A call that only reads the objects, and whose result has no references. -/
theorem call_read_does (hC : CallV T f vargs Q) (ho : o.op = .call c) (hc : c.callee = .value x) (hx : callee (ev T E 0 x) = some (f, caps)) (hargs : evL T E c.args.toList c.argTypes.toList = some ds) (hv : DVs H (ds ++ caps) vargs)
    (hflat : ∀ r, Q r → r.flat = true) : Does T o E H [] (fun d ups => ups = [] ∧ ∃ r, d = .v r ∧ Q r) := by
  intro X ρ w a Q' K' r _ hK'
  obtain ⟨⟨fn, hf, hb, hn⟩, hC⟩ := hC
  cases hx' : ev T E 0 x with
  | none => rw [hx'] at hx; simp [callee] at hx
  | some dx =>
    rw [hx'] at hx
    obtain ⟨us, hv1, hc1, hl1⟩ := callee_val hx (ev_cell r hx')
    obtain ⟨hc2, hl2⟩ := evL_cells r hargs
    have happ : DCells X ρ w (ds ++ caps) (c.args.toList.map a.eval ++ us) := DCells.append (DCells.more hc2) (by rw [← hl2, List.drop_left]; exact hc1)
    obtain ⟨h1, h2⟩ := DVs_cell (Y := fun _ => False) r.obs (fun _ h => h.elim) (fun _ _ _ _ _ h => h) _ _ _ hv happ
    unfold Oper.wp
    rw [run_enter ho hc hv1 hf hb hn]
    refine (hC (fun _ => False) w _ (fun _ h => h.elim) (fun g cs h => VCell.keep ⟨fun _ _ _ h => h, fun _ _ _ => rfl⟩ _ _ (r.glob g cs h)) h1 (by rw [← h2]; simp [hl2, hl1])).mono ?_
    rintro e w' ⟨q, v, rfl, hq, hcell, hbel⟩
    exact hK' (.v q) [] v w' X ρ ⟨rfl, q, rfl, hq⟩ (below_step r.mem hbel) (V.flat_cell q (hflat q hq) hcell) (by simp)
theorem call_read (hC : CallV T f vargs Q) (ho : o.op = .call c) (hc : c.callee = .value x) (hx : callee (ev T E 0 x) = some (f, caps)) (hargs : evL T E c.args.toList c.argTypes.toList = some ds) (hv : DVs H (ds ++ caps) vargs)
    (hflat : ∀ r, Q r → r.flat = true) (hK : ∀ r, Q r → K (.v r) [] []) : CallOp T o E H nx K := by
  unfold CallOp
  exact ⟨[], fun d ups => ups = [] ∧ ∃ r, d = .v r ∧ Q r, by simp, call_read_does hC ho hc hx hargs hv hflat, fun d ups ⟨h1, r, h2, q⟩ => by subst h1 h2; exact hK r q⟩
end
end
attribute [irreducible] CallV CallD
end Go.DL
