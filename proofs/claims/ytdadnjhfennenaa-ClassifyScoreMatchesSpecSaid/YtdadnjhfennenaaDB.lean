/- Merged: Dl9, Dl10, Dl11, B0, Dl12, Dl13, Dl14, Dl15, Dl16, Dl17. Own work; no condition. -/
import Derived.Test.YtdadnjhfennenaaDA
import Derived.Lib.Bytealg
import Derived.Lib.Overlaps
import Derived.Laws.Cover3
import Derived.ChangeSlices
import Derived.SizedLaws
/- DL, part 9: contracts of functions: how they are proved and how they are used. Own work; no condition. -/
set_option linter.unusedVariables false
set_option linter.unusedSimpArgs false
namespace Go.DL
open Go.RowKit

section
variable {P : Program} {T : Tab P}

/-- A function called with closed data returns closed data and leaves what was there as it was. -/
def IsFn (P : Program) (f : FuncId) : Prop := ∃ fn, P.funcs[f]? = some fn ∧ fn.body.isSome = true ∧ (fn.name == "runtime.NumGoroutine") = false
def CallV (T : Tab P) (f : FuncId) (args : List V) (Q : V → Prop) : Prop :=
  IsFn P f ∧ ∀ (X : Nat → Prop) (w : World) (vs : List Value), (∀ b, X b → b < w.heap.size) → (∀ g cs, T.glob g = some cs → VCell X w (.iptr cs) (.pointer (some ⟨g, 0, none⟩))) → VCells X w args vs → vs.length = args.length →
    Calls P f vs.toArray w fun e w' => ∃ r v, e = .returned v ∧ Q r ∧ VCell X w' r v ∧ Below w.heap.size w w'
theorem CallV.mono {f : FuncId} {args : List V} {Q Q' : V → Prop} (h : CallV T f args Q) (hq : ∀ r, Q r → Q' r) : CallV T f args Q' := ⟨h.1, fun X w vs hX hg hv hl =>
  (h.2 X w vs hX hg hv hl).mono fun e w' ⟨r, v, he, q, hc, hb⟩ => ⟨r, v, he, hq r q, hc, hb⟩⟩
/-- A function called with objects of the caller's (places 0, 1, ..): what it returns and what they hold then. -/
def CallD (T : Tab P) (f : FuncId) (args : List D) (L : List Ob) (Q : D → List Ob → Prop) : Prop :=
  IsFn P f ∧ ∀ (X : Nat → Prop) (ρ : Nat → Slot) (w : World) (vs : List Value), Mem X ρ w → (∀ g cs, T.glob g = some cs → VCell X w (.iptr cs) (.pointer (some ⟨g, 0, none⟩))) → DCells X ρ w args vs → vs.length = args.length →
    (∀ p, ObOK X ρ w p (obAt L p)) → (∀ p, L.length ≤ p → ρ p = .hole) →
    Calls P f vs.toArray w fun e w' => ∃ v d L' X' ρ', e = .returned v ∧ Q d L' ∧ Step (fun _ => True) X ρ w X' ρ' w' ∧ DCell X' ρ' w' d v ∧ (∀ p, ObOK X' ρ' w' p (obAt L' p)) ∧ (∀ p, L'.length ≤ p → ρ' p = .hole)

/-! ##### reading a D as closed data through the objects -/
mutual
def DV (H : Nat → Ob) : D → V → Prop
  | .v x, y => x = y
  | .arr p o n, .sl sz z xs => z = false ∧ ∃ rows, H p = .arr sz rows ∧ (rows.drop o).take n = xs.map (fun r => r.map .v) ∧ xs.length = n
  | .ptr p i j, .iptr cs => ∃ sz rows row, H p = .arr sz rows ∧ rows[i]? = some row ∧ row.drop j = cs.map .v
  | .agg ds, .agg cs => DVs H ds cs
  | .tup ds, .tup cs => DVs H ds cs
  | .fn f ds, .fn g cs => f = g ∧ DVs H ds cs
  | _, _ => False
def DVs (H : Nat → Ob) : List D → List V → Prop
  | [], [] => True
  | d :: ds, x :: xs => DV H d x ∧ DVs H ds xs
  | _, _ => False
end
theorem DCells.toV {X : Nat → Prop} {ρ : Nat → Slot} {w : World} : ∀ {cs : List V} {vs : List Value}, DCells X ρ w (cs.map .v) vs → VCells X w cs vs
  | [], _, _ => trivial
  | _ :: _, [], h => h.elim
  | c :: cs, v :: vs, h => ⟨h.1, DCells.toV h.2⟩
theorem DRows.toV {X : Nat → Prop} {ρ : Nat → Slot} {w : World} : ∀ {xs : List (List V)} {vs : List Value}, DRows X ρ w (xs.map fun r => r.map .v) vs → VRows X w xs vs
  | [], _, _ => trivial
  | r :: rs, vs, h => ⟨DCells.toV h.1, by
      have := DRows.toV h.2
      simpa using this⟩
theorem all_d {r : List V} (h : (r.map D.v).all D.one = true) : r.all V.one = true := by
  rw [List.all_eq_true] at h ⊢
  exact fun x hx => h _ (List.mem_map.2 ⟨x, hx, rfl⟩)
mutual
/-- Y: what is barred to the reading; the objects lie outside of it. -/
theorem DV_cell {X Y : Nat → Prop} {ρ : Nat → Slot} {w : World} {H : Nat → Ob} (hob : ∀ p, ObOK X ρ w p (H p)) (hY : ∀ b, Y b → X b) (hl : ∀ p b sz cap, ρ p = .live b sz cap → ¬ Y b) : ∀ (d : D) (x : V) (u : Value), DV H d x → DCell X ρ w d u → VCell Y w x u
  | .v y, x, u, h, c => by
    unfold DV at h; subst h
    exact VCell.keep ⟨fun b _ hX hYb => hX (hY b hYb), fun b _ _ => rfl⟩ _ _ c
  | .arr p o n, .sl sz z xs, u, h, c => by
    unfold DV at h
    obtain ⟨rfl, rows, hp, hx, hn⟩ := h
    have ho := hob p
    rw [hp] at ho
    obtain ⟨h0, hr, hm, ho⟩ := ho
    have hone : ∀ r ∈ xs, r.length = sz ∧ r.all V.one = true := by
      intro r hr'
      have : r.map D.v ∈ (rows.drop o).take n := by rw [hx]; exact List.mem_map.2 ⟨r, hr', rfl⟩
      have := hr _ (List.mem_of_mem_drop (List.mem_of_mem_take this))
      exact ⟨by simpa using this.1, all_d this.2⟩
    have hlen : xs.length ≤ rows.length := by
      have := congrArg List.length hx
      simp at this; omega
    unfold DCell at c
    cases hq : ρ p with
    | hole => simp only [hq] at c
    | dead => simp only [hq] at ho
    | null =>
      simp only [hq] at c ho
      obtain ⟨⟨A, rfl⟩, rfl, rfl⟩ := c
      have : xs = [] := List.length_eq_zero_iff.1 hn
      subst this
      exact ⟨h0, by simp, by simp, (fun h => by cases h), A, 0, rfl, by simp, by simp, fun h => absurd rfl h⟩
    | live b s cap =>
      simp only [hq] at c ho
      obtain ⟨rfl, h2, h3, cs, t, fr, hh, hcs, hf, hrr⟩ := ho
      obtain ⟨h4, h5, h6⟩ := c
      by_cases hc : o < cap
      · refine ⟨h0, hone, by omega, (fun h => by cases h), some ⟨b, o * s, none⟩, cap - o, by rw [h5 hc, hn], by omega, by omega, fun _ => ⟨b, o * s, cs, t, fr, rfl, hl p b s cap hq, hh, ?_⟩⟩
        have := DRows.take n (DRows.drop o (fun r hr' => (hr r hr').1) hrr)
        rw [hx] at this
        exact VRows.keep ⟨fun b _ hX hYb => hX (hY b hYb), fun b _ _ => rfl⟩ _ _ (DRows.toV this)
      · obtain ⟨A, hA⟩ := h6 (by omega)
        have hn0 : n = 0 := by omega
        have : xs = [] := List.length_eq_zero_iff.1 (by omega)
        subst this
        exact ⟨h0, by simp, by simp, (fun h => by cases h), some A, 0, by rw [hA]; rfl, by simp, by simp, fun h => absurd rfl h⟩
  | .ptr p i j, .iptr cs, u, h, c => by
    unfold DV at h
    obtain ⟨sz, rows, row, hp, hi, hrow⟩ := h
    have ho := hob p
    rw [hp] at ho
    obtain ⟨h0, hr, hm, ho⟩ := ho
    unfold DCell at c
    cases hq : ρ p with
    | hole => simp only [hq] at c
    | dead => simp only [hq] at ho
    | null => simp only [hq] at c
    | live b s cap =>
      simp only [hq] at c ho
      obtain ⟨rfl, h2, h3, arr, t, fr, hh, hcs, hf, hrr⟩ := ho
      refine ⟨b, i * s + j, arr, t, fr, c, hl p b s cap hq, hh, ?_⟩
      have := DCells.drop j (DRows.get (fun r hr' => (hr r hr').1) hrr hi)
      rw [hrow, List.drop_drop] at this
      exact VCells.keep ⟨fun b _ hX hYb => hX (hY b hYb), fun b _ _ => rfl⟩ _ _ (DCells.toV this)
  | .agg ds, .agg cs, u, h, c => by
    unfold DV at h
    obtain ⟨vs, hv, hlen, hc⟩ := c
    obtain ⟨h1, h2⟩ := DVs_cell hob hY hl ds cs vs h hc
    exact ⟨vs, hv, hlen.trans h2, h1⟩
  | .tup ds, .tup cs, u, h, c => by
    unfold DV at h
    obtain ⟨vs, hv, hlen, hc⟩ := c
    obtain ⟨h1, h2⟩ := DVs_cell hob hY hl ds cs vs h hc
    exact ⟨vs, hv, hlen.trans h2, h1⟩
  | .fn f ds, .fn g cs, u, h, c => by
    unfold DV at h
    obtain ⟨rfl, h⟩ := h
    obtain ⟨vs, hv, hlen, hc⟩ := c
    obtain ⟨h1, h2⟩ := DVs_cell hob hY hl ds cs vs h hc
    exact ⟨vs, hv, hlen.trans h2, h1⟩
theorem DVs_cell {X Y : Nat → Prop} {ρ : Nat → Slot} {w : World} {H : Nat → Ob} (hob : ∀ p, ObOK X ρ w p (H p)) (hY : ∀ b, Y b → X b) (hl : ∀ p b sz cap, ρ p = .live b sz cap → ¬ Y b) : ∀ (ds : List D) (xs : List V) (us : List Value), DVs H ds xs → DCells X ρ w ds us → VCells Y w xs us ∧ ds.length = xs.length
  | [], [], us, _, _ => ⟨trivial, rfl⟩
  | [], _ :: _, us, h, _ => by unfold DVs at h; exact h.elim
  | _ :: _, [], us, h, _ => by unfold DVs at h; exact h.elim
  | d :: ds, x :: xs, [], _, c => c.elim
  | d :: ds, x :: xs, u :: us, h, c => by
    unfold DVs at h
    obtain ⟨h1, h2⟩ := DVs_cell hob hY hl ds xs us h.2 c.2
    exact ⟨⟨DV_cell hob hY hl d x u h.1 c.1, h1⟩, by simp [h2]⟩
end

theorem DVs_of_toVs {H : Nat → Ob} : ∀ {ds : List D} {xs : List V}, (∀ d ∈ ds, ∀ x, d.toV = some x → DV H d x) → D.toVs ds = some xs → DVs H ds xs
  | [], xs, _, h => by simp [D.toVs] at h; subst h; exact trivial
  | d :: ds, xs, hd, h => by
    simp only [D.toVs] at h
    split at h
    · rename_i x ys hx hy
      injection h with h; subst h
      exact ⟨hd d List.mem_cons_self x hx, DVs_of_toVs (fun e he => hd e (List.mem_cons_of_mem _ he)) hy⟩
    · cases h
theorem DV_toV {H : Nat → Ob} : ∀ {d : D} {x : V}, d.toV = some x → DV H d x
  | .any, x, h => by simp [D.toV] at h
  | .v y, x, h => by simp [D.toV] at h; exact h
  | .arr .., x, h => by simp [D.toV] at h
  | .ptr .., x, h => by simp [D.toV] at h
  | .agg ds, x, h => by
    simp [D.toV] at h
    obtain ⟨xs, hx, rfl⟩ := h
    exact DVs_of_toVs (fun e he x hx => DV_toV hx) hx
  | .tup ds, x, h => by
    simp [D.toV] at h
    obtain ⟨xs, hx, rfl⟩ := h
    exact DVs_of_toVs (fun e he x hx => DV_toV hx) hx
  | .fn f ds, x, h => by
    simp [D.toV] at h
    obtain ⟨xs, hx, rfl⟩ := h
    exact ⟨rfl, DVs_of_toVs (fun e he x hx => DV_toV hx) hx⟩

/-! ##### entering a function -/
def argEnv : Nat → List D → List (Nat × D)
  | _, [] => []
  | i, d :: ds => (i, d) :: argEnv (i + 1) ds
theorem argEnv_look {X : Nat → Prop} {ρ : Nat → Slot} {w : World} : ∀ {ds : List D} {vs : List Value} (i : Nat), DCells X ρ w ds vs → ∀ t d, look (argEnv i ds) t = some d → i ≤ t ∧ ∃ v, vs[t - i]? = some v ∧ DCell X ρ w d v
  | [], vs, i, _, t, d, h => by simp [argEnv, look] at h
  | _ :: _, [], i, h, _, _, _ => h.elim
  | e :: ds, v :: vs, i, hc, t, d, h => by
    simp only [argEnv, look] at h
    cases hb : Nat.beq i t with
    | true =>
      simp only [hb, cond_true] at h; injection h with h; subst h
      have := Nat.eq_of_beq_eq_true hb; subst this
      exact ⟨Nat.le_refl _, v, by simp, hc.1⟩
    | false =>
      simp only [hb, cond_false] at h
      obtain ⟨h1, u, h2, h3⟩ := argEnv_look (i + 1) hc.2 t d h
      refine ⟨by omega, u, ?_, h3⟩
      rw [show t - i = (t - (i + 1)) + 1 from by omega]
      exact h2
/-- The results, as the function's variables tell them. -/
def resK (T : Tab P) (σ : St) : List ResultVar → (List D → Prop) → Prop
  | [], K => K []
  | .tmp t :: r, K => match look σ.env t with | some d => resK T σ r fun ds => K (d :: ds) | none => False
  | .cell a t :: r, K => derefK (obAt σ.heap) (look σ.env a) fun cs => partK T t 0 cs fun d => resK T σ r fun ds => K (d :: ds)
def resD : List D → D
  | [d] => d
  | ds => .tup ds
/-- The end of a body: a state at which the results satisfy Q. -/
def retQ (T : Tab P) (fn : Func) (Q : D → List Ob → Prop) : Exit → St → Prop
  | .normal, σ | .ret, σ => resK T σ fn.results.toList fun ds => Q (resD ds) σ.heap
  | _, _ => False
def resF (tmps : Array Value) : ResultVar → Sem Value
  | .tmp t => pure (tmps.getD t undef)
  | .cell a t => do loadVar t (← asAddr (tmps.getD a undef))
theorem resK_run {σ : St} {a : Act} {w : World} {X : Nat → Prop} {ρ : Nat → Slot} (r : Real T.glob X ρ w (look σ.env) (obAt σ.heap) a.tmps) : ∀ {l : List ResultVar} {J : List D → Prop}, resK T σ l J →
    ∃ ds vs, J ds ∧ (l.mapM (resF a.tmps)).run P w = .ok vs w ∧ DCells X ρ w ds vs ∧ vs.length = ds.length
  | [], J, h => ⟨[], [], h, by simp, trivial, rfl⟩
  | .tmp t :: l, J, h => by
    simp only [resK] at h
    cases ht : look σ.env t with
    | none => rw [ht] at h; exact h.elim
    | some d =>
      rw [ht] at h
      obtain ⟨ds, vs, hJ, hrun, hc, hl⟩ := resK_run r h
      obtain ⟨v, hv, hd⟩ := r.env t d ht
      refine ⟨d :: ds, v :: vs, hJ, ?_, ⟨hd, hc⟩, by simp [hl]⟩
      rw [List.mapM_cons]
      have h1 : (resF a.tmps (.tmp t)).run P w = .ok v w := by simp [resF, hv]
      simp only [Sem.run_bind, h1, hrun, Result.andThen_ok, Sem.run_pure]
  | .cell c t :: l, J, h => by
    simp only [resK] at h
    cases ht : look σ.env c with
    | none => rw [ht] at h; exact h.elim
    | some dx =>
      rw [ht] at h
      obtain ⟨v, hv, hd⟩ := r.env c dx ht
      obtain ⟨cs, b, off, arr, e, fr, h, rfl, hh, hcs⟩ := derefK_at h r rfl hd
      obtain ⟨d, h, u, hu, hdu⟩ := load_part hh hcs h
      obtain ⟨ds, vs, hJ, hrun, hc', hl⟩ := resK_run r h
      refine ⟨d :: ds, u :: vs, hJ, ?_, ⟨hdu, hc'⟩, by simp [hl]⟩
      rw [List.mapM_cons]
      have hv' : a.tmps.getD c undef = .pointer (some ⟨b, off, none⟩) := by simp [hv]
      have h1 : (resF a.tmps (.cell c t)).run P w = .ok u w := by
        simp only [resF, Sem.run_bind, hv', asAddr, Sem.run_pure, Result.andThen_ok, hu]
      simp only [Sem.run_bind, h1, hrun, Result.andThen_ok, Sem.run_pure]
theorem results_run {fn : Func} {σ : St} {a : Act} {w : World} {X : Nat → Prop} {ρ : Nat → Slot} (r : Real T.glob X ρ w (look σ.env) (obAt σ.heap) a.tmps) {J : D → Prop} (h : resK T σ fn.results.toList fun ds => J (resD ds)) :
    ∃ d v, J d ∧ (results fn a.tmps).run P w = .ok v w ∧ DCell X ρ w d v := by
  obtain ⟨ds, vs, hJ, hrun, hc, hl⟩ := resK_run r h
  refine ⟨resD ds, if h : vs.toArray.size = 1 then vs.toArray[0] else .tuple vs.toArray, hJ, ?_, ?_⟩
  · show (do let vs ← fn.results.mapM (resF a.tmps); pure (if h : vs.size = 1 then vs[0] else .tuple vs) : Sem Value).run P w = _
    rw [Sem.run_bind, Array.mapM_eq_mapM_toList, Sem.run_map, hrun]
    rfl
  · cases ds with
    | nil =>
      have : vs = [] := List.length_eq_zero_iff.1 hl
      subst this
      exact ⟨[], rfl, rfl, trivial⟩
    | cons d ds =>
      cases vs with
      | nil => simp at hl
      | cons u us =>
        cases ds with
        | nil =>
          have : us = [] := List.length_eq_zero_iff.1 (by simpa using hl)
          subst this
          exact hc.1
        | cons d2 ds =>
          cases us with
          | nil => simp at hl
          | cons u2 us => exact ⟨u :: u2 :: us, by simp, hl, hc⟩

theorem Real.entry {X : Nat → Prop} {ρ : Nat → Slot} {w : World} {args : List D} {vs : List Value} {L : List Ob} {n : Nat} (hm : Mem X ρ w) (hg : ∀ g cs, T.glob g = some cs → VCell X w (.iptr cs) (.pointer (some ⟨g, 0, none⟩))) (hc : DCells X ρ w args vs)
    (hL : ∀ p, ObOK X ρ w p (obAt L p)) : Real T.glob X ρ w (look (argEnv 0 args)) (obAt L) (vs.toArray ++ Array.replicate n undef) := by
  refine ⟨hg, hm, fun t d h => ?_, hL⟩
  obtain ⟨_, v, hv, hd⟩ := argEnv_look 0 hc t d h
  refine ⟨v, ?_, hd⟩
  have hlt : t < vs.length := (List.getElem?_eq_some_iff.1 (by simpa using hv)).1
  rw [Array.getElem?_append_left (by simpa using hlt)]
  simpa using hv
theorem callD_of {f : FuncId} {fn : Func} {code : Code} {args : List D} {L : List Ob} {Q : D → List Ob → Prop} (hf : P.funcs[f]? = some fn) (hb : fn.body = some code) (hn : args.length ≤ fn.ntmps) (hname : (fn.name == "runtime.NumGoroutine") = false)
    (h : WpD T L.length fn.ntmps code ⟨argEnv 0 args, L, []⟩ (retQ T fn Q)) : CallD T f args L Q := by
  refine ⟨⟨fn, hf, by rw [hb]; rfl, hname⟩, ?_⟩
  unfold WpD at h
  intro X ρ w vs hm hg hc hl hL hh
  refine calls_of_wp hf hb ?_
  refine wp_mono (h ⟨X, ρ, w, fn.ntmps, hm⟩ rfl hh _ w ⟨by simp [hl]; omega, rfl, fun t b h => by simp [look] at h, X, ρ, Real.entry hm hg hc hL, Step.refl hm, hh⟩) ?_
  rintro e a' w' ⟨σ', c', q⟩
  have fin : (resK T σ' fn.results.toList fun ds => Q (resD ds) σ'.heap) → bodyPost P fn (fun e w' => ∃ v d L' X' ρ', e = .returned v ∧ Q d L' ∧ Step (fun _ => True) X ρ w X' ρ' w' ∧ DCell X' ρ' w' d v ∧ (∀ p, ObOK X' ρ' w' p (obAt L' p)) ∧ (∀ p, L'.length ≤ p → ρ' p = .hole)) .normal a' w' := by
    intro q
    obtain ⟨X', ρ', r, s, hh'⟩ := c'.real
    obtain ⟨d, v, hJ, hrun, hd⟩ := results_run (J := fun d => Q d σ'.heap) r q
    exact ⟨c'.defers, v, hrun, v, d, σ'.heap, X', ρ', rfl, hJ, s, hd, r.obs, hh'⟩
  cases e with
  | normal => exact fin q
  | ret => exact fin q
  | _ => exact q.elim
theorem callV_of_callD {f : FuncId} {args : List V} {Q : V → Prop} (h : CallD T f (args.map .v) [] fun d L => ∃ r, DV (obAt L) d r ∧ Q r) : CallV T f args Q := by
  refine ⟨h.1, ?_⟩
  intro X w vs hX hg hc hl
  have hm : Mem X (fun _ => .hole) w := ⟨hX, (fun p b sz cap h => by cases h), (fun p q b sz cap sz' cap' h => by cases h)⟩
  refine (h.2 X (fun _ => .hole) w vs hm hg (VCells.toD hc) (by simpa using hl) (fun p => trivial) (fun _ _ => rfl)).mono ?_
  rintro e w' ⟨v, d, L', X', ρ', he, ⟨r, hdv, q⟩, s, hd, hob, hh⟩
  have hin : ∀ b, X b → X' b := fun b hb => by
    rcases s.xin b hb with h | ⟨p, sz, cap, _, h⟩
    · exact h
    · cases h
  refine ⟨r, v, he, q, DV_cell hob hin (fun p b sz cap hp hXb => ?_) d r v hdv hd, ⟨s.os, s.tape, s.output, s.size, fun b hb => s.block b hb fun p sz cap _ h => by cases h⟩⟩
  rcases s.src p b sz cap hp with ⟨q', s', c', h⟩ | h
  · cases h
  · have := hX b hXb; omega
theorem callV_of {f : FuncId} {fn : Func} {code : Code} {args : List V} {Q : V → Prop} (hf : P.funcs[f]? = some fn) (hb : fn.body = some code) (hn : args.length ≤ fn.ntmps) (hname : (fn.name == "runtime.NumGoroutine") = false)
    (h : WpD T 0 fn.ntmps code ⟨argEnv 0 (args.map .v), [], []⟩ (retQ T fn fun d L => ∃ r, DV (obAt L) d r ∧ Q r)) : CallV T f args Q :=
  callV_of_callD (callD_of hf hb (by simpa using hn) hname h)

/-! ##### calling a function -/
def evL (T : Tab P) (E : Nat → Option D) : List Operand → List Nat → Option (List D)
  | [], _ => some []
  | x :: xs, ts => match ev T E (ts.headD 0) x, evL T E xs ts.tail with
    | some d, some ds => some (d :: ds)
    | _, _ => none
theorem evL_cells {E : Nat → Option D} {H : Nat → Ob} {X : Nat → Prop} {ρ : Nat → Slot} {w : World} {a : Act} (r : Real T.glob X ρ w E H a.tmps) : ∀ {l : List Operand} {ts : List Nat} {ds : List D}, evL T E l ts = some ds → DCells X ρ w ds (l.map a.eval) ∧ (l.map a.eval).length = ds.length
  | [], ts, ds, h => by simp [evL] at h; subst h; exact ⟨trivial, rfl⟩
  | x :: xs, ts, ds, h => by
    simp only [evL] at h
    split at h
    · rename_i d es hd hes
      injection h with h; subst h
      obtain ⟨h1, h2⟩ := evL_cells r hes
      exact ⟨⟨ev_cell r hd, h1⟩, by simpa using h2⟩
    · cases h
/-- What is called: a function with what it has captured. -/
def callee : Option D → Option (FuncId × List D)
  | some (.v (.fn f cs)) => some (f, cs.map .v)
  | some (.fn f ds) => some (f, ds)
  | _ => none
theorem callee_val {X : Nat → Prop} {ρ : Nat → Slot} {w : World} {x : D} {f : FuncId} {caps : List D} (h : callee (some x) = some (f, caps)) {v : Value} (hv : DCell X ρ w x v) : ∃ vs : List Value, v = .func (.func f) #[] vs.toArray ∧ DCells X ρ w caps vs ∧ vs.length = caps.length := by
  unfold callee at h
  split at h
  · rename_i g cs heq
    injection heq with heq; subst heq
    injection h with h; injection h with h1 h2; subst h1 h2
    obtain ⟨vs, hv, hl, hc⟩ := hv
    exact ⟨vs, hv, VCells.toD hc, by simpa using hl⟩
  · rename_i g ds heq
    injection heq with heq; subst heq
    injection h with h; injection h with h1 h2; subst h1 h2
    obtain ⟨vs, hv, hl, hc⟩ := hv
    exact ⟨vs, hv, hc, hl⟩
  · cases h
/-- The operation runs into the function. -/
theorem run_enter {o : Oper} {c : Call} {x : Operand} {f : FuncId} {fn : Func} {a : Act} {w : World} {vs : List Value} (ho : o.op = .call c) (hc : c.callee = .value x) (hv : a.eval x = .func (.func f) #[] vs.toArray) (hf : P.funcs[f]? = some fn) (hb : fn.body.isSome = true) (hn : (fn.name == "runtime.NumGoroutine") = false) :
    (execOp a.eval o).run P w = .ok (.enter f (c.args.toList.map a.eval ++ vs).toArray) w := by
  have hb' : fn.body.isNone = false := by cases h : fn.body <;> simp_all
  simp only [execOp, ho, resolve, hc, hv, Deferred.ofValue, Sem.run_bind, Sem.run_pure, Result.andThen_ok, invoke, callFunc]
  have hn' : fn.name ≠ "runtime.NumGoroutine" := by simpa using hn
  have hb2 : fn.body ≠ none := by intro e; rw [e] at hb; simp at hb
  simp [program, Sem.run, hf, hb', hn', hb2]
theorem below_step {X : Nat → Prop} {ρ : Nat → Slot} {w w' : World} (m : Mem X ρ w) (b : Below w.heap.size w w') : Step (fun p => p ∈ ([] : List (Nat × Ob)).map (·.1)) X ρ w X ρ w' :=
  ⟨b.os, b.tape, b.output, b.size, fun k hk _ => b.block k hk, Slots.refl _, fun _ _ => rfl, fun _ h => .inl h, fun _ h => .inl h, fun p b sz cap h => .inl ⟨p, sz, cap, h⟩, ⟨fun k hk => Nat.lt_of_lt_of_le (m.lt k hk) b.size, m.live, m.inj⟩⟩
section
variable {o : Oper} {E : Nat → Option D} {H : Nat → Ob} {nx : Nat} {K : KT} {c : Call} {x : Operand} {f : FuncId} {ds caps : List D} {vargs : List V} {Q : V → Prop}
/-- A call with closed data. -/
theorem call_pure_does (hC : CallV T f vargs Q) (ho : o.op = .call c) (hc : c.callee = .value x) (hx : callee (ev T E 0 x) = some (f, caps)) (hargs : evL T E c.args.toList c.argTypes.toList = some ds) (hv : D.toVs (ds ++ caps) = some vargs) : Does T o E H [] (fun d ups => ups = [] ∧ ∃ r, d = .v r ∧ Q r) := by
  intro X ρ w a Q' K' r _ hK'
  obtain ⟨⟨fn, hf, hb, hn⟩, hC⟩ := hC
  cases hx' : ev T E 0 x with
  | none => rw [hx'] at hx; simp [callee] at hx
  | some dx =>
    rw [hx'] at hx
    obtain ⟨us, hv1, hc1, hl1⟩ := callee_val hx (ev_cell r hx')
    obtain ⟨hc2, hl2⟩ := evL_cells r hargs
    have happ : DCells X ρ w (ds ++ caps) (c.args.toList.map a.eval ++ us) := DCells.append (DCells.more hc2) (by rw [← hl2, List.drop_left]; exact hc1)
    obtain ⟨h1, h2⟩ := D.toVs_cell _ hv happ
    unfold Oper.wp
    rw [run_enter ho hc hv1 hf hb hn]
    refine (hC X w _ r.mem.lt r.glob h1 (by rw [← h2]; simp [hl2, hl1])).mono ?_
    rintro e w' ⟨q, v, rfl, hq, hcell, hbel⟩
    exact hK' (.v q) [] v w' X ρ ⟨rfl, q, rfl, hq⟩ (below_step r.mem hbel) hcell (by simp)
theorem call_pure (hC : CallV T f vargs Q) (ho : o.op = .call c) (hc : c.callee = .value x) (hx : callee (ev T E 0 x) = some (f, caps)) (hargs : evL T E c.args.toList c.argTypes.toList = some ds) (hv : D.toVs (ds ++ caps) = some vargs)
    (hK : ∀ r, Q r → K (.v r) [] []) : CallOp T o E H nx K := by
  unfold CallOp
  exact ⟨[], fun d ups => ups = [] ∧ ∃ r, d = .v r ∧ Q r, by simp, call_pure_does hC ho hc hx hargs hv, fun d ups ⟨h1, r, h2, q⟩ => by subst h1 h2; exact hK r q⟩
mutual
/-- Data without references. -/
def V.flat : V → Bool
  | .int .. | .bool _ | .str _ | .raw _ => true
  | .agg cs | .tup cs => V.flats cs
  | _ => false
def V.flats : List V → Bool
  | [] => true
  | x :: xs => x.flat && V.flats xs
end
mutual
theorem V.flat_cell {X X' : Nat → Prop} {w w' : World} : ∀ (x : V) {u : Value}, x.flat = true → VCell X w x u → VCell X' w' x u
  | .int .., u, _, h => h
  | .bool _, u, _, h => h
  | .str _, u, _, h => h
  | .raw _, u, _, h => h
  | .agg cs, u, hf, h => by obtain ⟨vs, hv, hl, hc⟩ := h; exact ⟨vs, hv, hl, V.flats_cell cs hf hc⟩
  | .tup cs, u, hf, h => by obtain ⟨vs, hv, hl, hc⟩ := h; exact ⟨vs, hv, hl, V.flats_cell cs hf hc⟩
  | .sl .., u, hf, _ => by simp [V.flat] at hf
  | .iptr _, u, hf, _ => by simp [V.flat] at hf
  | .fn .., u, hf, _ => by simp [V.flat] at hf
theorem V.flats_cell {X X' : Nat → Prop} {w w' : World} : ∀ (xs : List V) {us : List Value}, V.flats xs = true → VCells X w xs us → VCells X' w' xs us
  | [], us, _, _ => trivial
  | _ :: _, [], _, h => h.elim
  | x :: xs, u :: us, hf, h => by
    simp only [V.flats, Bool.and_eq_true] at hf
    exact ⟨V.flat_cell x hf.1 h.1, V.flats_cell xs hf.2 h.2⟩
end
/-- A call that only reads the objects, and whose result has no references. -/
theorem call_read_does (hC : CallV T f vargs Q) (ho : o.op = .call c) (hc : c.callee = .value x) (hx : callee (ev T E 0 x) = some (f, caps)) (hargs : evL T E c.args.toList c.argTypes.toList = some ds) (hv : DVs H (ds ++ caps) vargs)
    (hflat : ∀ r, Q r → r.flat = true) : Does T o E H [] (fun d ups => ups = [] ∧ ∃ r, d = .v r ∧ Q r) := by
  intro X ρ w a Q' K' r _ hK'
  obtain ⟨⟨fn, hf, hb, hn⟩, hC⟩ := hC
  cases hx' : ev T E 0 x with
  | none => rw [hx'] at hx; simp [callee] at hx
  | some dx =>
    rw [hx'] at hx
    obtain ⟨us, hv1, hc1, hl1⟩ := callee_val hx (ev_cell r hx')
    obtain ⟨hc2, hl2⟩ := evL_cells r hargs
    have happ : DCells X ρ w (ds ++ caps) (c.args.toList.map a.eval ++ us) := DCells.append (DCells.more hc2) (by rw [← hl2, List.drop_left]; exact hc1)
    obtain ⟨h1, h2⟩ := DVs_cell (Y := fun _ => False) r.obs (fun _ h => h.elim) (fun _ _ _ _ _ h => h) _ _ _ hv happ
    unfold Oper.wp
    rw [run_enter ho hc hv1 hf hb hn]
    refine (hC (fun _ => False) w _ (fun _ h => h.elim) (fun g cs h => VCell.keep ⟨fun _ _ _ h => h, fun _ _ _ => rfl⟩ _ _ (r.glob g cs h)) h1 (by rw [← h2]; simp [hl2, hl1])).mono ?_
    rintro e w' ⟨q, v, rfl, hq, hcell, hbel⟩
    exact hK' (.v q) [] v w' X ρ ⟨rfl, q, rfl, hq⟩ (below_step r.mem hbel) (V.flat_cell q (hflat q hq) hcell) (by simp)
theorem call_read (hC : CallV T f vargs Q) (ho : o.op = .call c) (hc : c.callee = .value x) (hx : callee (ev T E 0 x) = some (f, caps)) (hargs : evL T E c.args.toList c.argTypes.toList = some ds) (hv : DVs H (ds ++ caps) vargs)
    (hflat : ∀ r, Q r → r.flat = true) (hK : ∀ r, Q r → K (.v r) [] []) : CallOp T o E H nx K := by
  unfold CallOp
  exact ⟨[], fun d ups => ups = [] ∧ ∃ r, d = .v r ∧ Q r, by simp, call_read_does hC ho hc hx hargs hv hflat, fun d ups ⟨h1, r, h2, q⟩ => by subst h1 h2; exact hK r q⟩
end
end
attribute [irreducible] CallV CallD
end Go.DL

/- DL, part 10: regions whose order Go leaves open. Own work; no condition. -/
set_option linter.unusedVariables false
set_option linter.unusedSimpArgs false
namespace Go.DL
open Go.RowKit

section
variable {P : Program} {T : Tab P}

/-! ##### what an operation looks at -/
def tmpOf : Operand → List Nat
  | .tmp t => [t]
  | _ => []
def tmpsOf : List Operand → List Nat
  | [] => []
  | x :: r => tmpOf x ++ tmpsOf r
def tmpsOf2 : List (Nat × Operand) → List Nat
  | [] => []
  | (_, x) :: r => tmpOf x ++ tmpsOf2 r
def optT : Option Operand → List Nat
  | some x => tmpOf x
  | none => []
def opRds : Op → List Nat
  | .move x | .assign x | .box _ x | .load _ x | .nilCheck x | .unOp _ _ x | .convert _ _ x | .fieldAddr _ x _ | .field _ x _ | .extract x _ | .range _ x | .next x _ => tmpOf x
  | .pick c a b => tmpOf c ++ (tmpOf a ++ tmpOf b)
  | .build _ ps | .buildSlice _ _ ps => tmpsOf2 ps.toList
  | .store _ a v | .binOp _ _ a v _ | .makeSlice _ a v | .indexAddr _ a v | .index _ a v => tmpOf a ++ tmpOf v
  | .slice _ x l h m => tmpOf x ++ (optT l ++ (optT h ++ optT m))
  | .makeFunc _ _ caps => tmpsOf caps.toList
  | .call c => (match c.callee with | .value f => tmpOf f | _ => []) ++ tmpsOf c.args.toList
  | _ => []
/-- The operands into whose objects an operation looks. -/
def opPos : Op → List Nat
  | .move _ | .assign _ => []
  | op => opRds op
mutual
def posOf : D → List Nat
  | .arr p _ _ => [p]
  | .ptr p _ _ => [p]
  | .agg ds => posOfs ds
  | .tup ds => posOfs ds
  | .fn _ ds => posOfs ds
  | .any => []
  | .v _ => []
def posOfs : List D → List Nat
  | [] => []
  | d :: ds => posOf d ++ posOfs ds
end
def posAt (env : List (Nat × D)) : List Nat → List Nat
  | [] => []
  | t :: ts => (match look env t with | some d => posOf d | none => []) ++ posAt env ts
def isIn (t : Nat) : List Nat → Bool
  | [] => false
  | u :: r => bif Nat.beq u t then true else isIn t r
theorem isIn_iff {t : Nat} : ∀ {l : List Nat}, isIn t l = true ↔ t ∈ l
  | [] => by simp [isIn]
  | u :: r => by
    simp only [isIn, List.mem_cons]
    cases hb : Nat.beq u t with
    | true => simp [Nat.eq_of_beq_eq_true hb]
    | false =>
      have : t ≠ u := fun e => by subst e; rw [Nat.beq_refl] at hb; cases hb
      simp [this, isIn_iff (l := r)]
def onE (rt : List Nat) (E : Nat → Option D) (t : Nat) : Option D := bif isIn t rt then E t else none
def onH (rp : List Nat) (H : Nat → Ob) (p : Nat) : Ob := bif isIn p rp then H p else .gone

structure Rec where
  rt : List Nat
  rp : List Nat
  dst : Option Nat
  wp : List Nat
def optIn : Option Nat → List Nat → Bool
  | some t, l => isIn t l
  | none, _ => false
def optEq : Option Nat → Option Nat → Bool
  | some t, some u => Nat.beq t u
  | _, _ => false
def meet : List Nat → List Nat → Bool
  | [], _ => false
  | x :: xs, l => bif isIn x l then true else meet xs l
def confl (a b : Rec) : Bool := optIn a.dst b.rt || optIn b.dst a.rt || optEq a.dst b.dst || meet a.wp b.rp || meet b.wp a.rp || meet a.wp b.wp
def maskOf (acc : List Nat) : List Edge → Nat
  | [] => 0
  | e :: r => bif Region.binds .any e then (1 <<< e.on) ||| (acc.getD e.on 0 ||| maskOf acc r) else maskOf acc r
def ancs : List Oper → List Nat → List Nat
  | [], acc => acc
  | o :: r, acc => ancs r (acc ++ [maskOf acc o.after.toList])
/-- Is each earlier record that meets this one ahead of it by the edges? -/
def chk1 (mask : Nat) (b : Rec) : Nat → List Rec → Bool
  | _, [] => true
  | i, a :: r => bif confl a b then (bif mask.testBit i then chk1 mask b (i + 1) r else false) else chk1 mask b (i + 1) r
def chkAll : List Rec → List Rec → List Nat → Bool
  | _, [], _ => true
  | done, b :: r, m :: ms => bif chk1 m b 0 done then chkAll (done ++ [b]) r ms else false
  | _, _ :: _, [] => false
def edgesOk : Nat → List Oper → Bool
  | _, [] => true
  | i, o :: r => bif o.after.toList.all (fun e => !Region.binds .any e || Nat.blt e.on i) then edgesOk (i + 1) r else false

/-- A call whose outcome is told. -/
def CallDet (T : Tab P) (o : Oper) (E : Nat → Option D) (H : Nat → Ob) (nx : Nat) (K : KT) : Prop :=
  ∃ d ups nw, (∀ p ∈ nw, nx ≤ p ∧ p ∈ ups.map (·.1)) ∧ Does T o E H nw (Just d ups) ∧ K d ups nw
/-- The new places are among those that are told. -/
def nwIn (nw : List Nat) (ups : List (Nat × Ob)) (K : Prop) : Prop :=
  match nw.all fun p => isIn p (ups.map (·.1)) with | true => K | false => False
/-- A record, written out. -/
def recK (rt rp : List Nat) (dst : Option Nat) (wp : List Nat) (K : Rec → Prop) : Prop :=
  forceL rt fun rt => forceL rp fun rp => forceL wp fun wp => match dst with
    | some t => K ⟨rt, rp, some t, wp⟩
    | none => K ⟨rt, rp, none, wp⟩
theorem recK_eq {rt rp : List Nat} {dst : Option Nat} {wp : List Nat} {K : Rec → Prop} : recK rt rp dst wp K = K ⟨rt, rp, dst, wp⟩ := by
  unfold recK
  simp only [forceL_eq]
  cases dst <;> rfl
def drawExec (T : Tab P) (N : Nat) (o : Oper) (gd : List Nat) (σ : St) (K : St → Rec → Prop) : Prop :=
  match dstB N o.dst, isCall o.op with
  | true, true => lenK σ.heap fun nx => CallDet T o (onE (opRds o.op) (look σ.env)) (onH (posAt σ.env (opPos o.op)) (obAt σ.heap)) nx fun d ups nw => putK σ o.dst d ups fun σ' => recK (gd ++ opRds o.op) (posAt σ.env (opPos o.op)) o.dst (ups.map (·.1)) (K σ')
  | true, false => lenK σ.heap fun nx => opD T (onE (opRds o.op) (look σ.env)) (onH (posAt σ.env (opPos o.op)) (obAt σ.heap)) nx o fun d ups nw => nwIn nw ups (putK σ o.dst d ups fun σ' => recK (gd ++ opRds o.op) (posAt σ.env (opPos o.op)) o.dst (ups.map (·.1)) (K σ'))
  | false, _ => False
def drawGuard (ops : List Oper) (o : Oper) (σ : St) (exec skip : St → List Nat → Prop) : Prop :=
  match o.guard with
  | none => exec σ []
  | some (j, want) => match nthDst ops j with
    | none => False
    | some t => match look σ.dec t with
      | some lit => pickLit want lit (exec σ [t]) (skip σ [t])
      | none => match look σ.env t with
        | some (.v (.bool b)) => Br b (litK t true σ fun σ => pickLit want true (exec σ [t]) (skip σ [t])) (litK t false σ fun σ => pickLit want false (exec σ [t]) (skip σ [t]))
        | some (.v (.raw v)) => rawK v (skip σ [t])
        | _ => False
def drawOps (T : Tab P) (N : Nat) (ops : List Oper) : List Oper → List Rec → St → (List Rec → St → Prop) → Prop
  | [], rs, σ, K => endK σ (K rs)
  | o :: rest, rs, σ, K => drawGuard ops o σ (fun σ gd => drawExec T N o gd σ fun σ r => drawOps T N ops rest (rs ++ [r]) σ K)
      (fun σ gd => match dstB N o.dst with | true => putK σ o.dst (.v (.raw undef)) [] fun σ => drawOps T N ops rest (rs ++ [⟨gd, [], o.dst, []⟩]) σ K | false => False)
def drawNil (rs : List Rec) (σ : St) (K : List Rec → St → Prop) : Prop := endK σ (K rs)
def drawCons (T : Tab P) (N : Nat) (ops : List Oper) (o : Oper) (ih : List Rec → St → (List Rec → St → Prop) → Prop) (rs : List Rec) (σ : St) (K : List Rec → St → Prop) : Prop :=
  drawGuard ops o σ (fun σ gd => drawExec T N o gd σ fun σ r => ih (rs ++ [r]) σ K) (fun σ gd => match dstB N o.dst with | true => putK σ o.dst (.v (.raw undef)) [] fun σ => ih (rs ++ [⟨gd, [], o.dst, []⟩]) σ K | false => False)
noncomputable def drawR (T : Tab P) (N : Nat) (ops l : List Oper) : List Rec → St → (List Rec → St → Prop) → Prop :=
  List.rec (motive := fun _ => List Rec → St → (List Rec → St → Prop) → Prop) drawNil (fun o _ ih => drawCons T N ops o ih) l
theorem drawR_eq {N : Nat} {ops : List Oper} : ∀ (l : List Oper) (rs : List Rec) (σ : St) (K : List Rec → St → Prop), drawR T N ops l rs σ K = drawOps T N ops l rs σ K
  | [], rs, σ, K => rfl
  | o :: rest, rs, σ, K => by
    show drawCons T N ops o (drawR T N ops rest) rs σ K = _
    simp only [drawCons, drawOps, drawR_eq rest]
/-! The test of the whole region, told so that the kernel works it out step by step. -/
def forceB {α : Type} : List α → (List α → Bool) → Bool
  | [], K => K []
  | x :: xs, K => forceB xs fun ys => K (x :: ys)
theorem forceB_eq {α : Type} : ∀ (l : List α) (K : List α → Bool), forceB l K = K l
  | [], K => rfl
  | x :: xs, K => by simp only [forceB, forceB_eq xs]
def forceN (n : Nat) (K : Nat → Bool) : Bool := match n with
  | 0 => K 0
  | m + 1 => K (m + 1)
theorem forceN_eq (n : Nat) (K : Nat → Bool) : forceN n K = K n := by cases n <;> rfl
def ancsK : List Oper → List Nat → (List Nat → Bool) → Bool
  | [], acc, K => K acc
  | o :: r, acc, K => forceN (maskOf acc o.after.toList) fun m => forceB (acc ++ [m]) fun acc => ancsK r acc K
theorem ancsK_eq : ∀ (l : List Oper) (acc : List Nat) (K : List Nat → Bool), ancsK l acc K = K (ancs l acc)
  | [], acc, K => rfl
  | o :: r, acc, K => by simp only [ancsK, forceN_eq, forceB_eq, ancs, ancsK_eq r]
def chkAllK : List Rec → List Rec → List Nat → Bool
  | _, [], _ => true
  | done, b :: r, m :: ms => bif chk1 m b 0 done then forceB (done ++ [b]) fun done => chkAllK done r ms else false
  | _, _ :: _, [] => false
theorem chkAllK_eq : ∀ (done r : List Rec) (ms : List Nat), chkAllK done r ms = chkAll done r ms
  | done, [], ms => by simp only [chkAllK, chkAll]
  | done, b :: r, m :: ms => by simp only [chkAllK, chkAll, forceB_eq, chkAllK_eq _ r ms]
  | done, _ :: _, [] => by simp only [chkAllK, chkAll]
def endB (ops : List Oper) (rs : List Rec) : Bool := bif edgesOk 0 ops then ancsK ops [] fun ms => forceB rs fun rs => chkAllK [] rs ms else false
theorem endB_eq {ops : List Oper} {rs : List Rec} (h : endB ops rs = true) : edgesOk 0 ops = true ∧ chkAll [] rs (ancs ops []) = true := by
  unfold endB at h
  rw [ancsK_eq, forceB_eq, chkAllK_eq] at h
  cases he : edgesOk 0 ops with
  | true => rw [he] at h; exact ⟨rfl, h⟩
  | false => rw [he] at h; cases h
/-- A test, for the kernel alone. -/
structure EndOk (b : Bool) (K : Prop) : Prop where
  ok : b = true
  k : K
def drawEnd (ops : List Oper) (K : St → Prop) (rs : List Rec) (σ : St) : Prop :=
  EndOk (endB ops rs) (K σ)

/-! ##### why the order does not matter -/
structure Inst where
  r : Rec
  d : D
  ups : List (Nat × Ob)
  nw : List Nat
def updH (H : Nat → Ob) : List (Nat × Ob) → Nat → Ob
  | [] => H
  | (p, x) :: r => updH (fun q => if q = p then x else H q) r
theorem updH_out : ∀ {ups : List (Nat × Ob)} {H : Nat → Ob} {q : Nat}, q ∉ ups.map (·.1) → updH H ups q = H q
  | [], H, q, _ => rfl
  | (p, x) :: r, H, q, h => by
    simp at h
    simp only [updH]
    rw [updH_out (by simpa using h.2), if_neg h.1]
theorem updH_in : ∀ {ups : List (Nat × Ob)} {H H' : Nat → Ob} {q : Nat}, q ∈ ups.map (·.1) → updH H ups q = updH H' ups q ∧ ∃ x ∈ ups, x.1 = q ∧ updH H ups q = x.2
  | [], H, H', q, h => by simp at h
  | (p, x) :: r, H, H', q, h => by
    simp only [updH]
    by_cases hr : q ∈ r.map (·.1)
    · obtain ⟨h1, y, hy, e1, e2⟩ := updH_in (H := fun q => if q = p then x else H q) (H' := fun q => if q = p then x else H' q) hr
      exact ⟨h1, y, List.mem_cons_of_mem _ hy, e1, e2⟩
    · have hqp : q = p := by
        rcases List.mem_cons.1 h with h | h
        · exact h
        · exact absurd h hr
      subst hqp
      rw [updH_out hr, updH_out hr, if_pos rfl, if_pos rfl]
      exact ⟨rfl, (q, x), List.mem_cons_self, rfl, rfl⟩
theorem updH_pt : ∀ {ups : List (Nat × Ob)} {H H' : Nat → Ob} {q : Nat}, H q = H' q → updH H ups q = updH H' ups q := by
  intro ups H H' q h
  by_cases hq : q ∈ ups.map (·.1)
  · exact (updH_in hq).1
  · rw [updH_out hq, updH_out hq, h]
theorem obAt_setObs : ∀ (ups : List (Nat × Ob)) (l : List Ob), obAt (setObs l ups) = updH (obAt l) ups
  | [], l => rfl
  | (p, x) :: r, l => by
    simp only [setObs, updH]
    rw [obAt_setObs r (setOb l p x)]
    congr 1
    funext q
    exact obAt_set l p x q
def selE (S : Nat → Bool) : Nat → List Inst → (Nat → Option D) → Nat → Option D
  | _, [], E => E
  | i, x :: xs, E => selE S (i + 1) xs (if S i then updE E x.r.dst x.d else E)
def selH (S : Nat → Bool) : Nat → List Inst → (Nat → Ob) → Nat → Ob
  | _, [], H => H
  | i, x :: xs, H => selH S (i + 1) xs (if S i then updH H x.ups else H)
theorem updE_pt {E E' : Nat → Option D} {dst : Option Nat} {d : D} {t : Nat} (h : E t = E' t) : updE E dst d t = updE E' dst d t := by
  unfold updE; split
  · rfl
  · exact h
theorem updE_ne {E : Nat → Option D} {dst : Option Nat} {d : D} {t : Nat} (h : dst ≠ some t) : updE E dst d t = E t := by unfold updE; rw [if_neg h]
theorem selE_pt (S : Nat → Bool) : ∀ (xs : List Inst) (k : Nat) {E E' : Nat → Option D} {t : Nat}, E t = E' t → selE S k xs E t = selE S k xs E' t
  | [], k, E, E', t, h => h
  | x :: xs, k, E, E', t, h => by
    simp only [selE]
    refine selE_pt S xs (k + 1) ?_
    split
    · exact updE_pt h
    · exact h
theorem selH_pt (S : Nat → Bool) : ∀ (xs : List Inst) (k : Nat) {E E' : Nat → Ob} {t : Nat}, E t = E' t → selH S k xs E t = selH S k xs E' t
  | [], k, E, E', t, h => h
  | x :: xs, k, E, E', t, h => by
    simp only [selH]
    refine selH_pt S xs (k + 1) ?_
    split
    · exact updH_pt h
    · exact h
theorem selE_app (S : Nat → Bool) : ∀ (xs ys : List Inst) (k : Nat) (E : Nat → Option D), selE S k (xs ++ ys) E = selE S (k + xs.length) ys (selE S k xs E)
  | [], ys, k, E => rfl
  | x :: xs, ys, k, E => by simp only [List.cons_append, selE, List.length_cons]; rw [selE_app S xs ys]; congr 1; omega
theorem selH_app (S : Nat → Bool) : ∀ (xs ys : List Inst) (k : Nat) (E : Nat → Ob), selH S k (xs ++ ys) E = selH S (k + xs.length) ys (selH S k xs E)
  | [], ys, k, E => rfl
  | x :: xs, ys, k, E => by simp only [List.cons_append, selH, List.length_cons]; rw [selH_app S xs ys]; congr 1; omega
/-- Where all writers of t are chosen, the choice is as the whole; where none is, it does nothing. -/
theorem selE_all (S : Nat → Bool) : ∀ (xs : List Inst) (k : Nat) {E : Nat → Option D} {t : Nat}, (∀ (j : Nat) x, xs[j]? = some x → x.r.dst = some t → S (k + j) = true) → selE S k xs E t = selE (fun _ => true) k xs E t
  | [], k, E, t, _ => rfl
  | x :: xs, k, E, t, h => by
    simp only [selE, if_true]
    rw [selE_all S xs (k + 1) (fun j y hy hd => by have := h (j + 1) y (by simpa using hy) hd; rwa [show k + (j + 1) = k + 1 + j from by omega] at this)]
    refine selE_pt _ xs (k + 1) ?_
    by_cases hS : S k = true
    · rw [if_pos hS]
    · rw [if_neg hS, updE_ne]
      intro hd
      exact hS (by simpa using h 0 x rfl hd)
theorem selE_none (S : Nat → Bool) : ∀ (xs : List Inst) (k : Nat) {E : Nat → Option D} {t : Nat}, (∀ (j : Nat) x, xs[j]? = some x → x.r.dst = some t → S (k + j) = false) → selE S k xs E t = E t
  | [], k, E, t, _ => rfl
  | x :: xs, k, E, t, h => by
    simp only [selE]
    rw [selE_none S xs (k + 1) (fun j y hy hd => by have := h (j + 1) y (by simpa using hy) hd; rwa [show k + (j + 1) = k + 1 + j from by omega] at this)]
    split
    · rename_i hS
      rw [updE_ne]
      intro hd
      have := h 0 x rfl hd
      simp only [Nat.add_zero] at this
      rw [this] at hS; cases hS
    · rfl
theorem selH_all (S : Nat → Bool) : ∀ (xs : List Inst) (k : Nat) {E : Nat → Ob} {t : Nat}, (∀ (j : Nat) x, xs[j]? = some x → t ∈ x.ups.map (·.1) → S (k + j) = true) → selH S k xs E t = selH (fun _ => true) k xs E t
  | [], k, E, t, _ => rfl
  | x :: xs, k, E, t, h => by
    simp only [selH, if_true]
    rw [selH_all S xs (k + 1) (fun j y hy hd => by have := h (j + 1) y (by simpa using hy) hd; rwa [show k + (j + 1) = k + 1 + j from by omega] at this)]
    refine selH_pt _ xs (k + 1) ?_
    by_cases hS : S k = true
    · rw [if_pos hS]
    · rw [if_neg hS, updH_out]
      intro hd
      exact hS (by simpa using h 0 x rfl hd)
theorem selH_none (S : Nat → Bool) : ∀ (xs : List Inst) (k : Nat) {E : Nat → Ob} {t : Nat}, (∀ (j : Nat) x, xs[j]? = some x → t ∈ x.ups.map (·.1) → S (k + j) = false) → selH S k xs E t = E t
  | [], k, E, t, _ => rfl
  | x :: xs, k, E, t, h => by
    simp only [selH]
    rw [selH_none S xs (k + 1) (fun j y hy hd => by have := h (j + 1) y (by simpa using hy) hd; rwa [show k + (j + 1) = k + 1 + j from by omega] at this)]
    split
    · rename_i hS
      rw [updH_out]
      intro hd
      have := h 0 x rfl hd
      simp only [Nat.add_zero] at this
      rw [this] at hS; cases hS
    · rfl
theorem selE_congr {S S' : Nat → Bool} : ∀ (xs : List Inst) (k : Nat) {E : Nat → Option D}, (∀ j, j < xs.length → S (k + j) = S' (k + j)) → selE S k xs E = selE S' k xs E
  | [], k, E, _ => rfl
  | x :: xs, k, E, h => by
    simp only [selE]
    have h0 := h 0 (by simp)
    simp only [Nat.add_zero] at h0
    rw [h0]
    exact selE_congr xs (k + 1) (fun j hj => by have := h (j + 1) (by simp; omega); rwa [show k + (j + 1) = k + 1 + j from by omega] at this)
theorem selH_congr {S S' : Nat → Bool} : ∀ (xs : List Inst) (k : Nat) {E : Nat → Ob}, (∀ j, j < xs.length → S (k + j) = S' (k + j)) → selH S k xs E = selH S' k xs E
  | [], k, E, _ => rfl
  | x :: xs, k, E, h => by
    simp only [selH]
    have h0 := h 0 (by simp)
    simp only [Nat.add_zero] at h0
    rw [h0]
    exact selH_congr xs (k + 1) (fun j hj => by have := h (j + 1) (by simp; omega); rwa [show k + (j + 1) = k + 1 + j from by omega] at this)
/-- No two that meet are out of order: S holds what is ahead of i, and nothing that is behind it. -/
structure Fits (xs : List Inst) (S : Nat → Bool) (i : Nat) (x : Inst) : Prop where
  here : xs[i]? = some x
  out : S i = false
  ahead : ∀ (j : Nat) y, j < i → xs[j]? = some y → confl y.r x.r = true → S j = true
  behind : ∀ (j : Nat) y, i < j → xs[j]? = some y → confl x.r y.r = true → S j = false
theorem split_at {xs : List Inst} {i : Nat} {x : Inst} (h : xs[i]? = some x) : xs = xs.take i ++ x :: xs.drop (i + 1) ∧ (xs.take i).length = i := by
  have hlt : i < xs.length := (List.getElem?_eq_some_iff.1 h).1
  refine ⟨?_, by simp; omega⟩
  have e : xs[i] = x := (List.getElem?_eq_some_iff.1 h).2
  rw [← e, List.getElem_cons_drop, List.take_append_drop]
theorem confl_dst_rt {a b : Rec} {t : Nat} (ha : a.dst = some t) (hb : t ∈ b.rt) : confl a b = true ∧ confl b a = true := by
  have : optIn a.dst b.rt = true := by rw [ha]; exact isIn_iff.2 hb
  simp [confl, this]
theorem confl_dst_dst {a b : Rec} {t : Nat} (ha : a.dst = some t) (hb : b.dst = some t) : confl a b = true := by
  have : optEq a.dst b.dst = true := by rw [ha, hb]; exact Nat.beq_refl t
  simp [confl, this]
theorem meet_iff : ∀ {l m : List Nat}, meet l m = true ↔ ∃ x, x ∈ l ∧ x ∈ m
  | [], m => by simp [meet]
  | x :: xs, m => by
    simp only [meet]
    cases hb : isIn x m with
    | true => simp only [cond_true, true_iff]; exact ⟨x, List.mem_cons_self, isIn_iff.1 hb⟩
    | false =>
      simp only [cond_false, meet_iff (l := xs)]
      constructor
      · rintro ⟨y, h1, h2⟩; exact ⟨y, List.mem_cons_of_mem _ h1, h2⟩
      · rintro ⟨y, h1, h2⟩
        rcases List.mem_cons.1 h1 with rfl | h1
        · rw [isIn_iff.2 h2] at hb; cases hb
        · exact ⟨y, h1, h2⟩
theorem confl_wp_rp {a b : Rec} {p : Nat} (ha : p ∈ a.wp) (hb : p ∈ b.rp) : confl a b = true ∧ confl b a = true := by
  have : meet a.wp b.rp = true := meet_iff.2 ⟨p, ha, hb⟩
  simp [confl, this]
theorem confl_wp_wp {a b : Rec} {p : Nat} (ha : p ∈ a.wp) (hb : p ∈ b.wp) : confl a b = true := by
  have : meet a.wp b.wp = true := meet_iff.2 ⟨p, ha, hb⟩
  simp [confl, this]
variable {xs : List Inst} {S : Nat → Bool} {i : Nat} {x : Inst}
theorem Fits.readE (f : Fits xs S i x) (E : Nat → Option D) {t : Nat} (ht : t ∈ x.r.rt) : selE S 0 xs E t = selE (fun _ => true) 0 (xs.take i) E t := by
  obtain ⟨h1, h2⟩ := split_at f.here
  conv => lhs; rw [h1, selE_app]
  simp only [selE, Nat.zero_add, h2]
  rw [f.out]
  simp only [Bool.false_eq_true, if_false]
  rw [selE_none, selE_all]
  · intro j y hy hd
    have hj : j < i := by have := (List.getElem?_eq_some_iff.1 hy).1; simp at this; omega
    rw [Nat.zero_add]
    exact f.ahead j y hj (by rwa [List.getElem?_take, if_pos hj] at hy) (confl_dst_rt hd ht).1
  · intro j y hy hd
    rw [List.getElem?_drop] at hy
    exact f.behind (i + 1 + j) y (by omega) hy (confl_dst_rt hd ht).2
theorem Fits.readH (f : Fits xs S i x) (hw : ∀ y ∈ xs, y.r.wp = y.ups.map (·.1)) (E : Nat → Ob) {t : Nat} (ht : t ∈ x.r.rp) : selH S 0 xs E t = selH (fun _ => true) 0 (xs.take i) E t := by
  obtain ⟨h1, h2⟩ := split_at f.here
  conv => lhs; rw [h1, selH_app]
  simp only [selH, Nat.zero_add, h2]
  rw [f.out]
  simp only [Bool.false_eq_true, if_false]
  rw [selH_none, selH_all]
  · intro j y hy hd
    have hj : j < i := by have := (List.getElem?_eq_some_iff.1 hy).1; simp at this; omega
    rw [Nat.zero_add]
    rw [List.getElem?_take, if_pos hj] at hy
    exact f.ahead j y hj hy (confl_wp_rp (by rw [hw y (List.mem_of_getElem? hy)]; exact hd) ht).1
  · intro j y hy hd
    rw [List.getElem?_drop] at hy
    exact f.behind (i + 1 + j) y (by omega) hy (confl_wp_rp (by rw [hw y (List.mem_of_getElem? hy)]; exact hd) ht).2
theorem Fits.addE (f : Fits xs S i x) (E : Nat → Option D) {S' : Nat → Bool} (hS : ∀ j, S' j = if j = i then true else S j) : selE S' 0 xs E = updE (selE S 0 xs E) x.r.dst x.d := by
  obtain ⟨h1, h2⟩ := split_at f.here
  funext t
  have e1 : selE S' 0 (xs.take i) E = selE S 0 (xs.take i) E := selE_congr _ _ (fun j hj => by rw [hS, if_neg (by omega)])
  have e2 : ∀ F : Nat → Option D, selE S' (i + 1) (xs.drop (i + 1)) F = selE S (i + 1) (xs.drop (i + 1)) F := fun F => selE_congr _ _ (fun j hj => by rw [hS, if_neg (by omega)])
  have l1 : selE S' 0 xs E t = selE S (i + 1) (xs.drop (i + 1)) (updE (selE S 0 (xs.take i) E) x.r.dst x.d) t := by
    conv => lhs; rw [h1, selE_app]
    simp only [selE, Nat.zero_add, h2, e1, e2]
    rw [hS, if_pos rfl]; rfl
  have l2 : selE S 0 xs E t = selE S (i + 1) (xs.drop (i + 1)) (selE S 0 (xs.take i) E) t := by
    conv => lhs; rw [h1, selE_app]
    simp only [selE, Nat.zero_add, h2]
    rw [f.out]; rfl
  rw [l1]
  by_cases hd : x.r.dst = some t
  · rw [selE_none]
    · unfold updE; rw [if_pos hd, if_pos hd]
    · intro j y hy hd'
      rw [List.getElem?_drop] at hy
      exact f.behind (i + 1 + j) y (by omega) hy (confl_dst_dst hd hd')
  · rw [updE_ne hd, l2]
    exact selE_pt _ _ _ (updE_ne hd)
theorem Fits.addH (f : Fits xs S i x) (hw : ∀ y ∈ xs, y.r.wp = y.ups.map (·.1)) (E : Nat → Ob) {S' : Nat → Bool} (hS : ∀ j, S' j = if j = i then true else S j) : selH S' 0 xs E = updH (selH S 0 xs E) x.ups := by
  obtain ⟨h1, h2⟩ := split_at f.here
  funext t
  have e1 : selH S' 0 (xs.take i) E = selH S 0 (xs.take i) E := selH_congr _ _ (fun j hj => by rw [hS, if_neg (by omega)])
  have e2 : ∀ F : Nat → Ob, selH S' (i + 1) (xs.drop (i + 1)) F = selH S (i + 1) (xs.drop (i + 1)) F := fun F => selH_congr _ _ (fun j hj => by rw [hS, if_neg (by omega)])
  have l1 : selH S' 0 xs E t = selH S (i + 1) (xs.drop (i + 1)) (updH (selH S 0 (xs.take i) E) x.ups) t := by
    conv => lhs; rw [h1, selH_app]
    simp only [selH, Nat.zero_add, h2, e1, e2]
    rw [hS, if_pos rfl]; rfl
  have l2 : selH S 0 xs E t = selH S (i + 1) (xs.drop (i + 1)) (selH S 0 (xs.take i) E) t := by
    conv => lhs; rw [h1, selH_app]
    simp only [selH, Nat.zero_add, h2]
    rw [f.out]; rfl
  rw [l1]
  by_cases hd : t ∈ x.ups.map (·.1)
  · rw [selH_none]
    · exact (updH_in hd).1
    · intro j y hy hd'
      rw [List.getElem?_drop] at hy
      exact f.behind (i + 1 + j) y (by omega) hy (confl_wp_wp (by rw [hw x (List.mem_of_getElem? f.here)]; exact hd) (by rw [hw y (List.mem_of_getElem? hy)]; exact hd'))
  · rw [updH_out hd, l2]
    exact selH_pt _ _ _ (updH_out hd)

/-! ##### the trace of a region -/
def Good (T : Tab P) (ops : Array Oper) (o : Oper) (E : Nat → Option D) (H : Nat → Ob) (x : Inst) : Prop :=
  ∀ E' H', (∀ t ∈ x.r.rt, E' t = E t) → (∀ p ∈ x.r.rp, H' p = H p) → ∀ X ρ w (a : Act) (Q : Exit → Act → World → Prop) (K : Act → World → Prop), Real T.glob X ρ w E' H' a.tmps → (∀ p ∈ x.nw, ρ p = .hole) →
    (∀ v w' X' ρ', Step (fun p => p ∈ x.ups.map (·.1)) X ρ w X' ρ' w' → DCell X' ρ' w' x.d v → (∀ y ∈ x.ups, ObOK X' ρ' w' y.1 y.2) → K (a.put o.dst v) w') →
    if Region.wanted o (yielded ops a.tmps) then o.wp P a w K Q ∨ (o.asks P a w ∧ LetsOut Q) else K (a.put o.dst undef) w
inductive Tr (T : Tab P) (ops : Array Oper) : List Oper → List Inst → (Nat → Option D) → (Nat → Ob) → Nat → (Nat → Option D) → (Nat → Ob) → Nat → Prop where
  | nil {E H n} : Tr T ops [] [] E H n E H n
  | cons {o os x xs E H n n' E' H' n''} (g : Good T ops o E H x) (hd : x.r.dst = o.dst) (hw : x.r.wp = x.ups.map (·.1)) (hn : ∀ p ∈ x.nw, n ≤ p ∧ p ∈ x.r.wp) (hle : n ≤ n') (hlt : ∀ p ∈ x.r.wp, p < n')
      (r : Tr T ops os xs (updE E o.dst x.d) (updH H x.ups) n' E' H' n'') : Tr T ops (o :: os) (x :: xs) E H n E' H' n''
theorem Tr.get {ops : Array Oper} : ∀ {os xs E H n E' H' n'}, Tr T ops os xs E H n E' H' n' → os.length = xs.length ∧ n ≤ n' ∧ E' = selE (fun _ => true) 0 xs E ∧ H' = selH (fun _ => true) 0 xs H ∧ (∀ y ∈ xs, y.r.wp = y.ups.map (·.1) ∧ ∀ p ∈ y.r.wp, p < n') ∧
    ∀ (i : Nat) o, os[i]? = some o → ∃ x, xs[i]? = some x ∧ x.r.dst = o.dst ∧ Good T ops o (selE (fun _ => true) 0 (xs.take i) E) (selH (fun _ => true) 0 (xs.take i) H) x ∧
      ∀ p ∈ x.nw, n ≤ p ∧ p ∈ x.r.wp ∧ ∀ (j : Nat) y, j < i → xs[j]? = some y → p ∉ y.r.wp := by
  intro os xs E H n E' H' n' h
  induction h with
  | nil => exact ⟨rfl, Nat.le_refl _, rfl, rfl, by simp, fun i o h => by simp at h⟩
  | @cons o os x xs E H n n1 E' H' n2 g hd hw hn hle hlt r ih =>
    obtain ⟨h1, h2, h3, h4, h5, h6⟩ := ih
    have sh : ∀ (k : Nat) (l : List Inst) (F : Nat → Option D), selE (fun _ => true) (k + 1) l F = selE (fun _ => true) k l F := fun k l => by
      induction l generalizing k with
      | nil => intro F; rfl
      | cons y l ih => intro F; simp only [selE, if_true]; exact ih (k + 1) _
    have sh2 : ∀ (k : Nat) (l : List Inst) (F : Nat → Ob), selH (fun _ => true) (k + 1) l F = selH (fun _ => true) k l F := fun k l => by
      induction l generalizing k with
      | nil => intro F; rfl
      | cons y l ih => intro F; simp only [selH, if_true]; exact ih (k + 1) _
    refine ⟨by simp [h1], Nat.le_trans hle h2, ?_, ?_, ?_, ?_⟩
    · rw [h3]; simp only [selE, if_true, hd]; rw [sh]
    · rw [h4]; simp only [selH, if_true]; rw [sh2]
    · intro y hy
      rcases List.mem_cons.1 hy with rfl | hy
      · exact ⟨hw, fun p hp => Nat.lt_of_lt_of_le (hlt p hp) h2⟩
      · exact h5 y hy
    · intro i o' ho
      cases i with
      | zero =>
        simp at ho; subst ho
        exact ⟨x, rfl, hd, g, fun p hp => ⟨(hn p hp).1, (hn p hp).2, fun j y hj => absurd hj (Nat.not_lt_zero _)⟩⟩
      | succ i =>
        obtain ⟨y, hy, hyd, hyg, hyn⟩ := h6 i o' (by simpa using ho)
        refine ⟨y, by simpa using hy, hyd, ?_, fun p hp => ?_⟩
        · simp only [List.take_succ_cons, selE, selH, if_true, hd]
          rw [sh, sh2]; exact hyg
        · obtain ⟨a1, a2, a3⟩ := hyn p hp
          refine ⟨by omega, a2, fun j z hj hz => ?_⟩
          cases j with
          | zero => simp at hz; subst hz; intro hp'; have := hlt p hp'; omega
          | succ j => exact a3 j z (by omega) (by simpa using hz)

/-! ##### the edges -/
theorem ancs_spec : ∀ (l : List Oper) (acc : List Nat) (S : Nat → Prop), (∀ j, (h : j < acc.length) → S j → ∀ i, Nat.testBit acc[j] i = true → S i) →
    (∀ (j : Nat) o, l[j]? = some o → S (acc.length + j) → ∀ e ∈ o.after, Region.binds .any e = true → S e.on) → ∀ j, (h : j < (ancs l acc).length) → S j → ∀ i, Nat.testBit (ancs l acc)[j] i = true → S i
  | [], acc, S, h1, _, j, hj, hS, i, hi => h1 j hj hS i hi
  | o :: l, acc, S, h1, h2, j, hj, hS, i, hi => by
    have key : S acc.length → ∀ i, Nat.testBit (maskOf acc o.after.toList) i = true → S i := by
      intro hS'
      have hall : ∀ e ∈ o.after.toList, Region.binds .any e = true → S e.on := fun e he hb => h2 0 o rfl (by simpa using hS') e (by simpa using he) hb
      have : ∀ (es : List Edge), (∀ e ∈ es, Region.binds .any e = true → S e.on) → ∀ i, Nat.testBit (maskOf acc es) i = true → S i := by
        intro es
        induction es with
        | nil => intro _ i hi; simp [maskOf] at hi
        | cons e es ih =>
          intro he i hi
          simp only [maskOf] at hi
          cases hb : Region.binds .any e with
          | false => simp only [hb, cond_false] at hi; exact ih (fun e' h' => he e' (List.mem_cons_of_mem _ h')) i hi
          | true =>
            simp only [hb, cond_true, Nat.testBit_or, Bool.or_eq_true] at hi
            have hon := he e List.mem_cons_self hb
            rcases hi with hi | hi | hi
            · rw [Nat.one_shiftLeft, Nat.testBit_two_pow] at hi
              have : e.on = i := by simpa using hi
              rw [← this]; exact hon
            · by_cases hlt : e.on < acc.length
              · have : acc.getD e.on 0 = acc[e.on] := by simp [hlt]
                rw [this] at hi
                exact h1 _ hlt hon i hi
              · have : acc.getD e.on 0 = 0 := by simp; rw [List.getElem?_eq_none (by omega)]; rfl
                rw [this] at hi; simp at hi
            · exact ih (fun e' h' => he e' (List.mem_cons_of_mem _ h')) i hi
      exact this _ hall
    refine ancs_spec l (acc ++ [maskOf acc o.after.toList]) S ?_ ?_ j hj hS i hi
    · intro j hj hS i hi
      by_cases hlt : j < acc.length
      · rw [List.getElem_append_left hlt] at hi; exact h1 j hlt hS i hi
      · have : j = acc.length := by simp at hj; omega
        subst this
        simp at hi
        exact key hS i hi
    · intro j o' ho hS
      exact h2 (j + 1) o' (by simpa using ho) (by simp at hS; rwa [show acc.length + (j + 1) = acc.length + 1 + j from by omega])
theorem ancs_length : ∀ (l : List Oper) (acc : List Nat), (ancs l acc).length = acc.length + l.length
  | [], acc => rfl
  | o :: l, acc => by simp only [ancs]; rw [ancs_length l]; simp; omega
theorem chk1_spec {mask : Nat} {b : Rec} : ∀ {l : List Rec} {i : Nat}, chk1 mask b i l = true → ∀ (j : Nat) a, l[j]? = some a → confl a b = true → Nat.testBit mask (i + j) = true
  | [], i, _, j, a, h, _ => by simp at h
  | c :: l, i, h, j, a, ha, hc => by
    simp only [chk1] at h
    cases j with
    | zero =>
      simp at ha; subst ha
      rw [hc] at h
      simp only [cond_true] at h
      cases hb : mask.testBit i with
      | true => simp
      | false => rw [hb] at h; simp at h
    | succ j =>
      have h' : chk1 mask b (i + 1) l = true := by
        cases hc' : confl c b with
        | false => rw [hc'] at h; simpa using h
        | true =>
          rw [hc'] at h; simp only [cond_true] at h
          cases hb : mask.testBit i with
          | true => rw [hb] at h; simpa using h
          | false => rw [hb] at h; simp at h
      have := chk1_spec h' j a (by simpa using ha) hc
      rwa [show i + (j + 1) = i + 1 + j from by omega]
theorem chkAll_spec : ∀ {r : List Rec} {done : List Rec} {ms : List Nat} {ms0 : List Nat}, chkAll done r ms = true → ms0.length = done.length → (∀ (i j : Nat) a b m, i < j → done[i]? = some a → done[j]? = some b → ms0[j]? = some m → confl a b = true → Nat.testBit m i = true) →
    ∀ (i j : Nat) a b m, i < j → (done ++ r)[i]? = some a → (done ++ r)[j]? = some b → (ms0 ++ ms)[j]? = some m → confl a b = true → Nat.testBit m i = true
  | [], done, ms, ms0, _, hl, hd, i, j, a, b, m, hij, ha, hb, hm, hc => by
    rw [List.append_nil] at ha hb
    have hj : j < done.length := (List.getElem?_eq_some_iff.1 hb).1
    rw [List.getElem?_append_left (by omega)] at hm
    exact hd i j a b m hij ha hb hm hc
  | c :: r, done, [], ms0, h, _, _, _, _, _, _, _, _, _, _, _, _ => by simp [chkAll] at h
  | c :: r, done, m0 :: ms, ms0, h, hl, hd, i, j, a, b, m, hij, ha, hb, hm, hc => by
    simp only [chkAll] at h
    cases hk : chk1 m0 c 0 done with
    | false => rw [hk] at h; simp at h
    | true =>
      rw [hk] at h; simp only [cond_true] at h
      refine chkAll_spec (ms0 := ms0 ++ [m0]) h (by simp [hl]) ?_ i j a b m hij (by simpa using ha) (by simpa using hb) (by simpa using hm) hc
      intro i j a b m hij ha hb hm hc
      have hj : j < done.length + 1 := by have := (List.getElem?_eq_some_iff.1 hb).1; simpa using this
      by_cases hjd : j < done.length
      · rw [List.getElem?_append_left (by omega)] at ha
        rw [List.getElem?_append_left hjd] at hb
        rw [List.getElem?_append_left (by omega)] at hm
        exact hd i j a b m hij ha hb hm hc
      · have : j = done.length := by omega
        subst this
        rw [List.getElem?_append_left hij] at ha
        rw [List.getElem?_append_right (Nat.le_refl _)] at hb
        rw [List.getElem?_append_right (by omega)] at hm
        simp at hb
        rw [hl] at hm
        simp at hm
        subst hb hm
        have := chk1_spec hk i a ha hc
        simpa using this
theorem edgesOk_spec : ∀ {l : List Oper} {k : Nat}, edgesOk k l = true → ∀ (j : Nat) o, l[j]? = some o → ∀ e ∈ o.after, Region.binds .any e = true → e.on < k + j
  | [], k, _, j, o, h => by simp at h
  | c :: l, k, h, j, o, ho => by
    simp only [edgesOk] at h
    cases hk : (c.after.toList.all fun e => !Region.binds .any e || Nat.blt e.on k) with
    | false => rw [hk] at h; simp at h
    | true =>
      rw [hk] at h; simp only [cond_true] at h
      cases j with
      | zero =>
        simp at ho; subst ho
        intro e he hb
        have := (List.all_eq_true.1 hk) e (by simpa using he)
        rw [hb] at this
        simp only [Bool.not_true, Bool.false_or] at this
        have := Nat.le_of_ble_eq_true this
        omega
      | succ j =>
        have := edgesOk_spec h j o (by simpa using ho)
        intro e he hb
        have := this e he hb
        omega
end
attribute [irreducible] CallDet
end Go.DL

/- DL, part 11: regions whose order Go leaves open: the rule. Own work; no condition. -/
set_option linter.unusedVariables false
set_option linter.unusedSimpArgs false
namespace Go.DL
open Go.RowKit

section
variable {P : Program} {T : Tab P}

theorem Real.restrict {G : Nat → Option (List V)} {X : Nat → Prop} {ρ : Nat → Slot} {w : World} {E E' : Nat → Option D} {H H' : Nat → Ob} {tmps : Array Value} (r : Real G X ρ w E' H' tmps) {rt rp : List Nat}
    (hE : ∀ t ∈ rt, E' t = E t) (hH : ∀ p ∈ rp, H' p = H p) : Real G X ρ w (onE rt E) (onH rp H) tmps := by
  refine ⟨r.glob, r.mem, fun t d h => ?_, fun p => ?_⟩
  · unfold onE at h
    cases hb : isIn t rt with
    | false => rw [hb] at h; cases h
    | true =>
      rw [hb, cond_true, ← hE t (isIn_iff.1 hb)] at h
      exact r.env t d h
  · unfold onH
    cases hb : isIn p rp with
    | false => trivial
    | true => rw [cond_true, ← hH p (isIn_iff.1 hb)]; exact r.obs p
theorem good_exec {ops : Array Oper} {o : Oper} {E : Nat → Option D} {H : Nat → Ob} {nw : List Nat} {d : D} {ups : List (Nat × Ob)} {gd rp : List Nat} (hdoes : Does T o (onE (opRds o.op) E) (onH rp H) nw (Just d ups))
    (hg : o.guard = none ∨ ∃ j want t, o.guard = some (j, want) ∧ nthDst ops.toList j = some t ∧ t ∈ gd ∧ E t = some (.v (.bool want))) :
    Good T ops o E H ⟨⟨gd ++ opRds o.op, rp, o.dst, ups.map (·.1)⟩, d, ups, nw⟩ := by
  intro E' H' hE hH X ρ w a Q K r hn hK
  have hw : Region.wanted o (yielded ops a.tmps) = true := by
    rcases hg with hg | ⟨j, want, t, hg, ht, hmem, hEt⟩
    · simp [Region.wanted, hg]
    · have hdst : (ops[j]?).bind (·.dst) = some t := by rw [nthDst_eq] at ht; simpa using ht
      obtain ⟨v, hv, hd⟩ := r.env t _ ((hE t (List.mem_append_left _ hmem)).trans hEt)
      unfold DCell VCell at hd
      subst hd
      have hy : yielded ops a.tmps j = some want := by simp [yielded, hdst, hv]
      simp [Region.wanted, hg, hy]
  rw [if_pos hw]
  refine .inl (hdoes X ρ w a Q K (r.restrict (fun t ht => hE t (List.mem_append_right _ ht)) hH) hn ?_)
  rintro d' ups' v w' X' ρ' ⟨rfl, rfl⟩ st hd ho
  exact hK v w' X' ρ' st hd ho
/-- What a guard does not want. -/
def Unw (want : Bool) (d : Option D) : Prop := (∃ lit, d = some (.v (.bool lit)) ∧ lit ≠ want) ∨ ∃ u, d = some (.v (.raw u)) ∧ ∀ b, u ≠ .bool b
theorem good_skip {ops : Array Oper} {o : Oper} {E : Nat → Option D} {H : Nat → Ob} {gd : List Nat} {j t : Nat} {want : Bool} (hg : o.guard = some (j, want)) (ht : nthDst ops.toList j = some t) (hmem : t ∈ gd) (hu : Unw want (E t)) :
    Good T ops o E H ⟨⟨gd, [], o.dst, []⟩, .v (.raw undef), [], []⟩ := by
  intro E' H' hE hH X ρ w a Q K r hn hK
  have hdst : (ops[j]?).bind (·.dst) = some t := by rw [nthDst_eq] at ht; simpa using ht
  have hw : Region.wanted o (yielded ops a.tmps) = false := by
    rcases hu with ⟨lit, hEt, hne⟩ | ⟨u, hEt, hnb⟩
    · obtain ⟨v, hv, hd⟩ := r.env t _ ((hE t hmem).trans hEt)
      unfold DCell VCell at hd
      subst hd
      have hy : yielded ops a.tmps j = some lit := by simp [yielded, hdst, hv]
      simp [Region.wanted, hg, hy, hne]
    · obtain ⟨v, hv, hd⟩ := r.env t _ ((hE t hmem).trans hEt)
      have hv2 : v = u := hd
      subst hv2
      have hy : yielded ops a.tmps j ≠ some want := yielded_not hdst hv hnb
      simp [Region.wanted, hg, hy]
  rw [if_neg (by simp [hw])]
  exact hK _ w X ρ (Step.refl r.mem) rfl (by simp)
theorem look_put {σ : St} {dst : Option Nat} {d : D} {ups : List (Nat × Ob)} : look (σ.put dst d ups).env = updE (look σ.env) dst d ∧ (σ.put dst d ups).heap = setObs σ.heap ups := by
  constructor
  · funext u
    cases dst with
    | none => simp [St.put, updE]
    | some t =>
      simp only [St.put, updE, look]
      by_cases h : t = u
      · subst h; simp
      · have : Nat.beq t u = false := by
          cases hb : Nat.beq t u with
          | false => rfl
          | true => exact absurd (Nat.eq_of_beq_eq_true hb) h
        simp [this, h]
  · cases dst <;> rfl
theorem dec_put {σ : St} {dst : Option Nat} {d : D} {ups : List (Nat × Ob)} (h : ∀ t b, look σ.dec t = some b → look σ.env t = some (.v (.bool b))) :
    ∀ t b, look (σ.put dst d ups).dec t = some b → look (σ.put dst d ups).env t = some (.v (.bool b)) := by
  intro t b ht
  rw [look_put.1]
  cases dst with
  | none => simp only [updE]; rw [if_neg (by simp)]; exact h t b ht
  | some u =>
    obtain ⟨hne, hl⟩ := look_purge u σ.dec t b ht
    rw [updE_ne (by simpa using Ne.symm hne)]
    exact h t b hl
theorem look_lit {σ : St} {t : Nat} {b : Bool} (h : look σ.env t = some (.v (.bool b))) : look (litSt t b σ).env = look σ.env := by
  funext u
  simp only [litSt, look]
  cases hb : Nat.beq t u with
  | true => rw [cond_true, ← Nat.eq_of_beq_eq_true hb, h]
  | false => rfl
def DecOk (σ : St) : Prop := ∀ t b, look σ.dec t = some b → look σ.env t = some (.v (.bool b))
theorem DecOk.lit {σ : St} (k : DecOk σ) {t : Nat} {b : Bool} (h : look σ.env t = some (.v (.bool b))) : DecOk (litSt t b σ) := by
  intro u c hu
  rw [look_lit h]
  simp only [litSt, look] at hu
  cases hb : Nat.beq t u with
  | true => rw [hb, cond_true] at hu; injection hu with hu; subst hu; rw [← Nat.eq_of_beq_eq_true hb]; exact h
  | false => rw [hb, cond_false] at hu; exact k u c hu
theorem nwIn_out {nw : List Nat} {ups : List (Nat × Ob)} {K : Prop} (h : nwIn nw ups K) : K ∧ ∀ p ∈ nw, p ∈ ups.map (·.1) := by
  unfold nwIn at h
  split at h
  · rename_i hb
    exact ⟨h, fun p hp => isIn_iff.1 (List.all_eq_true.1 hb p hp)⟩
  · exact h.elim
attribute [local semireducible] CallDet in
theorem drawOps_tr {N : Nat} {ops : Array Oper} {J : List Rec → St → Prop} : ∀ (l : List Oper) (rs : List Rec) (σ : St), drawOps T N ops.toList l rs σ J → DecOk σ →
    ∃ xs σ', Tr T ops l xs (look σ.env) (obAt σ.heap) σ.heap.length (look σ'.env) (obAt σ'.heap) σ'.heap.length ∧ J (rs ++ xs.map (·.r)) σ' ∧ (∀ o ∈ l, dstB N o.dst = true) ∧ σ'.dec = []
  | [], rs, σ, h, _ => ⟨[], ⟨σ.env, σ.heap, []⟩, .nil, by simpa [drawOps, endK_eq] using h, by simp, rfl⟩
  | o :: rest, rs, σ, h, hdec => by
    -- one operation that is carried out
    have fin : ∀ {σ1 : St} {x : Inst}, look σ1.env = look σ.env → σ1.heap = σ.heap → DecOk σ1 → Good T ops o (look σ.env) (obAt σ.heap) x → x.r.dst = o.dst → x.r.wp = x.ups.map (·.1) → (∀ p ∈ x.nw, σ.heap.length ≤ p ∧ p ∈ x.r.wp) → dstB N o.dst = true →
        drawOps T N ops.toList rest (rs ++ [x.r]) (σ1.put o.dst x.d x.ups) J →
        ∃ xs σ', Tr T ops (o :: rest) xs (look σ.env) (obAt σ.heap) σ.heap.length (look σ'.env) (obAt σ'.heap) σ'.heap.length ∧ J (rs ++ xs.map (·.r)) σ' ∧ (∀ o' ∈ o :: rest, dstB N o'.dst = true) ∧ σ'.dec = [] := by
      intro σ1 x hE hH hd g hdst hwp hnw hN hK
      obtain ⟨xs, σ', tr, hJ, hall, hdec'⟩ := drawOps_tr rest _ _ hK (dec_put hd)
      rw [look_put.1, look_put.2, hE, hH, obAt_setObs] at tr
      obtain ⟨h1, h2, _⟩ := setObs_at x.ups σ.heap
      refine ⟨x :: xs, σ', .cons g hdst hwp hnw h2 (fun p hp => ?_) tr, ?_, ?_, hdec'⟩
      · rw [hwp] at hp
        obtain ⟨y, hy, rfl⟩ := List.mem_map.1 hp
        exact h1 y hy
      · simpa using hJ
      · intro o' ho'
        rcases List.mem_cons.1 ho' with rfl | ho'
        · exact hN
        · exact hall o' ho'
    have exec : ∀ {σ1 : St} {gd : List Nat}, look σ1.env = look σ.env → σ1.heap = σ.heap → DecOk σ1 →
        (o.guard = none ∨ ∃ j want t, o.guard = some (j, want) ∧ nthDst ops.toList j = some t ∧ t ∈ gd ∧ look σ.env t = some (.v (.bool want))) →
        drawExec T N o gd σ1 (fun σ r => drawOps T N ops.toList rest (rs ++ [r]) σ J) →
        ∃ xs σ', Tr T ops (o :: rest) xs (look σ.env) (obAt σ.heap) σ.heap.length (look σ'.env) (obAt σ'.heap) σ'.heap.length ∧ J (rs ++ xs.map (·.r)) σ' ∧ (∀ o' ∈ o :: rest, dstB N o'.dst = true) ∧ σ'.dec = [] := by
      intro σ1 gd hE hH hd hg hx
      unfold drawExec at hx
      simp only [putK_eq, lenK_eq, recK_eq] at hx
      split at hx
      · rename_i hN hc
        obtain ⟨d, ups, nw, hnw, hdoes, hK⟩ := hx
        rw [hE, hH] at hdoes
        rw [hH] at hnw
        exact fin (x := ⟨⟨gd ++ opRds o.op, posAt σ1.env (opPos o.op), o.dst, ups.map (·.1)⟩, d, ups, nw⟩) hE hH hd (good_exec hdoes hg) rfl rfl hnw hN hK
      · rename_i hN hc
        obtain ⟨d, ups, nw, hJ, hnw, hdoes⟩ := opD_does hx
        rw [hE, hH] at hdoes
        obtain ⟨hK, hin⟩ := nwIn_out hJ
        exact fin (x := ⟨⟨gd ++ opRds o.op, posAt σ1.env (opPos o.op), o.dst, ups.map (·.1)⟩, d, ups, nw⟩) hE hH hd (good_exec hdoes hg) rfl rfl (fun p hp => ⟨by rw [hnw p hp, hH]; exact Nat.le_refl _, hin p hp⟩) hN hK
      · exact hx.elim
    have skip : ∀ {σ1 : St} {gd : List Nat} {j t : Nat} {want : Bool}, look σ1.env = look σ.env → σ1.heap = σ.heap → DecOk σ1 → o.guard = some (j, want) → nthDst ops.toList j = some t → t ∈ gd → Unw want (look σ.env t) →
        (match dstB N o.dst with | true => drawOps T N ops.toList rest (rs ++ [⟨gd, [], o.dst, []⟩]) (σ1.put o.dst (.v (.raw undef)) []) J | false => False) →
        ∃ xs σ', Tr T ops (o :: rest) xs (look σ.env) (obAt σ.heap) σ.heap.length (look σ'.env) (obAt σ'.heap) σ'.heap.length ∧ J (rs ++ xs.map (·.r)) σ' ∧ (∀ o' ∈ o :: rest, dstB N o'.dst = true) ∧ σ'.dec = [] := by
      intro σ1 gd j t want hE hH hd hg ht hmem hu hx
      split at hx
      · rename_i hN
        exact fin (x := ⟨⟨gd, [], o.dst, []⟩, .v (.raw undef), [], []⟩) hE hH hd (good_skip hg ht hmem hu) rfl rfl (by simp) hN hx
      · exact hx.elim
    simp only [drawOps, putK_eq] at h
    unfold drawGuard at h
    simp only [litK_eq] at h
    cases hg : o.guard with
    | none =>
      simp only [hg] at h
      exact exec rfl rfl hdec (.inl hg) h
    | some g =>
      obtain ⟨j, want⟩ := g
      simp only [hg] at h
      cases ht : nthDst ops.toList j with
      | none => simp only [ht] at h
      | some t =>
        simp only [ht] at h
        have both : ∀ (lit : Bool) (σ1 : St), look σ1.env = look σ.env → σ1.heap = σ.heap → DecOk σ1 → look σ.env t = some (.v (.bool lit)) →
            pickLit want lit (drawExec T N o [t] σ1 fun σ r => drawOps T N ops.toList rest (rs ++ [r]) σ J) (match dstB N o.dst with | true => drawOps T N ops.toList rest (rs ++ [⟨[t], [], o.dst, []⟩]) (σ1.put o.dst (.v (.raw undef)) []) J | false => False) →
            ∃ xs σ', Tr T ops (o :: rest) xs (look σ.env) (obAt σ.heap) σ.heap.length (look σ'.env) (obAt σ'.heap) σ'.heap.length ∧ J (rs ++ xs.map (·.r)) σ' ∧ (∀ o' ∈ o :: rest, dstB N o'.dst = true) ∧ σ'.dec = [] := by
          intro lit σ1 hE hH hd hl hp
          rcases pickLit_out hp with ⟨rfl, hA⟩ | ⟨hne, hB⟩
          · exact exec hE hH hd (.inr ⟨j, lit, t, hg, ht, by simp, hl⟩) hA
          · exact skip hE hH hd hg ht (by simp) (.inl ⟨lit, hl, hne⟩) hB
        cases hl : look σ.dec t with
        | some lit =>
          simp only [hl] at h
          exact both lit σ rfl rfl hdec (hdec t lit hl) h
        | none =>
          simp only [hl] at h
          split at h
          · rename_i b hb
            cases b with
            | true => exact both true _ (look_lit hb) rfl (hdec.lit hb) hb (h.t rfl)
            | false => exact both false _ (look_lit hb) rfl (hdec.lit hb) hb (h.f rfl)
          · rename_i v hv
            obtain ⟨hnb, hB⟩ := rawK_out h
            exact skip rfl rfl hdec hg ht (by simp) (.inr ⟨v, hv, hnb⟩) hB
          · exact h.elim

/-! ##### every order -/
theorem draw_any {N : Nat} {ops : Array Oper} {xs : List Inst} {E0 E1 : Nat → Option D} {H0 H1 : Nat → Ob} {n0 n1 : Nat} (tr : Tr T ops ops.toList xs E0 H0 n0 E1 H1 n1) (he : edgesOk 0 ops.toList = true)
    (hc : chkAll [] (xs.map (·.r)) (ancs ops.toList []) = true) (hd : ∀ o ∈ ops.toList, dstB N o.dst = true) {C : Ctx} (hN : C.N = N) {Q : Exit → Act → World → Prop}
    (hQ : ∀ (a : Act) w X ρ, a.tmps.size = C.N → a.defers = [] → Real T.glob X ρ w E1 H1 a.tmps → Step (fun _ => True) C.X C.ρ C.w X ρ w → (∀ q, n1 ≤ q → ρ q = .hole) → Q .normal a w) :
    ∀ (fuel : Nat) (u : List Nat) (listed : Array Bool) (a : Act) (w : World) X ρ, listed.size = ops.size → u.length ≤ fuel → (∀ j, j < ops.size → listed.getD j false = false → j ∈ u) →
      (∀ (j : Nat) o, ops[j]? = some o → listed.getD j false = true → ∀ e ∈ o.after, Region.binds .any e = true → listed.getD e.on false = true) →
      a.tmps.size = C.N → a.defers = [] → Real T.glob X ρ w (selE (fun j => listed.getD j false) 0 xs E0) (selH (fun j => listed.getD j false) 0 xs H0) a.tmps → Step (fun _ => True) C.X C.ρ C.w X ρ w →
      (∀ q, n0 ≤ q → (∀ (j : Nat) y, listed.getD j false = true → xs[j]? = some y → q ∉ y.r.wp) → ρ q = .hole) → wpAny P .any ops Q fuel listed a w := by
  obtain ⟨hlen, hle, hE1, hH1, hwp, hat⟩ := tr.get
  have hlen' : ops.size = xs.length := by simpa using hlen
  have hw' : ∀ y ∈ xs, y.r.wp = y.ups.map (·.1) := fun y hy => (hwp y hy).1
  -- all are listed
  have all : ∀ (listed : Array Bool) (a : Act) (w : World) X ρ, (∀ j, j < ops.size → listed.getD j false = true) → a.tmps.size = C.N → a.defers = [] →
      Real T.glob X ρ w (selE (fun j => listed.getD j false) 0 xs E0) (selH (fun j => listed.getD j false) 0 xs H0) a.tmps → Step (fun _ => True) C.X C.ρ C.w X ρ w →
      (∀ q, n0 ≤ q → (∀ (j : Nat) y, listed.getD j false = true → xs[j]? = some y → q ∉ y.r.wp) → ρ q = .hole) → Q .normal a w := by
    intro listed a w X ρ hall h1 h2 r st hh
    rw [selE_congr (S' := fun _ => true) xs 0 (fun j hj => by rw [Nat.zero_add]; exact hall j (by omega)), selH_congr (S' := fun _ => true) xs 0 (fun j hj => by rw [Nat.zero_add]; exact hall j (by omega)), ← hE1, ← hH1] at r
    exact hQ a w X ρ h1 h2 r st fun q hq => hh q (by omega) fun j y _ hy hm => by
      have := (hwp y (List.mem_of_getElem? hy)).2 q hm
      omega
  -- the first that is not listed is ready
  have first : ∀ (listed : Array Bool), listed.size = ops.size → Region.ready .any ops listed = [] → ∀ n j, j < n → j < ops.size → listed.getD j false = true := by
    intro listed hs hr n
    induction n with
    | zero => intro j hj; omega
    | succ n ih =>
      intro j hj hjs
      by_cases hjn : j < n
      · exact ih j hjn hjs
      have hjn : j = n := by omega
      subst hjn
      cases hb : listed.getD j false with
      | true => rfl
      | false =>
        exfalso
        have : j ∈ Region.ready .any ops listed := by
          refine mem_ready.2 ⟨?_, ops[j], by simp [hjs], fun e hein hbd => ?_⟩
          · have : j < listed.size := by omega
            simp [this] at hb ⊢; exact hb
          · have := edgesOk_spec he j ops[j] (by simp [hjs]) e hein hbd
            exact ih e.on (by omega) (by omega)
        rw [hr] at this; cases this
  intro fuel
  induction fuel with
  | zero =>
    intro u listed a w X ρ hs hu hmem hdown h1 h2 r st hh
    have hu0 : u = [] := List.length_eq_zero_iff.1 (by omega)
    subst hu0
    have hall : ∀ j, j < ops.size → listed.getD j false = true := by
      intro j hj
      cases hb : listed.getD j false with
      | true => rfl
      | false => exact absurd (hmem j hj hb) (by simp)
    refine ⟨?_, all listed a w X ρ hall h1 h2 r st hh⟩
    cases hr : Region.ready .any ops listed with
    | nil => rfl
    | cons j l =>
      exfalso
      have hj : j ∈ Region.ready .any ops listed := by rw [hr]; exact List.mem_cons_self
      obtain ⟨h0, o, ho, _⟩ := mem_ready.1 hj
      have hjs : j < ops.size := (Array.getElem?_eq_some_iff.1 ho).1
      have := hall j hjs
      have hjl : j < listed.size := by omega
      simp [hjl] at h0 this
      rw [h0] at this; cases this
  | succ fuel ih =>
    intro u listed a w X ρ hs hu hmem hdown h1 h2 r st hh
    refine ⟨fun hr => all listed a w X ρ (fun j hj => first listed hs hr (j + 1) j (by omega) hj) h1 h2 r st hh, ?_⟩
    intro i hi
    obtain ⟨h0, o, ho, hedge⟩ := mem_ready.1 hi
    have his : i < ops.size := (Array.getElem?_eq_some_iff.1 ho).1
    have hil : i < listed.size := by omega
    have hout : listed.getD i false = false := by simp [hil] at h0 ⊢; exact h0
    obtain ⟨x, hx, hxd, hg, hn⟩ := hat i o (by simpa using ho)
    have hs' : ∀ j, (listed.setIfInBounds i true).getD j false = if j = i then true else listed.getD j false := by
      intro j
      by_cases hji : j = i
      · subst hji; simp [hil]
      · rw [if_neg hji, getD_set_ne false (Ne.symm hji)]
    have anc : ∀ (S : Nat → Prop), (∀ (j : Nat) o, ops[j]? = some o → S j → ∀ e ∈ o.after, Region.binds .any e = true → S e.on) → ∀ (i j : Nat) a b, i < j → xs[i]? = some a → xs[j]? = some b → confl a.r b.r = true → S j → S i := by
      intro S hS i j a b hij ha hb hcf hSj
      have hjl : j < (ancs ops.toList []).length := by
        rw [ancs_length]
        have := (List.getElem?_eq_some_iff.1 hb).1
        simp; omega
      have hm := chkAll_spec (ms0 := []) hc rfl (by simp) i j a.r b.r (ancs ops.toList [])[j] hij (by simp [ha]) (by simp [hb]) (by simp [hjl]) hcf
      exact ancs_spec ops.toList [] S (by simp) (fun j o hj hSj e he hb => hS j o (by simpa using hj) (by simpa using hSj) e he hb) j hjl hSj i hm
    have fits : Fits xs (fun j => listed.getD j false) i x := by
      refine ⟨hx, hout, fun j y hj hy hcf => ?_, fun j y hj hy hcf => ?_⟩
      · have := anc (fun j => listed.getD j false = true ∨ j = i) (fun j o' ho' hS e he hb => by
          rcases hS with hS | rfl
          · exact .inl (hdown j o' ho' hS e he hb)
          · rw [ho] at ho'; injection ho' with ho'; subst ho'
            exact .inl (hedge e he hb)) j i y x hj hy hx hcf (.inr rfl)
        rcases this with h | h
        · exact h
        · omega
      · cases hb : listed.getD j false with
        | false => rfl
        | true =>
          have := anc (fun j => listed.getD j false = true) hdown i j x y hj hx hy hcf hb
          rw [hout] at this; cases this
    unfold wpOp
    rw [ho]
    refine hg _ _ (fun t ht => fits.readE E0 ht) (fun p hp => fits.readH hw' H0 hp) X ρ w a Q _ r (fun p hp => ?_) ?_
    · obtain ⟨n1', n2', n3'⟩ := hn p hp
      refine hh p n1' fun j y hj hy hm => ?_
      by_cases hji : j < i
      · exact n3' j y hji hy hm
      · have hne : j ≠ i := fun e => by subst e; rw [hout] at hj; cases hj
        have := fits.behind j y (by omega) hy (confl_wp_wp n2' hm)
        rw [hj] at this; cases this
    · intro v w' X' ρ' st' hdc hob
      refine ih (u.erase i) _ _ _ X' ρ' (by simpa using hs) ?_ ?_ ?_ ?_ ?_ ?_ (Step.trans st st' C.mem) ?_
      · have := List.length_erase_of_mem (hmem i his hout)
        have := List.length_pos_of_mem (hmem i his hout)
        omega
      · intro j hj hb
        rw [hs'] at hb
        by_cases hji : j = i
        · rw [if_pos hji] at hb; cases hb
        · rw [if_neg hji] at hb
          exact (List.mem_erase_of_ne hji).2 (hmem j hj hb)
      · intro j o' ho' hj e hein hbd
        rw [hs'] at hj ⊢
        by_cases hei : e.on = i
        · rw [if_pos hei]
        · rw [if_neg hei]
          by_cases hji : j = i
          · subst hji; rw [ho] at ho'; injection ho' with ho'; subst ho'
            exact hedge e hein hbd
          · rw [if_neg hji] at hj; exact hdown j o' ho' hj e hein hbd
      · cases o.dst <;> simp [Act.put, h1]
      · cases o.dst <;> simp [Act.put, h2]
      · have := Real.step r st' o.dst hdc (fun t ht => by rw [h1, hN]; exact dstB_lt (hd o (by simpa using Array.mem_of_getElem? ho)) t ht) (H' := updH (selH (fun j => listed.getD j false) 0 xs H0) x.ups) (fun p => ⟨fun hp => ?_, fun hp => updH_out hp⟩)
        · rw [fits.addE E0 hs', fits.addH hw' H0 hs', hxd]; exact this
        · obtain ⟨_, y, hy, e1, e2⟩ := updH_in (H := selH (fun j => listed.getD j false) 0 xs H0) (H' := fun _ => .gone) hp
          rw [e2, ← e1]; exact hob y hy
      · intro q hq hno
        have h3 : q ∉ x.ups.map (·.1) := by
          rw [← hw' x (List.mem_of_getElem? hx)]
          exact hno i x (by rw [hs', if_pos rfl]) hx
        rw [st'.same q h3]
        refine hh q hq fun j y hj hy => hno j y ?_ hy
        rw [hs']; split
        · rfl
        · exact hj
theorem Real.drew {G : Nat → Option (List V)} {X : Nat → Prop} {ρ : Nat → Slot} {w : World} {E : Nat → Option D} {H : Nat → Ob} {tmps : Array Value} (r : Real G X ρ w E H tmps) (n : Nat) : Real G X ρ (w.drewN n) E H tmps := by
  have s : Step (fun _ => False) X ρ w X ρ (w.drewN n) := Step.drew r.mem n
  refine ⟨fun g cs h => VCell.keep (s.keeps r.mem) _ _ (r.glob g cs h), s.mem, fun t d h => ?_, fun p => (r.obs p).keep s r.mem (fun h => h)⟩
  obtain ⟨v, hv, hd⟩ := r.env t d h
  exact ⟨v, hv, DCell.keep (s.keeps r.mem) s.slots _ _ hd⟩
attribute [local semireducible] WpD in
theorem WpD.draw {m N : Nat} {σ : St} {Q : Exit → St → Prop} {id : Nat} {ops : Array Oper} (h : endK σ fun σ => drawR T N ops.toList ops.toList [] σ (drawEnd ops.toList (Q .normal))) : WpD T m N (.region id ops true) σ Q := by
  intro C hN hm a w c
  rw [endK_eq, drawR_eq] at h
  obtain ⟨xs, σ', tr, hJ, hall, hdec⟩ := drawOps_tr ops.toList [] _ h (fun t b ht => by simp [look] at ht)
  obtain ⟨hb, hJ⟩ := hJ
  obtain ⟨he, hc⟩ := endB_eq hb
  · refine wp_region_any T.mixed ?_
    obtain ⟨X, ρ, r, st, hh⟩ := c.real
    have z1 : selE (fun j => (Array.replicate ops.size false).getD j false) 0 xs (look σ.env) = look σ.env := by
      funext t; exact selE_none _ _ _ (fun j x hj _ => by simp [Array.getElem?_replicate]; split <;> rfl)
    have z2 : selH (fun j => (Array.replicate ops.size false).getD j false) 0 xs (obAt σ.heap) = obAt σ.heap := by
      funext t; exact selH_none _ _ _ (fun j x hj _ => by simp [Array.getElem?_replicate]; split <;> rfl)
    have st' := Step.trans st (Step.drew (fp := fun _ => False) r.mem 1) C.mem
    refine draw_any tr he (by simpa using hc) hall hN ?_ ops.size (List.range ops.size) (Array.replicate ops.size false) a _ X ρ (by simp) (by simp) (fun j hj _ => by simpa using hj) ?_ c.size c.defers ?_ st' ?_
    · intro a w X ρ h1 h2 r st hh
      exact ⟨σ', ⟨h1, h2, fun t b ht => by rw [hdec] at ht; simp [look] at ht, X, ρ, r, st, hh⟩, hJ⟩
    · intro j o ho hj
      exfalso
      simp [Array.getElem?_replicate] at hj
      split at hj <;> simp at hj
    · rw [z1, z2]
      exact r.drew 1
    · intro q hq hno
      exact hh q hq
end
end Go.DL

set_option linter.unusedVariables false
set_option linter.unusedSimpArgs false
namespace Go.DL

theorem bl_tri : ∀ a b : List UInt8, (Op.bytesLess a b || decide (a = b)) = !Op.bytesLess b a
  | [], [] => by simp [Op.bytesLess]
  | [], b :: y => by simp [Op.bytesLess]
  | a :: x, [] => by simp [Op.bytesLess]
  | a :: x, b :: y => by
    have ih := bl_tri x y
    have key : a < b ∨ a = b ∨ b < a := by
      rw [UInt8.lt_iff_toNat_lt, UInt8.lt_iff_toNat_lt, ← UInt8.toNat_inj]; omega
    rcases key with h | rfl | h
    · have h1 : ¬ b < a := by rw [UInt8.lt_iff_toNat_lt] at *; omega
      have h2 : ¬ b = a := by intro e; subst e; rw [UInt8.lt_iff_toNat_lt] at h; omega
      simp [Op.bytesLess, h, h1, h2]
    · have h1 : ¬ a < a := by rw [UInt8.lt_iff_toNat_lt]; omega
      simp [Op.bytesLess, h1, ← ih]
    · have h1 : ¬ a < b := by rw [UInt8.lt_iff_toNat_lt] at *; omega
      have h2 : ¬ a = b := by intro e; subst e; rw [UInt8.lt_iff_toNat_lt] at h; omega
      simp [Op.bytesLess, h, h1, h2]
theorem bl_trans : ∀ a b c : List UInt8, Op.bytesLess a b = true → Op.bytesLess b c = true → Op.bytesLess a c = true
  | [], b, c, h1, h2 => by
    cases c with
    | nil => cases b <;> simp [Op.bytesLess] at h2
    | cons => simp [Op.bytesLess]
  | a :: x, [], c, h1, h2 => by simp [Op.bytesLess] at h1
  | a :: x, b :: y, [], h1, h2 => by simp [Op.bytesLess] at h2
  | a :: x, b :: y, c :: z, h1, h2 => by
    simp only [Op.bytesLess, Bool.or_eq_true, decide_eq_true_eq, Bool.and_eq_true, beq_iff_eq] at *
    rcases h1 with h1 | ⟨rfl, h1⟩
    · rcases h2 with h2 | ⟨rfl, h2⟩
      · left; rw [UInt8.lt_iff_toNat_lt] at *; omega
      · exact .inl h1
    · rcases h2 with h2 | ⟨rfl, h2⟩
      · exact .inl h2
      · exact .inr ⟨rfl, bl_trans x y z h1 h2⟩
theorem bl_cmp : ∀ a b : List UInt8, Lib.compareBytes a b = if Op.bytesLess a b then -1 else if a = b then 0 else 1
  | [], [] => by simp [Op.bytesLess, Lib.compareBytes]
  | [], b :: y => by simp [Op.bytesLess, Lib.compareBytes]
  | a :: x, [] => by simp [Op.bytesLess, Lib.compareBytes]
  | a :: x, b :: y => by
    have ih := bl_cmp x y
    have key : a < b ∨ a = b ∨ b < a := by
      rw [UInt8.lt_iff_toNat_lt, UInt8.lt_iff_toNat_lt, ← UInt8.toNat_inj]; omega
    rcases key with h | rfl | h
    · simp [Op.bytesLess, Lib.compareBytes, h]
    · have h1 : ¬ a < a := by rw [UInt8.lt_iff_toNat_lt]; omega
      simp [Op.bytesLess, Lib.compareBytes, h1, ih]
    · have h1 : ¬ a < b := by rw [UInt8.lt_iff_toNat_lt] at *; omega
      have h2 : ¬ a = b := by intro e; subst e; rw [UInt8.lt_iff_toNat_lt] at h; omega
      simp [Op.bytesLess, Lib.compareBytes, h, h1, h2]
theorem toList_inj {a b : ByteArray} : a.toList = b.toList ↔ a = b := by
  rw [Lib.toList_data, Lib.toList_data]
  constructor
  · intro h
    obtain ⟨⟨x⟩⟩ := a; obtain ⟨⟨y⟩⟩ := b
    simp at h; subst h; rfl
  · rintro rfl; rfl
theorem sLe_eq (a b : ByteArray) : (sLt a b || decide (a = b)) = !sLt b a := by
  have := bl_tri a.toList b.toList
  rw [show decide (a = b) = decide (a.toList = b.toList) by rw [decide_eq_decide, toList_inj]]
  exact this
theorem sLt_trans {a b c : ByteArray} (h1 : sLt a b = true) (h2 : sLt b c = true) : sLt a c = true := bl_trans _ _ _ h1 h2
theorem sLt_irrefl (a : ByteArray) : sLt a a = false := by
  have := sLe_eq a a
  simp at this; simpa using this
theorem sLt_asymm {a b : ByteArray} (h : sLt a b = true) : sLt b a = false := by
  have := sLe_eq a b
  rw [h] at this; simpa using this.symm
theorem sLt_tri (a b : ByteArray) : sLt a b = true ∨ a = b ∨ sLt b a = true := by
  have := sLe_eq a b
  cases h : sLt b a with
  | true => exact .inr (.inr rfl)
  | false =>
    rw [h] at this; simp at this
    rcases this with h | h
    · exact .inl h
    · exact .inr (.inl h)
/-- strings.Compare -/
def sCmp (a b : ByteArray) : Int := if sLt a b then -1 else if a = b then 0 else 1
theorem sCmp_eq (a b : ByteArray) : Lib.compareBytes a.data.toList b.data.toList = sCmp a b := by
  rw [bl_cmp, ← Lib.toList_data, ← Lib.toList_data, sCmp]
  simp only [toList_inj]; rfl
theorem sCmp_neg {a b : ByteArray} : sCmp a b < 0 ↔ sLt a b = true := by
  unfold sCmp
  by_cases h : sLt a b = true
  · simp [h]
  · rw [if_neg h]; split <;> simp [h]
theorem sCmp_zero {a b : ByteArray} : sCmp a b = 0 ↔ a = b := by
  unfold sCmp
  by_cases h : sLt a b = true
  · rw [if_pos h]; simp; rintro rfl; rw [sLt_irrefl] at h; cases h
  · rw [if_neg h]; split <;> simp [*]
theorem Br.of_t {b : Bool} {A B : Prop} (h : b = true) (a : A) : Br b A B := Br.mk (fun _ => a) (fun e => by rw [h] at e; cases e)
theorem Br.of_f {b : Bool} {A B : Prop} (h : b = false) (a : B) : Br b A B := Br.mk (fun e => by rw [h] at e; cases e) (fun _ => a)
/-! numbers -/
theorem wr {x : Int} (h1 : -9223372036854775808 ≤ x) (h2 : x ≤ 9223372036854775807) : IntKind.wrap .i64 x = x := by
  simp [IntKind.wrap, IntKind.bits, IntKind.signed]
  omega
theorem wru {x : Int} (h1 : 0 ≤ x) (h2 : x ≤ 18446744073709551615) : IntKind.wrap .u64 x = x := by
  simp [IntKind.wrap, IntKind.bits, IntKind.signed]
  omega
theorem shr1 (x : Int) : x.fdiv (2 ^ min (Int.toNat 1) (IntKind.bits .u64)) = x / 2 := by
  rw [Int.fdiv_eq_ediv_of_nonneg _ (by decide)]; rfl
section
variable {P : Program} {T : Tab P} {o : Oper} {E : Nat → Option D} {H : Nat → Ob} {nx : Nat} {K : KT} {c : Call} {f : FuncId} {fn : Func}
/-- The compiler's own compare of strings. -/
theorem call_cmp {a b : ByteArray} (hf : P.funcs[f]? = some fn) (hb : fn.body = none) (hn : (fn.name == "runtime.NumGoroutine") = false) (h1 : Extern.findNext fn = none) (h2 : Extern.find fn = some Extern.BytealgCompare.compare)
    (ho : o.op = .call c) (hc : c.callee = .value (.func f)) (hargs : evL T E c.args.toList c.argTypes.toList = some [.v (.str a), .v (.str b)]) (hK : K (.v (.int .i64 (sCmp a b))) [] []) : CallOp T o E H nx K := by
  unfold CallOp
  refine ⟨[], Just (.v (.int .i64 (sCmp a b))) [], by simp, does_value fun X ρ w a' r => ⟨.int .i64 (sCmp a b), ?_, rfl⟩, fun d ups ⟨h1, h2⟩ => by subst h1 h2; exact hK⟩
  obtain ⟨hc2, hl2⟩ := evL_cells r hargs
  obtain ⟨u1, u2, hu⟩ : ∃ u1 u2, c.args.toList.map a'.eval = [u1, u2] := by
    rcases h : c.args.toList.map a'.eval with _ | ⟨u1, _ | ⟨u2, _ | ⟨u3, t⟩⟩⟩
    · rw [h] at hl2; simp at hl2
    · rw [h] at hl2; simp at hl2
    · exact ⟨u1, u2, rfl⟩
    · rw [h] at hl2; simp at hl2
  rw [hu] at hc2
  have e1 : u1 = .string a := hc2.1
  have e2 : u2 = .string b := hc2.2.1
  subst e1 e2
  have hargs' : c.args.map a'.eval = #[.string a, .string b] := by rw [← Array.toList_inj, Array.toList_map, hu]
  have hn' : fn.name ≠ "runtime.NumGoroutine" := by simpa using hn
  simp only [execOp, ho, resolve, hc, Act.eval, Deferred.ofValue, Sem.run_bind, Sem.run_pure, Result.andThen_ok, invoke, callFunc, hargs']
  simp [program, Sem.run, hf, hb, hn', h1, h2]
  have e := Lib.run_compareString (P := P) a b w
  unfold Sem.run at e ⊢
  rw [e, sCmp_eq]; rfl
attribute [local semireducible] CallDet in
theorem call_pureD {x : Operand} {ds caps : List D} {vargs : List V} {r0 : V} (hC : CallV T f vargs (· = r0)) (ho : o.op = .call c) (hc : c.callee = .value x) (hx : callee (ev T E 0 x) = some (f, caps)) (hargs : evL T E c.args.toList c.argTypes.toList = some ds) (hv : D.toVs (ds ++ caps) = some vargs)
    (hK : K (.v r0) [] []) : CallDet T o E H nx K := by
  refine ⟨.v r0, [], [], by simp, ?_, hK⟩
  have h := call_pure_does (H := H) hC ho hc hx hargs hv
  intro X ρ w a Q K r hn hK
  refine h X ρ w a Q K r hn ?_
  rintro d ups v w' X' ρ' ⟨e1, r', e2, e3⟩ st hcell hob
  exact hK d ups v w' X' ρ' ⟨by rw [e2, e3], e1⟩ st hcell hob
theorem call_pure1 {x : Operand} {ds caps : List D} {vargs : List V} {r0 : V} (hC : CallV T f vargs (· = r0)) (ho : o.op = .call c) (hc : c.callee = .value x) (hx : callee (ev T E 0 x) = some (f, caps)) (hargs : evL T E c.args.toList c.argTypes.toList = some ds) (hv : D.toVs (ds ++ caps) = some vargs)
    (hK : K (.v r0) [] []) : CallOp T o E H nx K := call_pure hC ho hc hx hargs hv fun r h => by rw [h]; exact hK
theorem call_pureP {p : Prop} {x : Operand} {ds caps : List D} {vargs : List V} {r0 : V} (hC : p → CallV T f vargs (· = r0)) (ho : o.op = .call c) (hc : c.callee = .value x) (hx : callee (ev T E 0 x) = some (f, caps)) (hargs : evL T E c.args.toList c.argTypes.toList = some ds) (hv : D.toVs (ds ++ caps) = some vargs)
    (hp : p) (hK : K (.v r0) [] []) : CallOp T o E H nx K := call_pure1 (hC hp) ho hc hx hargs hv hK
theorem call_purePD {p : Prop} {x : Operand} {ds caps : List D} {vargs : List V} {r0 : V} (hC : p → CallV T f vargs (· = r0)) (ho : o.op = .call c) (hc : c.callee = .value x) (hx : callee (ev T E 0 x) = some (f, caps)) (hargs : evL T E c.args.toList c.argTypes.toList = some ds) (hv : D.toVs (ds ++ caps) = some vargs)
    (hp : p) (hK : K (.v r0) [] []) : CallDet T o E H nx K := call_pureD (hC hp) ho hc hx hargs hv hK
end
end Go.DL

/- DL, part 12: calls that take objects and give a fresh slice; further built-in operations. Own work; no condition. -/
set_option linter.unusedVariables false
set_option linter.unusedSimpArgs false
namespace Go.DL
open Go.RowKit

section
variable {P : Program} {T : Tab P}

attribute [local semireducible] CallOp in
theorem CallOp.std {o : Oper} {E : Nat → Option D} {H : Nat → Ob} {nx : Nat} {K : KT} (h : opD T E H nx o K) : CallOp T o E H nx K := by
  obtain ⟨d, ups, nw, hJ, hnw, hdoes⟩ := opD_does h
  exact ⟨nw, Just d ups, fun p hp => by rw [hnw p hp]; exact Nat.le_refl _, hdoes, fun d' u' ⟨e1, e2⟩ => by subst e1 e2; exact hJ⟩
attribute [local semireducible] CallDet in
theorem CallDet.std {o : Oper} {E : Nat → Option D} {H : Nat → Ob} {nx : Nat} {K : KT} (h : opD T E H nx o fun d ups nw => nwIn nw ups (K d ups nw)) : CallDet T o E H nx K := by
  obtain ⟨d, ups, nw, hJ, hnw, hdoes⟩ := opD_does h
  obtain ⟨hK, hin⟩ := nwIn_out hJ
  exact ⟨d, ups, nw, fun p hp => ⟨by rw [hnw p hp]; exact Nat.le_refl _, hin p hp⟩, hdoes, hK⟩
attribute [local semireducible] CallOp in
theorem CallOp.mk {o : Oper} {E : Nat → Option D} {H : Nat → Ob} {nx : Nat} {K : KT} {nw : List Nat} {R : D → List (Nat × Ob) → Prop} (hn : ∀ p ∈ nw, nx ≤ p) (h : Does T o E H nw R) (hK : ∀ d ups, R d ups → K d ups nw) : CallOp T o E H nx K :=
  ⟨nw, R, hn, h, hK⟩
attribute [local semireducible] CallDet in
theorem CallDet.mk {o : Oper} {E : Nat → Option D} {H : Nat → Ob} {nx : Nat} {K : KT} {nw : List Nat} {d : D} {ups : List (Nat × Ob)} (hn : ∀ p ∈ nw, nx ≤ p ∧ p ∈ ups.map (·.1)) (h : Does T o E H nw (Just d ups)) (hK : K d ups nw) : CallDet T o E H nx K :=
  ⟨d, ups, nw, hn, h, hK⟩

/-! ##### a fresh slice from a call -/
def CallE (T : Tab P) (f : FuncId) (args : List D) (L : List Ob) (sz : Nat) (Q : List (List V) → Prop) : Prop :=
  CallD T f args L fun d L' => ∃ xs, Q xs ∧ ((∃ p rows, d = .arr p 0 xs.length ∧ obAt L' p = .arr sz rows ∧ rows.take xs.length = xs.map fun r => r.map .v) ∨ (xs = [] ∧ d = .v (.sl sz true [])))
theorem ob_ren {X : Nat → Prop} {ρ : Nat → Slot} {w : World} {th : List Nat} {p q : Nat} {x y : Ob} (hp : th[p]? = some q) (hx : obLe th x y) (h : ObOK X ρ w q x) : ObOK X (slotsBy th ρ) w p y := by
  have hs : slotsBy th ρ p = ρ q := by simp [slotsBy, hp]
  cases y with
  | gone => trivial
  | cap q' c' =>
    cases x with
    | gone => exact hx.elim
    | arr sz rows => exact hx.elim
    | iter s n => exact hx.elim
    | cap q1 c1 =>
      obtain ⟨h1, rfl, rfl⟩ := hx
      show slotsBy th ρ q' ≠ .hole ∧ (slotsBy th ρ q' = .null → c1 = 0) ∧ ∀ b s k, slotsBy th ρ q' = .live b s k → k = c1
      rw [slotsBy_lt h1]
      exact h
  | iter s' n' =>
    cases x with
    | gone => exact hx.elim
    | arr sz rows => exact hx.elim
    | cap q1 c1 => exact hx.elim
    | iter s n =>
      obtain ⟨rfl, rfl⟩ := hx
      obtain ⟨b, z, k, h1, h2⟩ := h
      exact ⟨b, z, k, by rw [hs]; exact h1, h2⟩
  | arr sz rows =>
    cases x with
    | gone => exact hx.elim
    | cap q1 c1 => exact hx.elim
    | iter s n => exact hx.elim
    | arr sz' rows' =>
      obtain ⟨rfl, rfl, hall⟩ := hx
      obtain ⟨h0, h1, h2, h3⟩ := h
      have hlenr : ∀ {r : List D}, (renDs (th.getD · 0) r).length = r.length := by
        intro r; induction r with
        | nil => rfl
        | cons d ds ih => simp only [renDs, List.length_cons, ih]
      have hone : ∀ {d : D}, (renD (th.getD · 0) d).one = d.one := by intro d; cases d <;> rfl
      have hones : ∀ {r : List D}, (renDs (th.getD · 0) r).all D.one = r.all D.one := by
        intro r; induction r with
        | nil => rfl
        | cons d ds ih => simp only [renDs, List.all_cons, hone, ih]
      have hrows : ∀ {rows : List (List D)} {vs : List Value}, rows.all (refsLts th.length) = true → DRows X ρ w (rows.map (renDs (th.getD · 0))) vs → DRows X (slotsBy th ρ) w rows vs := by
        intro rows
        induction rows with
        | nil => intro vs _ _; trivial
        | cons r rs ih =>
          intro vs ha hr
          simp only [List.all_cons, Bool.and_eq_true] at ha
          obtain ⟨h1, h2⟩ := renDs_cell th r ha.1 hr.1
          refine ⟨h1, ih ha.2 ?_⟩
          have := hr.2
          rwa [h2] at this
      refine ⟨h0, ?_, by simpa using h2, ?_⟩
      · intro r hr
        have := h1 _ (List.mem_map.2 ⟨r, hr, rfl⟩)
        rw [hlenr, hones] at this
        exact this
      · rw [hs]
        cases hq : ρ q with
        | live b s cap =>
          simp only [hq] at h3 ⊢
          obtain ⟨a1, a2, a3, cs, t, fr, b1, b2, b3, b4⟩ := h3
          exact ⟨a1, by simpa using a2, a3, cs, t, fr, b1, b2, b3, hrows hall b4⟩
        | null => simp only [hq] at h3 ⊢; simpa using h3
        | hole => simp only [hq] at h3
        | dead => simp only [hq] at h3
section
variable {o : Oper} {E : Nat → Option D} {H : Nat → Ob} {nx : Nat} {K : KT} {c : Call} {x : Operand} {f : FuncId} {ds caps args : List D} {L : List Ob} {sz : Nat} {Q : List (List V) → Prop}
attribute [local semireducible] CallD in
theorem call_eat_does (φ : List Nat) (hC : CallE T f args L sz Q) (ho : o.op = .call c) (hc : c.callee = .value x) (hx : callee (ev T E 0 x) = some (f, caps)) (hargs : evL T E c.args.toList c.argTypes.toList = some ds)
    (hren : ds ++ caps = renDs (φ.getD · 0) args) (hlt : refsLts φ.length args = true) (hnd : φ.Nodup) (hlen : φ.length = L.length) (hnx : nx ∉ φ) (hob : ∀ (i : Nat) p, φ[i]? = some p → obLe φ (H p) (obAt L i)) :
    Does T o E H [nx] (fun d ups => ∃ xs, Q xs ∧ d = .arr nx 0 xs.length ∧ ups = φ.map (fun p => (p, Ob.gone)) ++ [(nx, .arr sz (xs.map fun r => r.map .v))]) := by
  intro X ρ w a Q' K' r hn hK'
  have hnx0 : ρ nx = .hole := hn nx (by simp)
  obtain ⟨⟨fn, hf, hb, hname⟩, hC⟩ := hC
  cases hx' : ev T E 0 x with
  | none => rw [hx'] at hx; simp [callee] at hx
  | some dx =>
    rw [hx'] at hx
    obtain ⟨us, hv1, hc1, hl1⟩ := callee_val hx (ev_cell r hx')
    obtain ⟨hc2, hl2⟩ := evL_cells r hargs
    have happ : DCells X ρ w (ds ++ caps) (c.args.toList.map a.eval ++ us) := DCells.append (DCells.more hc2) (by rw [← hl2, List.drop_left]; exact hc1)
    rw [hren] at happ
    obtain ⟨h1, h2⟩ := renDs_cell φ args hlt happ
    have live1 : ∀ p b s k, slotsBy φ ρ p = .live b s k → ∃ q, φ[p]? = some q ∧ ρ q = .live b s k := by
      intro p b s k h
      unfold slotsBy at h
      split at h
      · rename_i q hq; exact ⟨q, hq, h⟩
      · cases h
    have hm1 : Mem X (slotsBy φ ρ) w := by
      refine ⟨r.mem.lt, fun p b s k h => ?_, fun p q b s k s' k' h h' => ?_⟩
      · obtain ⟨q, _, h⟩ := live1 p b s k h; exact r.mem.live q b s k h
      · obtain ⟨u, hu, h⟩ := live1 p b s k h
        obtain ⟨v, hv, h'⟩ := live1 q b s' k' h'
        have := r.mem.inj _ _ b _ _ _ _ h h'
        subst this
        have hp : p < φ.length := (List.getElem?_eq_some_iff.1 hu).1
        exact (List.getElem?_inj hp hnd).1 (hu.trans hv.symm)
    unfold Oper.wp
    rw [run_enter ho hc hv1 hf hb hname]
    refine (hC X (slotsBy φ ρ) w _ hm1 r.glob h1 ?_ ?_ ?_).mono ?_
    · rw [← h2, ← hren]; simp [hl2, hl1]
    · intro p
      cases hp : φ[p]? with
      | none =>
        have : L.length ≤ p := by rw [← hlen]; exact List.getElem?_eq_none_iff.1 hp
        rw [obAt_ge this]; trivial
      | some q => exact ob_ren hp (hob p q hp) (r.obs q)
    · intro p hp
      have : φ[p]? = none := List.getElem?_eq_none (by omega)
      simp [slotsBy, this]
    · rintro e w' ⟨v, d, L', X', ρ1', rfl, ⟨xs, hQ, hres⟩, st, hd, hob', hh'⟩
      -- where the result lies
      obtain ⟨s, hs1, hs2, hs3⟩ : ∃ s : Slot, (∀ b z k, s = .live b z k → ∃ p, ρ1' p = .live b z k) ∧ (∀ ρ' : Nat → Slot, ρ' nx = s → DCell X' ρ' w' (.arr nx 0 xs.length) v) ∧ (∀ ρ' : Nat → Slot, ρ' nx = s → ObOK X' ρ' w' nx (.arr sz (xs.map fun r => r.map .v))) := by
        rcases hres with ⟨p, rows, rfl, hLp, htake⟩ | ⟨rfl, rfl⟩
        · have hobp := hob' p
          rw [hLp] at hobp
          obtain ⟨z0, z1, z2, z3⟩ := hobp
          have hrow : ∀ q ∈ xs.map (fun q => q.map D.v), q.length = sz ∧ q.all D.one = true := by
            intro q hq
            rw [← htake] at hq
            exact z1 q (List.mem_of_mem_take hq)
          have hlx : xs.length ≤ rows.length := by
            have := congrArg List.length htake
            simp at this; omega
          refine ⟨ρ1' p, fun b z k e => ⟨p, e⟩, fun ρ' e => ?_, fun ρ' e => ?_⟩
          · unfold DCell at hd ⊢
            rw [e]; exact hd
          · refine ⟨z0, hrow, by simp; omega, ?_⟩
            rw [e]
            cases hq : ρ1' p with
            | live b z k =>
              simp only [hq] at z3 ⊢
              obtain ⟨a1, a2, a3, cs, t, fr, b1, b2, b3, b4⟩ := z3
              refine ⟨a1, by simp; omega, a3, cs, t, fr, b1, b2, b3, ?_⟩
              have := DRows.take xs.length b4
              rw [htake] at this
              exact VRows.toD (sz := sz) (fun q hq => by
                have := (hrow _ (List.mem_map.2 ⟨q, hq, rfl⟩)).1
                simpa using this) (DRows.toV this)
            | null =>
              simp only [hq] at z3 ⊢
              subst z3
              simp at hlx
              simp [hlx]
            | hole => simp only [hq] at z3
            | dead => simp only [hq] at z3
        · refine ⟨.null, by simp, fun ρ' e => ?_, fun ρ' e => ?_⟩
          · unfold DCell VCell at hd
            obtain ⟨z0, _, _, hz, _⟩ := hd
            obtain ⟨A, hA⟩ := hz rfl
            unfold DCell
            rw [e]
            exact ⟨⟨A, hA⟩, rfl, rfl⟩
          · unfold DCell VCell at hd
            obtain ⟨z0, _⟩ := hd
            refine ⟨z0, by simp, by simp, ?_⟩
            rw [e]; rfl
      let ρ' : Nat → Slot := fun q => if q = nx then s else if q ∈ φ then .dead else ρ q
      have hrn : ρ' nx = s := by simp [ρ']
      have out : ∀ q, q ≠ nx → q ∉ φ → ρ' q = ρ q := fun q h1 h2 => by simp [ρ', h1, h2]
      have dd : ∀ q, q ≠ nx → q ∈ φ → ρ' q = .dead := fun q h1 h2 => by simp [ρ', h1, h2]
      have inφ : ∀ {p b z k}, slotsBy φ ρ p = .live b z k → ∃ q ∈ φ, ρ q = .live b z k := fun h => by
        obtain ⟨q, hq, h⟩ := live1 _ _ _ _ h
        exact ⟨q, List.mem_of_getElem? hq, h⟩
      have src' : ∀ {b z k}, s = .live b z k → (∃ q ∈ φ, ∃ z' k', ρ q = .live b z' k') ∨ w.heap.size ≤ b := by
        intro b z k h
        obtain ⟨p, hp⟩ := hs1 b z k h
        rcases st.src p b z k hp with ⟨q, z', k', hq⟩ | h
        · obtain ⟨u, hu, hu'⟩ := inφ hq
          exact .inl ⟨u, hu, z', k', hu'⟩
        · exact .inr h
      have ups_mem : ∀ q, (q ∈ (φ.map (fun p => (p, Ob.gone)) ++ [(nx, Ob.arr sz (xs.map fun r => r.map .v))]).map (·.1)) ↔ (q ∈ φ ∨ q = nx) := by
        intro q; simp
      refine hK' _ _ v w' X' ρ' ⟨xs, hQ, rfl, rfl⟩ ?_ (hs2 ρ' hrn) ?_
      · refine ⟨st.os, st.tape, st.output, st.size, ?_, ?_, ?_, ?_, st.xout, ?_, ⟨st.mem.lt, ?_, ?_⟩⟩
        · intro b hb hno
          refine st.block b hb fun p z k _ e => ?_
          obtain ⟨q, hq, hq'⟩ := inφ e
          exact hno q z k ((ups_mem q).2 (.inl hq)) hq'
        · intro q
          by_cases h1 : q = nx
          · subst h1; exact .inl hnx0
          · by_cases h2 : q ∈ φ
            · exact .inr (.inr (dd q h1 h2))
            · exact .inr (.inl (out q h1 h2))
        · intro q hq
          rw [ups_mem] at hq
          exact out q (fun e => hq (.inr e)) (fun e => hq (.inl e))
        · intro b hX
          rcases st.xin b hX with h | ⟨p, z, k, _, h⟩
          · exact .inl h
          · obtain ⟨q, hq, hq'⟩ := inφ h
            exact .inr ⟨q, z, k, (ups_mem q).2 (.inl hq), hq'⟩
        · intro q b z k h
          by_cases h1 : q = nx
          · subst h1
            rw [hrn] at h
            rcases src' h with ⟨u, _, z', k', hu⟩ | h
            · exact .inl ⟨u, z', k', hu⟩
            · exact .inr h
          · by_cases h2 : q ∈ φ
            · rw [dd q h1 h2] at h; cases h
            · rw [out q h1 h2] at h; exact .inl ⟨q, z, k, h⟩
        · intro q b z k h
          by_cases h1 : q = nx
          · subst h1
            rw [hrn] at h
            obtain ⟨p, hp⟩ := hs1 b z k h
            exact st.mem.live p b z k hp
          · by_cases h2 : q ∈ φ
            · rw [dd q h1 h2] at h; cases h
            · rw [out q h1 h2] at h
              rcases st.xin b (r.mem.live q b z k h) with g | ⟨p, z', k', _, g⟩
              · exact g
              · obtain ⟨u, hu, hu'⟩ := inφ g
                exact absurd (r.mem.inj _ _ b _ _ _ _ h hu' ▸ hu) h2
        · have one : ∀ q b z k z' k', q ≠ nx → ρ' q = .live b z k → s = .live b z' k' → False := by
            intro q b z k z' k' h1 h hs
            by_cases h2 : q ∈ φ
            · rw [dd q h1 h2] at h; cases h
            · rw [out q h1 h2] at h
              rcases src' hs with ⟨u, hu, z2, k2, hu'⟩ | g
              · exact h2 (r.mem.inj _ _ b _ _ _ _ h hu' ▸ hu)
              · have := r.mem.lt b (r.mem.live q b z k h); omega
          intro p q b z k z' k' h h'
          by_cases hp : p = nx
          · by_cases hq : q = nx
            · rw [hp, hq]
            · subst hp; rw [hrn] at h; exact (one q b z' k' z k hq h' h).elim
          · by_cases hq : q = nx
            · subst hq; rw [hrn] at h'; exact (one p b z k z' k' hp h h').elim
            · have g : ∀ u z k, u ≠ nx → ρ' u = .live b z k → ρ u = .live b z k := by
                intro u z k hu h
                by_cases h2 : u ∈ φ
                · rw [dd u hu h2] at h; cases h
                · rwa [out u hu h2] at h
              exact r.mem.inj _ _ b _ _ _ _ (g p z k hp h) (g q z' k' hq h')
      · intro y hy
        rcases List.mem_append.1 hy with hy | hy
        · obtain ⟨p, _, rfl⟩ := List.mem_map.1 hy; trivial
        · simp at hy; subst hy; exact hs3 ρ' hrn
theorem call_eat (φ : List Nat) (hC : CallE T f args L sz Q) (ho : o.op = .call c) (hc : c.callee = .value x) (hx : callee (ev T E 0 x) = some (f, caps)) (hargs : evL T E c.args.toList c.argTypes.toList = some ds)
    (hren : ds ++ caps = renDs (φ.getD · 0) args) (hlt : refsLts φ.length args = true) (hnd : φ.Nodup) (hlen : φ.length = L.length) (hnx : nx ∉ φ) (hob : ∀ (i : Nat) p, φ[i]? = some p → obLe φ (H p) (obAt L i))
    (hK : ∀ xs, Q xs → K (.arr nx 0 xs.length) (φ.map (fun p => (p, Ob.gone)) ++ [(nx, .arr sz (xs.map fun r => r.map .v))]) [nx]) : CallOp T o E H nx K :=
  CallOp.mk (nw := [nx]) (by simp) (call_eat_does φ hC ho hc hx hargs hren hlt hnd hlen hnx hob) (fun d ups ⟨xs, q, e1, e2⟩ => by subst e1 e2; exact hK xs q)
theorem call_eatD (φ : List Nat) {xs0 : List (List V)} (hC : CallE T f args L sz (· = xs0)) (ho : o.op = .call c) (hc : c.callee = .value x) (hx : callee (ev T E 0 x) = some (f, caps)) (hargs : evL T E c.args.toList c.argTypes.toList = some ds)
    (hren : ds ++ caps = renDs (φ.getD · 0) args) (hlt : refsLts φ.length args = true) (hnd : φ.Nodup) (hlen : φ.length = L.length) (hnx : nx ∉ φ) (hob : ∀ (i : Nat) p, φ[i]? = some p → obLe φ (H p) (obAt L i))
    (hK : K (.arr nx 0 xs0.length) (φ.map (fun p => (p, Ob.gone)) ++ [(nx, .arr sz (xs0.map fun r => r.map .v))]) [nx]) : CallDet T o E H nx K := by
  refine CallDet.mk (nw := [nx]) (by simp) ?_ hK
  intro X ρ w a Q' K' r hn hK'
  refine call_eat_does φ hC ho hc hx hargs hren hlt hnd hlen hnx hob X ρ w a Q' K' r hn ?_
  rintro d ups v w' X' ρ' ⟨xs, rfl, e1, e2⟩ st hcell hobs
  exact hK' d ups v w' X' ρ' ⟨e1, e2⟩ st hcell hobs

end
end
end Go.DL

/- DL, part 13: further operations: nil of a slice, cap, copy, append of make, overlaps. Own work; no condition. -/
set_option linter.unusedVariables false
set_option linter.unusedSimpArgs false
namespace Go.DL
open Go.RowKit

section
variable {P : Program} {T : Tab P} {o : Oper} {E : Nat → Option D} {H : Nat → Ob} {nx : Nat} {K : KT}

/-! ##### is it nil? -/
def lenD (H : Nat → Ob) : Option D → Option Nat
  | some (.v (.sl _ _ xs)) => some xs.length
  | some (.arr p _ n) => match H p with | .arr _ _ => some n | _ => none
  | _ => none
theorem slice_val {X : Nat → Prop} {ρ : Nat → Slot} {w : World} {d : D} {n : Nat} {u : Value} (h : lenD H (some d) = some n) (hob : ∀ p, ObOK X ρ w p (H p)) (hd : DCell X ρ w d u) : ∃ A c, u = .slice A n c ∧ (0 < n → A.isSome = true) := by
  unfold lenD at h
  split at h
  · rename_i d0 sz z xs heq
    injection heq with heq; subst heq
    injection h with h; subst h
    unfold DCell VCell at hd
    obtain ⟨_, _, _, _, A, c, hv, _, _, hne⟩ := hd
    refine ⟨A, c, hv, fun hpos => ?_⟩
    obtain ⟨b, off, _, _, _, hA, _⟩ := hne (by intro e; subst e; simp at hpos)
    simp [hA]
  · rename_i d0 p o' n' heq
    injection heq with heq; subst heq
    have ho := hob p
    split at h
    · rename_i sz rows hp
      injection h with h; subst h
      rw [hp] at ho
      obtain ⟨_, _, _, ho⟩ := ho
      unfold DCell at hd
      cases hq : ρ p with
      | hole => simp only [hq] at hd
      | dead => simp only [hq] at ho
      | null =>
        simp only [hq] at hd
        obtain ⟨⟨A, hv⟩, rfl, rfl⟩ := hd
        exact ⟨A, 0, hv, fun h => absurd h (Nat.lt_irrefl _)⟩
      | live b s cap =>
        simp only [hq] at hd
        obtain ⟨h1, h2, h3⟩ := hd
        by_cases hc : o' < cap
        · exact ⟨_, _, h2 hc, fun _ => rfl⟩
        · obtain ⟨A, hA⟩ := h3 (by omega)
          have : n' = 0 := by omega
          subst this
          exact ⟨some A, 0, hA, fun _ => rfl⟩
    · cases h
  · cases h
theorem op_isnil {t tt : Nat} {x : Operand} {n e : Nat} (ho : o.op = .binOp .eql t x (.const (.slice none 0 0)) tt) (hs : (T.ty t).d = .slice e) (hx : lenD H (ev T E t x) = some n)
    (hK : ∀ b, (b = true → n = 0) → K (.v (.bool b)) [] []) : CallOp T o E H nx K := by
  refine CallOp.mk (nw := []) (R := fun d ups => ups = [] ∧ ∃ b, d = .v (.bool b) ∧ (b = true → n = 0)) (by simp) ?_ (fun d ups ⟨h1, b, h2, q⟩ => by subst h1 h2; exact hK b q)
  intro X ρ w a Q' K' r _ hK'
  cases hx' : ev T E t x with
  | none => rw [hx'] at hx; simp [lenD] at hx
  | some d =>
    rw [hx'] at hx
    obtain ⟨A, c, hv, hA⟩ := slice_val hx r.obs (ev_cell r hx')
    have hrun : (execOp a.eval o).run P w = .ok (.value (.bool A.isNone)) w := by
      simp only [execOp, ho, hv, Sem.run_bind]
      rw [show a.eval (.const (.slice none 0 0)) = .slice none 0 0 from rfl]
      rw [show (eqGuard .eql t x (.const (.slice none 0 0)) (.slice A n c) (.slice none 0 0)).run P w = .ok () w from rfl]
      simp [binOp, run_equal_slice_nil w t e A n c (T.slice hs)]
    unfold Oper.wp
    rw [hrun]
    refine hK' (.v (.bool A.isNone)) [] _ w X ρ ⟨rfl, _, rfl, fun hb => ?_⟩ (Step.refl r.mem) rfl (by simp)
    cases A with
    | some a => simp at hb
    | none =>
      rcases Nat.eq_zero_or_pos n with h | h
      · exact h
      · have := hA h; simp at this

/-! ##### cap, and a slice up to it -/
theorem args1 {c : Call} {x : Operand} {t : Nat} (ha : c.args.toList = [x]) (ht : c.argTypes.toList = [t]) (a : Act) : c.args.map a.eval = #[a.eval x] ∧ c.argTypes = #[t] := by
  constructor
  · rw [← Array.toList_inj]; simp [ha]
  · rw [← Array.toList_inj]; simp [ht]
theorem args2 {c : Call} {x y : Operand} {t u : Nat} (ha : c.args.toList = [x, y]) (ht : c.argTypes.toList = [t, u]) (a : Act) : c.args.map a.eval = #[a.eval x, a.eval y] ∧ c.argTypes = #[t, u] := by
  constructor
  · rw [← Array.toList_inj]; simp [ha]
  · rw [← Array.toList_inj]; simp [ht]
theorem op_cap {c : Call} {x : Operand} {t e p n sz : Nat} {rows : List (List D)} (ho : o.op = .call c) (hc : c.callee = .builtin .cap) (ha : c.args.toList = [x]) (ht : c.argTypes.toList = [t]) (hs : (T.ty t).d = .slice e) (hx : ev T E t x = some (.arr p 0 n)) (hp : H p = .arr sz rows)
    (hK : ∀ k : Nat, rows.length ≤ k → n ≤ k → k ≤ capMax → K (.v (.int .i64 k)) [(nx, .cap p k)] []) : CallOp T o E H nx K := by
  refine CallOp.mk (nw := []) (R := fun d ups => ∃ k : Nat, rows.length ≤ k ∧ n ≤ k ∧ k ≤ capMax ∧ d = .v (.int .i64 k) ∧ ups = [(nx, .cap p k)]) (by simp) ?_ (fun d ups ⟨k, h1, h2, h3, h4, h5⟩ => by subst h4 h5; exact hK k h1 h2 h3)
  intro X ρ w a Q' K' r _ hK'
  have hv := ev_cell r hx
  have hob := r.obs p
  rw [hp] at hob
  obtain ⟨h0, hr, hm, hob⟩ := hob
  unfold DCell at hv
  obtain ⟨e1, e2⟩ := args1 ha ht a
  have fin : ∀ (A : Option Addr) (k : Nat), a.eval x = .slice A n k → rows.length ≤ k → n ≤ k → k ≤ capMax → ρ p ≠ .hole → (ρ p = .null → k = 0) → (∀ b s k', ρ p = .live b s k' → k' = k) → o.wp P a w K' Q' := by
    intro A k he h1 h2 h3 h4 h5 h6
    have hrun : (execOp a.eval o).run P w = .ok (.value (.int .i64 k)) w := by
      simp [execOp, ho, resolve, hc, invoke, builtin, e1, e2, Builtin.cap_, run_underlying (T.slice hs), he, goInt]
    unfold Oper.wp
    rw [hrun]
    refine hK' (.v (.int .i64 k)) [(nx, .cap p k)] _ w X ρ ⟨k, h1, h2, h3, rfl, rfl⟩ (Step.refl r.mem) rfl ?_
    intro y hy
    simp at hy; subst hy
    exact ⟨h4, h5, h6⟩
  cases hq : ρ p with
  | hole => simp only [hq] at hv
  | dead => simp only [hq] at hob
  | null =>
    simp only [hq] at hv hob
    obtain ⟨⟨A, hv⟩, _, rfl⟩ := hv
    subst hob
    exact fin A 0 hv (by simp) (Nat.le_refl _) (by simp [capMax]) (by rw [hq]; simp) (fun _ => rfl) (fun b s k' h => by rw [hq] at h; cases h)
  | live b s cap =>
    simp only [hq] at hv hob
    obtain ⟨rfl, hrc, hcm, _⟩ := hob
    obtain ⟨h4, h5, h6⟩ := hv
    by_cases hcap : 0 < cap
    · refine fin _ cap (by rw [h5 hcap]; rfl) hrc (by omega) hcm (by rw [hq]; simp) (fun h => by rw [hq] at h; cases h) (fun b' s' k' h => by rw [hq] at h; injection h with _ _ h; exact h.symm)
    · obtain ⟨A, hA⟩ := h6 (by omega)
      have hn : n = 0 := by omega
      subst hn
      have hc0 : cap = 0 := by omega
      subst hc0
      exact fin (some A) 0 hA hrc (Nat.le_refl _) hcm (by rw [hq]; simp) (fun _ => rfl) (fun b' s' k' h => by rw [hq] at h; injection h with _ _ h; exact h.symm)
theorem op_slice_cap {x : Operand} {lo hi : Option Operand} {t e p n sz q k : Nat} {rows : List (List D)} (ho : o.op = .slice t x lo hi none) (hs : (T.ty t).d = .slice e) (hx : ev T E t x = some (.arr p 0 n)) (hp : H p = .arr sz rows) (hsz : (T.ty e).size = sz) (hq : H q = .cap p k)
    (h : boundK (optE T E hi) n (fun h => boundK (optE T E lo) 0 (fun l => 0 ≤ l ∧ l ≤ h ∧ h ≤ k ∧ K (.arr p l.toNat (h.toNat - l.toNat)) [] []) lo) hi) : CallOp T o E H nx K := by
  obtain ⟨hb, h, bh⟩ := boundK_val (H := H) h
  obtain ⟨lb, h, bl⟩ := boundK_val (H := H) h
  obtain ⟨h0, h1, h2, hJ⟩ := h
  refine CallOp.mk (nw := []) (R := Just (.arr p lb.toNat (hb.toNat - lb.toNat)) []) (by simp) (does_value fun X ρ w a r => ?_) (fun d ups ⟨e1, e2⟩ => by subst e1 e2; exact hJ)
  have hv := ev_cell r hx
  have hob := r.obs p
  have hgh := r.obs q
  rw [hp] at hob
  rw [hq] at hgh
  obtain ⟨g1, g2, g3⟩ := hgh
  obtain ⟨hz0, _, _, hob⟩ := hob
  unfold DCell at hv
  have run : ∀ (A : Option Addr) (cap : Nat), hb.toNat ≤ cap → a.eval x = .slice A n cap → (execOp a.eval o).run P w = .ok (.value (.slice (if cap = lb.toNat then A else A.map (·.add (lb.toNat * sz))) (hb.toNat - lb.toNat) (cap - lb.toNat))) w := by
    intro A cap hcap he
    simp only [execOp, ho, he, Sem.run_bind, Instr.sliceAt, run_underlying (T.slice hs), Result.andThen_ok, Instr.slice, Option.map_none]
    rw [run_sliceBounds (bl X ρ w a r) (bh X ρ w a r) h0 h1 (by omega)]
    simp only [Result.andThen_ok, Sem.run_bind, T.run_size (by omega : 0 < (T.ty e).size), hsz, Sem.run_pure]
  cases hρ : ρ p with
  | hole => exact absurd hρ g1
  | dead => simp only [hρ] at hob
  | null =>
    have hk := g2 hρ
    simp only [hρ] at hv hob
    obtain ⟨⟨A, hv⟩, _, rfl⟩ := hv
    refine ⟨_, run A 0 (by omega) hv, ?_⟩
    have h3 : hb.toNat = 0 := by omega
    have h4 : lb.toNat = 0 := by omega
    unfold DCell
    simp [hρ, h3, h4]
  | live b s cap =>
    have hk := g3 b s cap hρ
    subst hk
    simp only [hρ] at hv hob
    obtain ⟨rfl, hrc, _⟩ := hob
    obtain ⟨hv1, hv2, hv3⟩ := hv
    by_cases hoc : 0 < cap
    · refine ⟨_, run _ _ (by omega) (hv2 hoc), ?_⟩
      unfold DCell
      simp only [hρ]
      refine ⟨by omega, fun hlt => ?_, fun heq => ?_⟩
      · rw [if_neg (by omega)]
        simp only [Option.map_some, addr_add, Nat.zero_mul, Nat.zero_add, Nat.sub_zero]
      · have h5 : hb.toNat - lb.toNat = 0 := by omega
        have h6 : cap - 0 - lb.toNat = 0 := by omega
        rw [h5, h6, if_pos (by omega)]
        exact ⟨_, rfl⟩
    · obtain ⟨A, hA⟩ := hv3 (by omega)
      have h3 : hb.toNat = 0 := by omega
      have h4 : lb.toNat = 0 := by omega
      have hn : n = 0 := by omega
      subst hn
      refine ⟨_, run _ 0 (by omega) hA, ?_⟩
      unfold DCell
      simp only [hρ]
      refine ⟨by omega, fun hlt => by omega, fun heq => ?_⟩
      rw [h3, h4, if_pos rfl]
      exact ⟨_, rfl⟩
end
end Go.DL

/- DL, part 14: copy, append of make, overlaps. Own work; no condition. -/
set_option linter.unusedVariables false
set_option linter.unusedSimpArgs false
namespace Go.DL
open Go.RowKit

section
variable {P : Program} {T : Tab P} {o : Oper} {E : Nat → Option D} {H : Nat → Ob} {nx : Nat} {K : KT}

/-! ##### copy -/
/-- The first m rows of a source. -/
def srcM (H : Nat → Ob) (sz m : Nat) : Option D → Option (List (List D))
  | some (.v (.sl s _ xs)) => bif Nat.beq s sz then some ((xs.take m).map fun r => r.map .v) else none
  | some (.arr p o _) => match H p with
    | .arr s rows => bif Nat.beq s sz then some ((rows.drop o).take m) else none
    | _ => none
  | _ => none
theorem srcM_ok {sz m n ts e : Nat} {d : D} {rows : List (List D)} {X : Nat → Prop} {ρ : Nat → Slot} {w : World} {u : Value} (hts : P.underlying ts = some (.slice e)) (h : srcM H sz m (some d) = some rows) (hl : lenD H (some d) = some n) (hm : m ≤ n) (hrl : rows.length = m) (hob : ∀ p, ObOK X ρ w p (H p)) (hd : DCell X ρ w d u) :
    (∀ r ∈ rows, r.length = sz ∧ r.all D.one = true) ∧ ∃ A c cells, u = .slice A n c ∧ (Builtin.firstCells sz m (.slice A n c)).run P w = .ok cells.toArray w ∧ (∀ v ∈ cells, v.oneCell' = true) ∧ DCells X ρ w rows.flatten cells ∧ cells.length = m * sz := by
  have fin : ∀ (A : Option Addr) (c : Nat), (∀ r ∈ rows, r.length = sz ∧ r.all D.one = true) → (rows ≠ [] → ∃ b off arr ty fr, A = some ⟨b, off, none⟩ ∧ w.heap[b]? = some (.cells arr ty fr) ∧ DRows X ρ w rows (arr.toList.drop off)) → u = .slice A n c →
      ∃ A c cells, u = .slice A n c ∧ (Builtin.firstCells sz m (.slice A n c)).run P w = .ok cells.toArray w ∧ (∀ v ∈ cells, v.oneCell' = true) ∧ DCells X ρ w rows.flatten cells ∧ cells.length = m * sz := by
    intro A c h1 h2 hu
    obtain ⟨cells, hsrc, hdc, hcl⟩ := src_of_cells (P := P) (t := ts) (c := c) hts hrl.symm h1 h2
    refine ⟨A, c, cells, hu, ?_, hsrc.one, hdc, by rw [hcl, hrl]⟩
    have := hsrc.cells
    rw [hrl] at this
    cases A <;> exact this
  unfold srcM at h
  split at h
  · rename_i s z xs heq
    injection heq with heq; subst heq
    simp only [lenD] at hl
    injection hl with hl; subst hl
    cases hb : Nat.beq s sz with
    | false => simp [hb] at h
    | true =>
      have hs := Nat.eq_of_beq_eq_true hb
      subst hs
      simp [hb] at h; subst h
      unfold DCell VCell at hd
      obtain ⟨h0, hr, hm', hz, A, c, hv, hlc, hc, hne⟩ := hd
      have hrow : ∀ r ∈ (xs.take m).map (fun r => r.map D.v), r.length = s ∧ r.all D.one = true := by
        intro r hr'
        obtain ⟨q, hq, rfl⟩ := List.mem_map.1 hr'
        exact ⟨by simpa using (hr q (List.mem_of_mem_take hq)).1, all_v (hr q (List.mem_of_mem_take hq)).2⟩
      have hrow' : ∀ r ∈ List.take m (xs.map fun r => r.map D.v), r.length = s ∧ r.all D.one = true := by rw [← List.map_take]; exact hrow
      refine ⟨hrow', fin A c hrow' (fun hn => ?_) hv⟩
      obtain ⟨b, off, cs, ty, fr, hA, hX, hh, hR⟩ := hne (by intro e; rw [e] at hn; simp at hn)
      have := VRows.toD (X := X) (ρ := ρ) (w := w) (fun r hm => (hr r hm).1) hR
      have := DRows.take m this
      exact ⟨b, off, cs, ty, fr, hA, hh, this⟩
  · rename_i p o' n' heq
    injection heq with heq; subst heq
    split at h
    · rename_i s rows' hp
      simp only [lenD, hp] at hl
      injection hl with hl; subst hl
      cases hb : Nat.beq s sz with
      | false => simp [hb] at h
      | true =>
        have hs := Nat.eq_of_beq_eq_true hb
        subst hs
        simp [hb] at h; subst h
        have ho := hob p
        rw [hp] at ho
        obtain ⟨h0, hr, hm', ho⟩ := ho
        have hrow : ∀ r ∈ (rows'.drop o').take m, r.length = s ∧ r.all D.one = true := fun r hr' => hr r (List.mem_of_mem_drop (List.mem_of_mem_take hr'))
        refine ⟨hrow, ?_⟩
        unfold DCell at hd
        cases hq : ρ p with
        | hole => simp only [hq] at hd
        | dead => simp only [hq] at ho
        | null =>
          simp only [hq] at hd ho
          obtain ⟨⟨A, hv⟩, rfl, rfl⟩ := hd
          subst ho
          exact fin A 0 hrow (fun hn => by simp at hn) hv
        | live b z cap =>
          simp only [hq] at hd ho
          obtain ⟨rfl, h2, h3, cs, ty, fr, hh, hcs, hf, hrr⟩ := ho
          obtain ⟨h4, h5, h6⟩ := hd
          by_cases hc : o' < cap
          · exact fin _ _ hrow (fun hn => ⟨b, o' * z, cs, ty, fr, rfl, hh, DRows.take m (DRows.drop o' (fun r hr' => (hr r hr').1) hrr)⟩) (h5 hc)
          · obtain ⟨A, hA⟩ := h6 (by omega)
            have hn0 : n' = 0 := by omega
            subst hn0
            have hm0 : m = 0 := by omega
            subst hm0
            exact fin (some A) 0 hrow (fun hn => by simp at hn) hA
    · cases h
  · cases h
theorem op_copy_does {c : Call} {x y : Operand} {t ts e e' p o' n n2 sz : Nat} {rows news : List (List D)} (ho : o.op = .call c) (hc : c.callee = .builtin .copy) (ha : c.args.toList = [x, y]) (ht : c.argTypes.toList = [t, ts]) (hs : (T.ty t).d = .slice e) (hts : (T.ty ts).d = .slice e')
    (hx : ev T E t x = some (.arr p o' n)) (hp : H p = .arr sz rows) (hsz : (T.ty e).size = sz) (hl : lenD H (ev T E ts y) = some n2) (hsrc : srcM H sz (min n2 n) (ev T E ts y) = some news)
    (hnl : news.length = min n2 n) (hol : o' ≤ rows.length) (hmax : o' + min n2 n ≤ lenMax) : Does T o E H [] (Just (.v (.int .i64 (min n2 n : Nat))) [(p, .arr sz (rows.take o' ++ news ++ rows.drop (o' + min n2 n)))]) := by
  intro X ρ w a Q' K' r _ hK'
  have hv := ev_cell r hx
  have hob := r.obs p
  rw [hp] at hob
  obtain ⟨h0, hr, hm, hob⟩ := hob
  unfold DCell at hv
  obtain ⟨e1, e2⟩ := args2 ha ht a
  cases hy : ev T E ts y with
  | none => rw [hy] at hl; simp [lenD] at hl
  | some dy =>
    rw [hy] at hl hsrc
    obtain ⟨hrow, A2, c2, cells, hu, hfc, hone, hdc, hcl⟩ := srcM_ok (T.slice hts) hsrc hl (Nat.min_le_left _ _) hnl r.obs (ev_cell r hy)
    have hmin : Nat.min n2 n = min n2 n := rfl
    unfold Oper.wp
    by_cases hm0 : min n2 n = 0
    · have hcells : cells = [] := by
        rw [hm0] at hcl; simpa using hcl
      have hnews : news = [] := by
        rw [hm0] at hnl; simpa using hnl
      have hrun : ∀ (A : Option Addr) (k : Nat), a.eval x = .slice A n k → (execOp a.eval o).run P w = .ok (.value (.int .i64 (min n2 n : Nat))) w := by
        intro A k he
        rw [hcells, hm0] at hfc
        cases A <;> simp [execOp, ho, resolve, hc, invoke, builtin, e1, e2, Builtin.copy_, run_underlying (T.slice hs), he, hu, Builtin.lenOf, T.run_size (by omega : 0 < (T.ty e).size), hsz, hmin, hm0, hfc, storeCells, goInt]
      have st : Step (fun q => q ∈ [(p, Ob.arr sz (rows.take o' ++ news ++ rows.drop (o' + min n2 n)))].map (·.1)) X ρ w X ρ w := Step.refl r.mem
      have hobj : ObOK X ρ w p (.arr sz (rows.take o' ++ news ++ rows.drop (o' + min n2 n))) := by
        rw [hm0, hnews]
        simp only [List.append_nil, Nat.add_zero, List.take_append_drop]
        exact ⟨h0, hr, hm, hob⟩
      have go : ∀ (A : Option Addr) (k : Nat), a.eval x = .slice A n k → o.upon P a K' Q' ((execOp a.eval o).run P w) := by
        intro A k he
        rw [hrun A k he]
        exact hK' _ _ _ w X ρ ⟨rfl, rfl⟩ st rfl (by intro z hz; simp at hz; subst hz; simpa using hobj)
      cases hq : ρ p with
      | hole => simp only [hq] at hv
      | dead => simp only [hq] at hob
      | null =>
        simp only [hq] at hv
        obtain ⟨⟨A, hv⟩, rfl, rfl⟩ := hv
        exact go A 0 hv
      | live b s cap =>
        simp only [hq] at hv
        obtain ⟨h4, h5, h6⟩ := hv
        by_cases hcap : o' < cap
        · exact go _ _ (h5 hcap)
        · obtain ⟨A, hA⟩ := h6 (by omega)
          have hn : n = 0 := by omega
          subst hn
          exact go (some A) 0 hA
    · cases hq : ρ p with
      | hole => simp only [hq] at hv
      | dead => simp only [hq] at hob
      | null =>
        simp only [hq] at hv
        omega
      | live b s cap =>
        simp only [hq] at hv hob
        obtain ⟨rfl, hrc, hcm, arr, ty, fr, hh, hcs, hf, hrr⟩ := hob
        obtain ⟨h4, h5, h6⟩ := hv
        have hcap : o' < cap := by omega
        have hbound : o' * s + (min n2 n) * s ≤ arr.size := by
          rw [hcs, ← Nat.add_mul]; exact Nat.mul_le_mul_right _ (by omega)
        have hst := run_storeCells_ok (P := P) b (o' * s) ty fr cells 0 arr w hh (by rw [hcl]; omega) (fun k hk => hf k (Nat.le_of_lt hk)) hone
        have hrun : (execOp a.eval o).run P w = .ok (.value (.int .i64 (min n2 n : Nat))) (w.setRow b (splice arr.toList (o' * s + 0) cells).toArray) := by
          simp [execOp, ho, resolve, hc, invoke, builtin, e1, e2, Builtin.copy_, run_underlying (T.slice hs), h5 hcap, hu, Builtin.lenOf, T.run_size (by omega : 0 < (T.ty e).size), hsz, hmin, hfc, hst, goInt]
        rw [hrun]
        have hsl : (splice arr.toList (o' * s + 0) cells).length = arr.size := by
          rw [splice_length (by simp [hcl]; omega)]; simp
        refine hK' _ _ _ _ X ρ ⟨rfl, rfl⟩ (by simpa using Step.write r.mem hq _) rfl ?_
        intro z hz
        simp at hz; subst hz
        simp only [List.append_assoc]
        refine ObOK.write r.mem hq hh hf h0 hcm hcs hsl ?_ ?_ ?_ ?_
        · intro q hq'
          rcases List.mem_append.1 hq' with h | h
          · exact hr q (List.mem_of_mem_take h)
          · rcases List.mem_append.1 h with h | h
            · exact hrow q h
            · exact hr q (List.mem_of_mem_drop h)
        · simp [hnl]; omega
        · simp [hnl]; simp [lenMax] at hm hmax ⊢; omega
        · -- the rows as they lie now
          have hrl : ∀ q ∈ rows, q.length = s := fun q hq => (hr q hq).1
          have f0 := DRows.to_cells (sz := s) hrr
          have f1 : DCells X ρ w (rows.take o').flatten arr.toList := DRows.to_cells (sz := s) (DRows.take o' hrr)
          have l1 : (rows.take o').flatten.length = o' * s := by
            rw [flat_len (sz := s) (fun q hq => hrl q (List.mem_of_mem_take hq))]; congr 1; simp; omega
          have f3 : DCells X ρ w (rows.drop (o' + min n2 n)).flatten (arr.toList.drop ((o' + min n2 n) * s)) := DRows.to_cells (sz := s) (DRows.drop _ hrl hrr)
          refine DRows.of_cells (sz := s) ?_ ?_
          · intro q hq'
            rcases List.mem_append.1 hq' with h | h
            · exact hrl q (List.mem_of_mem_take h)
            · rcases List.mem_append.1 h with h | h
              · exact (hrow q h).1
              · exact hrl q (List.mem_of_mem_drop h)
          · rw [List.flatten_append, List.flatten_append]
            unfold splice
            rw [List.append_assoc]
            have t1 : (arr.toList.take (o' * s + 0)).length = o' * s := by simp; omega
            refine DCells.append ?_ ?_
            · have := DCells.takeLen f1
              rw [l1] at this
              simpa using DCells.more this
            · rw [l1]
              rw [List.drop_left' t1]
              refine DCells.append (DCells.more hdc) ?_
              have l2 : news.flatten.length = cells.length := by rw [flat_len (sz := s) (fun q hq => (hrow q hq).1), hcl, hnl]
              rw [l2, List.drop_left]
              rw [hcl, Nat.add_zero, ← Nat.add_mul]
              exact f3
theorem op_copy {c : Call} {x y : Operand} {t ts e e' p o' n n2 sz : Nat} {rows news : List (List D)} (ho : o.op = .call c) (hc : c.callee = .builtin .copy) (ha : c.args.toList = [x, y]) (ht : c.argTypes.toList = [t, ts]) (hs : (T.ty t).d = .slice e) (hts : (T.ty ts).d = .slice e')
    (hx : ev T E t x = some (.arr p o' n)) (hp : H p = .arr sz rows) (hsz : (T.ty e).size = sz) (hl : lenD H (ev T E ts y) = some n2) (hsrc : srcM H sz (min n2 n) (ev T E ts y) = some news)
    (hnl : news.length = min n2 n) (hol : o' ≤ rows.length) (hmax : o' + min n2 n ≤ lenMax) (hK : K (.v (.int .i64 (min n2 n : Nat))) [(p, .arr sz (rows.take o' ++ news ++ rows.drop (o' + min n2 n)))] []) : CallOp T o E H nx K :=
  CallOp.mk (nw := []) (by simp) (op_copy_does ho hc ha ht hs hts hx hp hsz hl hsrc hnl hol hmax) (fun d ups ⟨e1, e2⟩ => by subst e1 e2; exact hK)
theorem op_copyD {c : Call} {x y : Operand} {t ts e e' p o' n n2 sz : Nat} {rows news : List (List D)} (ho : o.op = .call c) (hc : c.callee = .builtin .copy) (ha : c.args.toList = [x, y]) (ht : c.argTypes.toList = [t, ts]) (hs : (T.ty t).d = .slice e) (hts : (T.ty ts).d = .slice e')
    (hx : ev T E t x = some (.arr p o' n)) (hp : H p = .arr sz rows) (hsz : (T.ty e).size = sz) (hl : lenD H (ev T E ts y) = some n2) (hsrc : srcM H sz (min n2 n) (ev T E ts y) = some news)
    (hnl : news.length = min n2 n) (hol : o' ≤ rows.length) (hmax : o' + min n2 n ≤ lenMax) (hK : K (.v (.int .i64 (min n2 n : Nat))) [(p, .arr sz (rows.take o' ++ news ++ rows.drop (o' + min n2 n)))] []) : CallDet T o E H nx K :=
  CallDet.mk (nw := []) (by simp) (op_copy_does ho hc ha ht hs hts hx hp hsz hl hsrc hnl hol hmax) hK
end
end Go.DL

/- DL, part 15: append of make, overlaps. Own work; no condition. -/
set_option linter.unusedVariables false
set_option linter.unusedSimpArgs false
namespace Go.DL
open Go.RowKit

section
variable {P : Program} {T : Tab P} {o : Oper} {E : Nat → Option D} {H : Nat → Ob} {nx : Nat} {K : KT}

theorem zeroCells_list (z : Array Value) : ∀ n : Nat, (Builtin.zeroCells z n).toList = (List.replicate n z.toList).flatten := by
  intro n
  by_cases hz : z.size = 0
  · have : z = #[] := by simpa using hz
    subst this
    simp [Builtin.zeroCells]
  apply List.ext_getElem?
  intro i
  have hl : (List.replicate n z.toList).flatten.length = n * z.size := by simp [List.length_flatten]
  have key : ∀ (n i : Nat), i < n * z.size → (List.replicate n z.toList).flatten[i]? = some z[i % z.size]! := by
    intro n
    induction n with
    | zero => intro i hi; simp at hi
    | succ n ih =>
      intro i hi
      rw [List.replicate_succ, List.flatten_cons]
      by_cases hlt : i < z.size
      · rw [List.getElem?_append_left (by simpa using hlt), Nat.mod_eq_of_lt hlt]
        simp [hlt]
      · rw [List.getElem?_append_right (by simp; omega)]
        simp only [Array.length_toList]
        rw [ih (i - z.size) (by rw [Nat.add_mul] at hi; omega)]
        rw [Nat.mod_eq_sub_mod (by omega : i ≥ z.size)]
  by_cases hi : i < n * z.size
  · rw [key n i hi]
    simp [Builtin.zeroCells, hi]
  · rw [List.getElem?_eq_none (l := (List.replicate n z.toList).flatten) (by rw [hl]; omega), List.getElem?_eq_none (by simp [Builtin.zeroCells]; omega)]
theorem run_append_make (w : World) (t tn ty e : TypeId) (i : TypeInfo) (z : Value) (k kn : IntKind) (ht : P.underlying t = some (.slice e)) (htn : P.underlying tn = some (.int kn)) (hi : P.info? e = some i) (hz : i.zero = some z)
    (base : Option Addr) (sLen sCap n : Nat) (olds : List Value) (hold : (Builtin.firstCells i.size sLen (.slice base sLen sCap)).run P w.drew = .ok olds.toArray w.drew) (hg : sCap < sLen + n) (h0 : 0 < n) (hs : 0 < i.size)
    (h63 : ((sLen + n : Nat) : Int) ≤ 9223372036854775807) (hb : n * i.bytes ≤ 281474976710656) (hfit : Builtin.nextslicecap (sLen + n) sCap * i.bytes ≤ 281474976710656) :
    (Builtin.append_ #[t, tn] ty #[.slice base sLen sCap, .int k n]).run P w =
      .ok (.slice (some ⟨w.heap.size, 0, none⟩) (sLen + n) (grownCap w (sLen + n) sCap e)) (w.drew.alloc (.cells (olds.toArray ++ Builtin.zeroCells z.cells n ++ Builtin.zeroCells z.cells (grownCap w (sLen + n) sCap e - (sLen + n))) e)) := by
  have hw : IntKind.i64.wrap (n : Int) = n := by rw [IntKind.wrap_i64]; omega
  have h63' : ¬ (9223372036854775807 < (sLen : Int) + (n : Int)) := by omega
  have h48' : ¬ (281474976710656 < Builtin.nextslicecap (sLen + n) sCap * i.bytes) := by omega
  have h48i : ¬ (281474976710656 < (n : Int) * (i.bytes : Int)) := by rw [← Int.natCast_mul]; omega
  have hneg : ¬ ((n : Int) < 0) := by omega
  have hns : ¬ (n * i.size = 0) := Nat.mul_ne_zero (by omega) (by omega)
  have hn : n ≠ 0 := by omega
  have hle : ¬ (sLen + n ≤ sCap) := by omega
  have hi0 : i.size ≠ 0 := by omega
  simp [Builtin.append_, run_underlying ht, run_underlying htn, sizeOf, typeInfo, zeroValue, hi, hz, asInt, asIntOf, hw, hn, hle, hneg, hns, hi0, h63', h48', h48i, Question.forced, hold, newRow, grownCap]
theorem V.one_all {X : Nat → Prop} {w : World} : ∀ {l : List V}, (l.map D.v).all D.one = true → l.all V.one = true := fun h => all_d h
theorem op_append_make {c : Call} {x y : Operand} {t tn e p q i k b1 sz : Nat} {v : Int} {kn kv : IntKind} {z : V} {zs : List V} {rows : List (List D)} (ho : o.op = .call c) (hc : c.callee = .builtin .append) (ha : c.args.toList = [x, y]) (ht : c.argTypes.toList = [t, tn])
    (hs : (T.ty t).d = .slice e) (htn : (T.ty tn).d = .int kn) (hz : (T.ty e).zero = z :: zs) (hone : ((z :: zs).map D.v).all D.one = true) (hsz : (T.ty e).size = sz) (hzl : zs.length + 1 = sz) (hby : (T.ty e).bytes = b1 + 1)
    (hx : ev T E t x = some (.arr p 0 i)) (hp : H p = .arr sz rows) (hq : H q = .cap p k) (hy : ev T E tn y = some (.v (.int kv v))) (hi : i ≤ rows.length) (h0' : 0 < v) (hroom' : (k : Int) < i + v) (hmax' : (i + v.toNat) * (b1 + 1) ≤ lenMax)
    (hK : K (.arr nx 0 (i + v.toNat)) [(nx, .arr sz (rows.take i ++ List.replicate v.toNat ((z :: zs).map .v)))] [nx]) : CallOp T o E H nx K := by
  refine CallOp.mk (nw := [nx]) (R := Just (.arr nx 0 (i + v.toNat)) [(nx, .arr sz (rows.take i ++ List.replicate v.toNat ((z :: zs).map .v)))]) (by simp) ?_ (fun d ups ⟨e1, e2⟩ => by subst e1 e2; exact hK)
  obtain ⟨kk, rfl⟩ : ∃ kk : Nat, v = kk := ⟨v.toNat, by omega⟩
  rw [Int.toNat_natCast] at *
  have h0 : 0 < kk := by omega
  have hroom : k < i + kk := by omega
  have hmax := hmax'
  intro X ρ w a Q' K' r hn hK'
  have hnx := hn nx (by simp)
  have hv := ev_cell r hx
  have hy' := ev_cell r hy
  unfold DCell VCell at hy'
  have hob := r.obs p
  have hgh := r.obs q
  rw [hp] at hob
  rw [hq] at hgh
  obtain ⟨g1, g2, g3⟩ := hgh
  obtain ⟨hz0, hr, hm, hob⟩ := hob
  have hs0 : 0 < (T.ty e).size := by omega
  obtain ⟨inf, u, hi1, hu, his, hib, hti⟩ := T.info hs0
  have hne : (T.ty e).zero ≠ [] := by rw [hz]; simp
  obtain ⟨i', z', hi2, hzv, hzs⟩ := T.zero_info hne
  rw [hi1] at hi2; injection hi2 with hi2; subst hi2
  obtain ⟨zr, hzr1, hzr2, hzr3⟩ := T.run_zero hne w
  have hzz : zr = z' := by
    simp [Go.zeroValue, Go.typeInfo, hi1, hzv] at hzr1
    exact hzr1.symm
  subst hzz
  have hzc : ∀ X w', VCells X w' (z :: zs) zr.cells.toList := by rw [← hz]; exact hzr3
  have hzl' : zr.cells.size = sz := by rw [hzs, hz]; simpa using hzl
  have hlen : (i + kk) ≤ lenMax := by
    have : (i + kk) * 1 ≤ (i + kk) * (b1 + 1) := Nat.mul_le_mul_left _ (by omega)
    omega
  have hib' : inf.bytes = b1 + 1 := by rw [hib, hby]
  unfold DCell at hv
  obtain ⟨a1, a2⟩ := args2 ha ht a
  have hrows : ∀ r' ∈ rows.take i ++ List.replicate kk ((z :: zs).map D.v), r'.length = sz ∧ r'.all D.one = true := by
    intro r' hr'
    rcases List.mem_append.1 hr' with h | h
    · exact hr r' (List.mem_of_mem_take h)
    · obtain ⟨_, rfl⟩ := List.mem_replicate.1 h
      exact ⟨by simpa using hzl, hone⟩
  have hlr : (rows.take i ++ List.replicate kk ((z :: zs).map D.v)).length = i + kk := by simp; omega
  have fin : ∀ (A : Option Addr) (cap : Nat) (olds : List Value), (Builtin.firstCells inf.size i (.slice A i cap)).run P w.drew = .ok olds.toArray w.drew → a.eval x = .slice A i cap → cap = k → DCells X ρ w (rows.take i).flatten olds → olds.length = i * sz → o.wp P a w K' Q' := by
    intro A cap olds hfc he hcap hdo hol
    subst hcap
    have hfit : Builtin.nextslicecap (i + kk) cap * inf.bytes ≤ 281474976710656 := by
      have h1 := nextcap_le (need := i + kk) (old := cap) (by omega)
      have h2 := Nat.mul_le_mul_right inf.bytes h1
      rw [hib'] at h2 ⊢
      simp only [lenMax] at h2 hmax ⊢
      rw [Nat.mul_assoc] at h2; omega
    have hb : kk * inf.bytes ≤ 281474976710656 := by
      rw [hib']
      have : kk * (b1 + 1) ≤ (i + kk) * (b1 + 1) := Nat.mul_le_mul_right _ (by omega)
      simp only [lenMax] at hmax; omega
    have hrun := run_append_make (P := P) w t tn o.type e inf zr kv kn (T.slice hs) (T.int htn) hi1 hzv A i cap kk olds hfc hroom h0 (by omega) (by simp [lenMax] at hlen; omega) hb hfit
    unfold Oper.wp
    have he2 : (execOp a.eval o).run P w = _ := run_append_call ho hc ha ht a w (by rw [he, hy']; exact hrun)
    rw [he2]
    have hcap := grownCap_bounds w (i + kk) cap e (by simp [lenMax, capMax] at hlen ⊢; omega)
    refine app_new (J := K') r (p := nx) hnx (.inl ⟨rfl, rfl⟩) hK' hlr.symm hz0 hrows (by rw [hlr]; exact hlen) (by omega) hcap.1 hcap.2 ?_ ?_
    · simp [zeroCells_size, hzl', hol]
      rw [← Nat.add_mul, ← Nat.add_mul]; congr 1; omega
    · rw [List.flatten_append]
      simp only [Array.toList_append, List.append_assoc]
      refine DCells.append (DCells.more hdo) ?_
      have : (rows.take i).flatten.length = olds.length := by
        rw [flat_len (sz := sz) (fun r' hr' => (hr r' (List.mem_of_mem_take hr')).1), hol]; congr 1; simp; omega
      rw [this, List.drop_left, zeroCells_list]
      have reps : ∀ n : Nat, DCells X ρ w (List.replicate n ((z :: zs).map D.v)).flatten (List.replicate n zr.cells.toList).flatten := by
        intro n
        induction n with
        | zero => trivial
        | succ n ih =>
          rw [List.replicate_succ, List.flatten_cons, List.replicate_succ, List.flatten_cons]
          refine DCells.append (DCells.more (VCells.toD (hzc X w))) ?_
          have e1 : ((z :: zs).map D.v).length = zr.cells.toList.length := by simp; omega
          rw [e1, List.drop_left]; exact ih
      exact DCells.more (reps kk)
  cases hρ : ρ p with
  | hole => exact absurd hρ g1
  | dead => simp only [hρ] at hob
  | null =>
    have hk := g2 hρ
    simp only [hρ] at hv hob
    obtain ⟨⟨A, hv⟩, _, rfl⟩ := hv
    subst hob
    exact fin A 0 [] (by cases A <;> simp [Builtin.firstCells, loadCells, loadCellsFrom]) hv hk.symm (by simp [DCells]) (by simp)
  | live b s cap =>
    have hk := g3 b s cap hρ
    simp only [hρ] at hv hob
    obtain ⟨rfl, hrc, hcm, arr, ty, fr, hh, hcs, hf, hrr⟩ := hob
    obtain ⟨hv1, hv2, hv3⟩ := hv
    have hfl : (rows.take i).flatten.length = i * s := by
      rw [flat_len (sz := s) (fun r' hr' => (hr r' (List.mem_of_mem_take hr')).1)]; congr 1; simp; omega
    have hdc : DCells X ρ w (rows.take i).flatten arr.toList := DRows.to_cells (sz := s) (DRows.take i hrr)
    have hdt := DCells.takeLen hdc
    rw [hfl] at hdt
    have hl : i * s ≤ arr.size := by rw [hcs]; exact Nat.mul_le_mul_right _ (by omega)
    by_cases hoc : 0 < cap
    · refine fin _ cap (arr.toList.take (i * s)) ?_ (by rw [hv2 hoc]; rfl) hk hdt (by simp; omega)
      rw [his, hsz]
      refine run_firstCells_some (P := P) w.drew s i ⟨b, 0 * s, none⟩ i cap (arr.toList.take (i * s)) (by simp; omega) (fun j v hj => ?_)
      have hj' : (arr.toList.drop (0 * s))[j]? = some v := by
        rw [List.getElem?_take] at hj
        split at hj
        · simpa using hj
        · cases hj
      exact cell_at (w := w.drew) hh j v hj'
    · obtain ⟨A, hA⟩ := hv3 (by omega)
      have hn : i = 0 := by omega
      subst hn
      exact fin (some A) 0 [] (by simp [Builtin.firstCells, loadCells, loadCellsFrom]) hA (by omega) (by simp [DCells]) (by simp)
theorem run_overlaps_triv {P : Program} (w : World) (tS tR e : TypeId) (ht : P.underlying tS = some (.slice e)) (size : Nat) (hz : ∀ w, (Go.sizeOf e).run P w = .ok size w) (A B : Option Addr) (la ca lb cb : Nat) (h : A = none ∨ B = none ∨ la = 0 ∨ lb = 0) :
    (Extern.SlicesOverlaps.overlaps #[tS, tS] #[tR] #[.slice A la ca, .slice B lb cb]).run P w = .ok (.bool false) w := by
  have e1 : ∀ (f : TypeDesc → Sem Value), ((do let d ← underlying tS; f d) : Sem Value).run P w = (f (.slice e)).run P w := by
    intro f; simp [run_underlying ht]
  have e2 : ∀ (f : Nat → Sem Value), ((do let d ← Go.sizeOf e; f d) : Sem Value).run P w = (f size).run P w := by
    intro f; simp [hz]
  refine (e1 _).trans ?_
  refine (e2 _).trans ?_
  cases A with
  | none => rfl
  | some a =>
    cases B with
    | none => rfl
    | some b =>
      have h' : la = 0 ∨ lb = 0 ∨ size = 0 := by
        rcases h with h | h | h | h
        · cases h
        · cases h
        · exact .inl h
        · exact .inr (.inl h)
      have e3 : ∀ (x y : Sem Value), (if la = 0 ∨ lb = 0 ∨ size = 0 then x else y) = x := fun x y => if_pos h'
      exact congrArg (fun s : Sem Value => s.run P w) (e3 _ _)
/-- The compiler's question whether two slices lie over each other: of two objects. -/
theorem op_overlaps {c : Call} {f : FuncId} {fn : Func} {t tr e p p' o1 o2 n1 n2 sz : Nat} {rows rows' : List (List D)} (hf : P.funcs[f]? = some fn) (hb : fn.body = none) (hn : (fn.name == "runtime.NumGoroutine") = false) (h1 : Extern.findNext fn = none)
    (h2 : Extern.find fn = some (Extern.SlicesOverlaps.overlaps #[t, t] #[tr])) (hs : (T.ty t).d = .slice e) (hsz : (T.ty e).size = sz) (ho : o.op = .call c) (hc : c.callee = .value (.func f)) (hargs : evL T E c.args.toList c.argTypes.toList = some [.arr p o1 n1, .arr p' o2 n2])
    (hp : H p = .arr sz rows) (hp' : H p' = .arr sz rows') (hne : p ≠ p') (hK : K (.v (.bool false)) [] []) : CallOp T o E H nx K := by
  refine CallOp.mk (nw := []) (R := Just (.v (.bool false)) []) (by simp) (does_value fun X ρ w a r => ⟨.bool false, ?_, rfl⟩) (fun d ups ⟨h1, h2⟩ => by subst h1 h2; exact hK)
  obtain ⟨hc2, hl2⟩ := evL_cells r hargs
  obtain ⟨u1, u2, hu⟩ : ∃ u1 u2, c.args.toList.map a.eval = [u1, u2] := by
    rcases h : c.args.toList.map a.eval with _ | ⟨u1, _ | ⟨u2, _ | ⟨u3, t⟩⟩⟩
    · rw [h] at hl2; simp at hl2
    · rw [h] at hl2; simp at hl2
    · exact ⟨u1, u2, rfl⟩
    · rw [h] at hl2; simp at hl2
  rw [hu] at hc2
  have hargs' : c.args.map a.eval = #[u1, u2] := by rw [← Array.toList_inj, Array.toList_map, hu]
  have hn' : fn.name ≠ "runtime.NumGoroutine" := by simpa using hn
  have key : ∃ v, (Extern.SlicesOverlaps.overlaps #[t, t] #[tr] #[u1, u2]).run P w = .ok v w ∧ v = .bool false := by
    refine ⟨_, ?_, rfl⟩
    obtain ⟨hd1, hd2, _⟩ := hc2
    have ob1 := r.obs p
    have ob2 := r.obs p'
    rw [hp] at ob1
    rw [hp'] at ob2
    obtain ⟨hz0, _, _, ob1⟩ := ob1
    obtain ⟨_, _, _, ob2⟩ := ob2
    have hrs : ∀ w, (Go.sizeOf e).run P w = .ok sz w := fun w => by rw [T.run_size (by omega) w, hsz]
    have triv : ∀ (A B : Option Addr) (la ca lb cb : Nat), (A = none ∨ B = none ∨ la = 0 ∨ lb = 0) → (Extern.SlicesOverlaps.overlaps #[t, t] #[tr] #[.slice A la ca, .slice B lb cb]).run P w = .ok (.bool false) w :=
      fun A B la ca lb cb h => run_overlaps_triv w t tr e (T.slice hs) sz hrs A B la ca lb cb h
    unfold DCell at hd1 hd2
    cases hq1 : ρ p with
    | hole => simp only [hq1] at hd1
    | dead => simp only [hq1] at ob1
    | null =>
      simp only [hq1] at hd1
      obtain ⟨⟨A, rfl⟩, _, rfl⟩ := hd1
      have : ∃ B n c, u2 = .slice B n c := by
        cases hq2 : ρ p' with
        | hole => simp only [hq2] at hd2
        | dead => simp only [hq2] at ob2
        | null => simp only [hq2] at hd2; obtain ⟨⟨B, h⟩, _, _⟩ := hd2; exact ⟨B, _, _, h⟩
        | live b s cap =>
          simp only [hq2] at hd2
          obtain ⟨_, g2, g3⟩ := hd2
          by_cases hc : o2 < cap
          · exact ⟨_, _, _, g2 hc⟩
          · obtain ⟨B, h⟩ := g3 (by omega); exact ⟨_, _, _, h⟩
      obtain ⟨B, n, cc, rfl⟩ := this
      exact triv _ _ _ _ _ _ (.inr (.inr (.inl rfl)))
    | live b s cap =>
      simp only [hq1] at hd1 ob1
      obtain ⟨rfl, _, _, arr, ty, fr, hh, hcs, hf', _⟩ := ob1
      obtain ⟨_, g2, g3⟩ := hd1
      cases hq2 : ρ p' with
      | hole => simp only [hq2] at hd2
      | dead => simp only [hq2] at ob2
      | null =>
        simp only [hq2] at hd2; obtain ⟨⟨B, rfl⟩, _, rfl⟩ := hd2
        by_cases hc : o1 < cap
        · rw [g2 hc]; exact triv _ _ _ _ _ _ (.inr (.inr (.inr rfl)))
        · obtain ⟨A, rfl⟩ := g3 (by omega); exact triv _ _ _ _ _ _ (.inr (.inr (.inr rfl)))
      | live b' s' cap' =>
        simp only [hq2] at hd2 ob2
        obtain ⟨rfl, _, _, arr', ty', fr', hh', hcs', hf'', _⟩ := ob2
        obtain ⟨_, k2, k3⟩ := hd2
        have hbb : b ≠ b' := fun e => hne (r.mem.inj _ _ b _ _ _ _ hq1 (e ▸ hq2))
        by_cases hc : o1 < cap
        · by_cases hc' : o2 < cap'
          · rw [g2 hc, k2 hc']
            refine Lib.run_overlaps_apart w t tr e (T.slice hs) s' hrs _ _ _ _ _ _ hbb ty ty' arr.size arr'.size ?_ ?_ ?_ ?_ ?_
            · simp [World.shape?, hh]
            · simp [World.shape?, hh']
            · rw [hcs']
              have : 0 < cap' * s' := Nat.mul_pos (by omega) hz0
              omega
            · have hlt : o1 * s' < arr.size := by rw [hcs]; exact Nat.mul_lt_mul_of_pos_right hc hz0
              have := hf' (o1 * s') (Nat.le_of_lt hlt)
              simp [World.frozen?, hh]
              omega
            · have := hf' arr.size (Nat.le_refl _)
              simp [World.frozen?, hh]
              omega
          · obtain ⟨B, h⟩ := k3 (by omega)
            rw [h, g2 hc]
            have hn2 : n2 = 0 := by omega
            subst hn2
            first
              | exact triv _ _ _ _ _ _ (.inr (.inr (.inr rfl)))
        · obtain ⟨A, h⟩ := g3 (by omega)
          have hn1 : n1 = 0 := by omega
          have : ∃ B n c, u2 = .slice B n c := by
            by_cases hc2 : o2 < cap'
            · exact ⟨_, _, _, k2 hc2⟩
            · obtain ⟨B, h⟩ := k3 (by omega); exact ⟨_, _, _, h⟩
          obtain ⟨B, n, cc, rfl⟩ := this
          rw [h]
          exact triv _ _ _ _ _ _ (.inr (.inr (.inl (by first | rfl | exact hn1))))
  obtain ⟨v, hrun, rfl⟩ := key
  simp only [execOp, ho, resolve, hc, Act.eval, Deferred.ofValue, Sem.run_bind, Sem.run_pure, Result.andThen_ok, invoke, hargs']
  simp [run_callFunc_extern hf hn (by rw [hb]; rfl) h1 h2, hrun]
end
end Go.DL

/- DL, part 16: what comes in from the row, as closed data. Own work; no condition. -/
set_option linter.unusedVariables false
set_option linter.unusedSimpArgs false
namespace Go.DL
open Go.RowKit

/-- The cells of a type. -/
inductive Sh where
  | int (k : IntKind)
  | bool
  | str
  | sl (row : List Sh)
mutual
def Fits1 : Sh → V → Prop
  | .int k, .int k' n => k' = k ∧ (Lit.int k n).wf = true
  | .bool, .bool _ => True
  | .str, .str s => s.size ≤ maxLen
  | .sl row, .sl sz z xs => z = false ∧ sz = row.length ∧ ∀ r ∈ xs, FitsL row r
  | _, _ => False
def FitsL : List Sh → List V → Prop
  | [], [] => True
  | s :: ss, v :: vs => Fits1 s v ∧ FitsL ss vs
  | _, _ => False
end
theorem FitsL.one : ∀ {ss : List Sh} {vs : List V}, FitsL ss vs → vs.length = ss.length ∧ vs.all V.one = true
  | [], [], _ => ⟨rfl, rfl⟩
  | [], _ :: _, h => by unfold FitsL at h; exact h.elim
  | _ :: _, [], h => by unfold FitsL at h; exact h.elim
  | s :: ss, v :: vs, h => by
    unfold FitsL at h
    obtain ⟨h1, h2⟩ := FitsL.one h.2
    refine ⟨by simp [h1], ?_⟩
    simp only [List.all_cons, h2, Bool.and_true]
    have := h.1
    cases s <;> cases v <;> unfold Fits1 at this <;> first | rfl | exact this.elim
theorem FitsL.append : ∀ {ss tt : List Sh} {vs us : List V}, FitsL ss vs → FitsL tt us → FitsL (ss ++ tt) (vs ++ us)
  | [], tt, [], us, _, k => k
  | [], _, _ :: _, _, h, _ => by unfold FitsL at h; exact h.elim
  | _ :: _, _, [], _, h, _ => by unfold FitsL at h; exact h.elim
  | s :: ss, tt, v :: vs, us, h, k => by
    unfold FitsL at h
    exact ⟨h.1, FitsL.append h.2 k⟩
/-- The cells of a struct's fields, one behind the other. -/
def shFields (P : Program) (sub : TypeId → Option (List Sh)) : List Field → Nat → Option (List Sh)
  | [], _ => some []
  | f :: fs, o => match sub f.type, Nat.beq f.offset o with
    | some r, true => match Nat.beq r.length (P.cellsOf f.type) with
      | true => (shFields P sub fs (o + r.length)).map (r ++ ·)
      | false => none
    | _, _ => none
def shOf (P : Program) : Nat → TypeId → Option (List Sh)
  | 0, _ => none
  | m + 1, t => match P.underlying t with
    | some .bool => some [.bool]
    | some (.int k) => some [.int k]
    | some .string => some [.str]
    | some (.slice e) => match shOf P m e with
      | some r => match Nat.beq r.length (P.cellsOf e), Nat.blt 0 r.length, Nat.blt 0 (P.bytesOf e) with
        | true, true, true => some [.sl r]
        | _, _, _ => none
      | none => none
    | some (.struct fs) => match shFields P (shOf P m) fs.toList 0 with
      | some r => match Nat.beq r.length (P.cellsOf t) with
        | true => some r
        | false => none
      | none => none
    | _ => none
section
variable {H : Type} {enc : TypeId × Value → H} {P : Program} {w : World} {base : Nat} {sp : Nat → Bool} {held : Bool}
abbrev noX : Nat → Prop := fun _ => False
def Small (P : Program) (t : TypeId) (d : DataW H) : Prop := ∀ n ∈ d.weights P t, n ≤ reachBytes
theorem mapM_get {α β : Type} {f : α → Option β} : ∀ {l : List α} {r : List β}, l.mapM f = some r → r.length = l.length ∧ ∀ (i : Nat) x, l[i]? = some x → f x = r[i]?
  | [], r, h => by simp at h; subst h; simp
  | y :: l, r, h => by
    simp only [List.mapM_cons, Option.bind_eq_bind, Option.bind_eq_some_iff] at h
    obtain ⟨b, hb, bs, hbs, hr⟩ := h
    simp only [Option.pure_def, Option.some.injEq] at hr
    subst hr
    obtain ⟨h1, h2⟩ := mapM_get hbs
    refine ⟨by simp [h1], fun i x hx => ?_⟩
    cases i with
    | zero => simp at hx; subst hx; simpa using hb
    | succ i => simpa using h2 i x (by simpa using hx)
theorem cells_get {a : Addr} {n : Nat} {cs : List Value} (h : w.cells? base a n = some cs) : cs.length = n ∧ ∀ i, i < n → w.cell? (a.add i) = cs[i]? := by
  unfold World.cells? at h
  split at h
  · obtain ⟨h1, h2⟩ := mapM_get h
    exact ⟨by simpa using h1, fun i hi => h2 i i (by simp [hi])⟩
  · cases h
theorem weightsEach_mem : ∀ {ts : List TypeId} {ds : List (DataW H)} {j : Nat} {t : TypeId} {d : DataW H}, ts[j]? = some t → ds[j]? = some d → ∀ n ∈ d.weights P t, n ∈ DataW.weightsEach P ts ds := fun h1 h2 => DataW.weights_mem_each h1 h2
theorem weightsAll_mem {e : TypeId} : ∀ {ds : List (DataW H)} {d : DataW H}, d ∈ ds → ∀ n ∈ d.weights P e, n ∈ DataW.weightsAll P e ds
  | [], d, h, _, _ => by cases h
  | d0 :: ds, d, h, n, hn => by
    unfold DataW.weightsAll
    rcases List.mem_cons.1 h with rfl | h
    · exact List.mem_append_left _ hn
    · exact List.mem_append_right _ (weightsAll_mem h n hn)
theorem VCells.app {X : Nat → Prop} : ∀ {xs ys : List V} {us vs : List Value}, VCells X w xs us → us.length = xs.length → VCells X w ys vs → VCells X w (xs ++ ys) (us ++ vs)
  | [], ys, us, vs, _, hl, k => by
    have : us = [] := List.length_eq_zero_iff.1 hl
    subst this; exact k
  | x :: xs, ys, [], vs, h, _, _ => h.elim
  | x :: xs, ys, u :: us, vs, h, hl, k => ⟨h.1, VCells.app h.2 (by simpa using hl) k⟩
theorem VCells.morev {X : Nat → Prop} : ∀ {xs : List V} {us vs : List Value}, VCells X w xs us → VCells X w xs (us ++ vs)
  | [], _, _, _ => trivial
  | _ :: _, [], _, h => h.elim
  | x :: xs, u :: us, vs, h => ⟨h.1, VCells.morev h.2⟩
/-- The rows of a slice out of its elements' cells. -/
theorem rows_of {X : Nat → Prop} {rl : Nat} {all : List Value} : ∀ (xs : List (List V)) (o : Nat), (∀ (i : Nat) r, xs[i]? = some r → r.length = rl ∧ ∃ cs : List Value, cs.length = rl ∧ VCells X w r cs ∧ ∀ j, j < rl → all[o + i * rl + j]? = cs[j]?) → VRows X w xs (all.drop o)
  | [], o, _ => trivial
  | r :: xs, o, h => by
    obtain ⟨hl, cs, hcl, hc, hg⟩ := h 0 r rfl
    refine ⟨?_, ?_⟩
    · have e : (all.drop o).take rl = cs := by
        apply List.ext_getElem?
        intro j
        by_cases hj : j < rl
        · rw [List.getElem?_take, if_pos hj, List.getElem?_drop, ← hg j hj]; simp
        · rw [List.getElem?_eq_none (by simp; omega), List.getElem?_eq_none (by omega)]
      rw [← List.take_append_drop rl (all.drop o), e]
      exact VCells.morev hc
    · rw [List.drop_drop, hl]
      refine rows_of (rl := rl) xs (o + rl) fun i q hq => ?_
      obtain ⟨h1, cs', h2, h3, h4⟩ := h (i + 1) q (by simpa using hq)
      refine ⟨h1, cs', h2, h3, fun j hj => ?_⟩
      rw [← h4 j hj]; congr 1; rw [Nat.add_mul, Nat.one_mul]; omega
theorem fields_ok {sub : TypeId → Option (List Sh)} {cs : List Value} (hsub : ∀ {t : TypeId} {sh : List Sh} {fuel : Nat} {cs : List Value} {x : DataW H × List MemPlace}, sub t = some sh → DataW.trod enc P w base sp held fuel t cs = some x → Small P t x.1 → ∃ vs, VCells noX w vs cs ∧ cs.length = vs.length ∧ FitsL sh vs) :
    ∀ (l : List Field) (o : Nat) (sh : List Sh), shFields P sub l o = some sh → (∀ f ∈ l, ∃ fuel x, DataW.trod enc P w base sp held fuel f.type ((cs.drop f.offset).take (P.cellsOf f.type)) = some x ∧ Small P f.type x.1) → ∃ vs, VCells noX w vs (cs.drop o) ∧ FitsL sh vs
  | [], o, sh, h, _ => by simp [shFields] at h; subst h; exact ⟨[], trivial, trivial⟩
  | f :: l, o, sh, h, hf => by
    simp only [shFields] at h
    split at h
    · rename_i r hr ho
      have ho := Nat.eq_of_beq_eq_true ho
      split at h
      · rename_i hc
        have hc := Nat.eq_of_beq_eq_true hc
        rw [Option.map_eq_some_iff] at h
        obtain ⟨sh', hsh', rfl⟩ := h
        obtain ⟨fuel, x, hx, hsm⟩ := hf f List.mem_cons_self
        obtain ⟨v1, h1, h2, h3⟩ := hsub hr hx hsm
        obtain ⟨v2, h4, h5⟩ := fields_ok hsub l (o + r.length) sh' hsh' (fun g hg => hf g (List.mem_cons_of_mem _ hg))
        have hv1 := h3.one.1
        rw [ho] at h1 h2
        refine ⟨v1 ++ v2, ?_, h3.append h5⟩
        rw [← List.take_append_drop (P.cellsOf f.type) (cs.drop o)]
        refine VCells.app h1 h2 ?_
        rw [List.drop_drop, ← hc]
        exact h4
      · cases h
    · cases h
theorem trod_sh : ∀ (m : Nat) {t : TypeId} {sh : List Sh} {fuel : Nat} {cs : List Value} {x : DataW H × List MemPlace}, shOf P m t = some sh → DataW.trod enc P w base sp held fuel t cs = some x → Small P t x.1 → ∃ vs, VCells noX w vs cs ∧ cs.length = vs.length ∧ FitsL sh vs
  | 0, t, sh, fuel, cs, x, h, _, _ => by simp [shOf] at h
  | m + 1, t, sh, fuel, cs, x, h, hx, hsm => by
    unfold shOf at h
    split at h
    · rename_i ht
      injection h with h; subst h
      obtain ⟨b, rfl, rfl⟩ := DataW.trod_bool ht hx
      exact ⟨[.bool b], ⟨rfl, trivial⟩, rfl, ⟨trivial, trivial⟩⟩
    · rename_i k ht
      injection h with h; subst h
      obtain ⟨n, rfl, rfl, hw⟩ := DataW.trod_int ht hx
      exact ⟨[.int k n], ⟨rfl, trivial⟩, rfl, ⟨⟨rfl, hw⟩, trivial⟩⟩
    · rename_i ht
      injection h with h; subst h
      obtain ⟨s, rfl, rfl, hw⟩ := DataW.trod_string ht hx
      exact ⟨[.str s], ⟨rfl, trivial⟩, rfl, ⟨hw, trivial⟩⟩
    · rename_i e ht
      split at h
      · rename_i r hr
        split at h
        · rename_i h1 h2 h3
          injection h with h; subst h
          have h1 := Nat.eq_of_beq_eq_true h1
          have h2 : 0 < r.length := Nat.le_of_ble_eq_true h2
          have h3 : 0 < P.bytesOf e := Nat.le_of_ble_eq_true h3
          rcases DataW.trod_slice ht hx with ⟨rfl, rfl⟩ | ⟨a, len, cap, elems, rest, n, rfl, rfl, rfl, hb, hlc, hcm, hel, hget, _, _⟩
          · refine ⟨[.sl r.length false []], ⟨⟨h2, by simp, by simp, (fun h => by cases h), none, 0, rfl, by simp, by simp, fun h => absurd rfl h⟩, trivial⟩, rfl, ⟨⟨rfl, rfl, by simp⟩, trivial⟩⟩
          · have hlen : len ≤ lenMax := by
              have := hsm ((elems.length + rest.length) * P.bytesOf e) (by simp [DataW.weights, ht])
              have h4 : len * 1 ≤ (elems.length + rest.length) * P.bytesOf e := Nat.mul_le_mul (by omega) h3
              have h5 : reachBytes ≤ lenMax := by decide
              omega
            have each : ∀ i, i < len → ∃ vs cs', w.cells? base (a.add (i * P.cellsOf e)) (P.cellsOf e) = some cs' ∧ VCells noX w vs cs' ∧ cs'.length = vs.length ∧ FitsL r vs := by
              intro i hi
              have hg := hget i hi
              have hi' : i < elems.length := by omega
              rw [List.getElem?_eq_getElem hi', Option.bind_eq_some_iff] at hg
              obtain ⟨cs', hc', ht'⟩ := hg
              obtain ⟨vs, k1, k2, k3⟩ := trod_sh m hr ht' (fun q hq => hsm q (by
                simp only [DataW.weights, ht]
                refine List.mem_cons_of_mem _ (List.mem_append_left _ ?_)
                exact weightsAll_mem (List.mem_map.2 ⟨elems[i], List.getElem_mem hi', rfl⟩) q hq))
              exact ⟨vs, cs', hc', k1, k2, k3⟩
            let f : Nat → List V := fun i => if h : i < len then Classical.choose (each i h) else []
            have hf : ∀ i, i < len → ∃ cs', w.cells? base (a.add (i * P.cellsOf e)) (P.cellsOf e) = some cs' ∧ VCells noX w (f i) cs' ∧ cs'.length = (f i).length ∧ FitsL r (f i) := by
              intro i hi
              have := Classical.choose_spec (each i hi)
              simp only [f, dif_pos hi]
              exact this
            have hmem : ∀ q ∈ (List.range len).map f, FitsL r q := by
              intro q hq
              obtain ⟨i, hi, rfl⟩ := List.mem_map.1 hq
              obtain ⟨_, _, _, _, h⟩ := hf i (List.mem_range.1 hi)
              exact h
            have hxl : ((List.range len).map f).length = len := by simp
            refine ⟨[.sl r.length false ((List.range len).map f)], ⟨⟨h2, fun q hq => (hmem q hq).one, by rw [hxl]; exact hlen, (fun h => by cases h), some a, cap, by rw [hxl], by rw [hxl]; exact hlc, hcm, fun hne => ?_⟩, trivial⟩, rfl, ⟨⟨rfl, rfl, hmem⟩, trivial⟩⟩
            have hpos : 0 < len := by
              rcases Nat.eq_zero_or_pos len with h | h
              · subst h; simp at hne
              · exact h
            obtain ⟨cs0, c1, c2, c3, c4⟩ := hf 0 hpos
            obtain ⟨g1, g2⟩ := cells_get c1
            have hcell := g2 0 (by omega)
            have hcs0 : ∃ u, cs0[0]? = some u := ⟨cs0[0]'(by omega), by simp [show 0 < cs0.length by omega]⟩
            obtain ⟨u, hu⟩ := hcs0
            rw [hu] at hcell
            obtain ⟨b, off, spot⟩ := a
            cases spot with
            | some z =>
              exfalso
              unfold World.cell? at hcell
              simp only [Addr.add, Nat.zero_mul, if_true] at hcell
              split at hcell <;> simp at hcell
            | none =>
              rw [addr_add, addr_add] at hcell
              unfold World.cell? at hcell
              split at hcell
              · rename_i arr ty fr hh
                refine ⟨b, off, arr, ty, fr, rfl, fun h => h, hh, ?_⟩
                refine rows_of (rl := r.length) _ off fun i q hq => ?_
                rw [List.getElem?_map] at hq
                have hi : i < len := by
                  by_cases hi : i < len
                  · exact hi
                  · rw [List.getElem?_eq_none (by simp; omega)] at hq; cases hq
                rw [List.getElem?_range hi] at hq
                injection hq with hq; subst hq
                obtain ⟨cs', d1, d2, d3, d4⟩ := hf i hi
                obtain ⟨g3, g4⟩ := cells_get d1
                refine ⟨d4.one.1, cs', by omega, d2, fun j hj => ?_⟩
                rw [← g4 j (by omega), addr_add, addr_add, h1]
                simp [World.cell?, hh]
              · cases hcell
        · cases h
      · cases h
    · rename_i fs ht
      split at h
      · rename_i r hr
        split at h
        · rename_i hc
          have hc := Nat.eq_of_beq_eq_true hc
          injection h with h; subst h
          obtain ⟨xs, n, rfl, rfl, hl, hxl, hget⟩ := DataW.trod_struct ht hx
          obtain ⟨vs, k1, k2⟩ := fields_ok (cs := cs) (fun h1 h2 h3 => trod_sh m h1 h2 h3) fs.toList 0 r hr (fun f hf => by
            obtain ⟨i, hi, rfl⟩ := List.mem_iff_getElem.1 hf
            have hi' : i < fs.size := by simpa using hi
            have hg := hget i fs[i] (by simp [hi'])
            have hix : i < xs.length := by omega
            refine ⟨n, xs[i], ?_, fun q hq => hsm q ?_⟩
            · rw [← List.getElem?_eq_getElem hix, ← hg]; rfl
            · simp only [DataW.weights, ht]
              exact DataW.weights_mem_each (j := i) (by simp [hi']) (by simp [hix]) q hq)
          refine ⟨vs, k1, ?_, k2⟩
          rw [hl, k2.one.1, hc]
        · cases h
      · cases h
    · cases h
end
end Go.DL

/- DL, part 17: a nil slice as an object that is appended to. Own work; no condition. -/
set_option linter.unusedVariables false
set_option linter.unusedSimpArgs false
namespace Go.DL
open Go.RowKit

section
variable {P : Program} {T : Tab P} {m N : Nat} {σ : St} {Q : Exit → St → Prop}
theorem obAt_app : ∀ (l : List Ob) (x : Ob) (p : Nat), obAt (l ++ [x]) p = if p = l.length then x else obAt l p
  | [], x, 0 => rfl
  | [], x, p + 1 => by simp [obAt]
  | y :: l, x, 0 => by simp [obAt]
  | y :: l, x, p + 1 => by simp [obAt, obAt_app l x p]
theorem Step.null {X : Nat → Prop} {ρ : Nat → Slot} {w : World} (mm : Mem X ρ w) {p : Nat} (hp : ρ p = .hole) : Step (fun q => q = p) X ρ w X (setSlot ρ p .null) w := by
  refine ⟨rfl, rfl, rfl, Nat.le_refl _, fun _ _ _ => rfl, fun q => ?_, fun q hq => by simp [setSlot, hq], fun _ h => .inl h, fun _ h => .inl h, fun q b sz cap h => ?_, ⟨mm.lt, fun q b sz cap h => ?_, fun q r b sz cap sz' cap' h h' => ?_⟩⟩
  · by_cases h : q = p
    · subst h; exact .inl hp
    · exact .inr (.inl (by simp [setSlot, h]))
  · unfold setSlot at h; split at h
    · cases h
    · exact .inl ⟨q, sz, cap, h⟩
  · unfold setSlot at h; split at h
    · cases h
    · exact mm.live q b sz cap h
  · unfold setSlot at h h'
    split at h
    · cases h
    · split at h'
      · cases h'
      · exact mm.inj q r b sz cap sz' cap' h h'
attribute [local semireducible] WpD in
/-- A nil slice is an object without rows. -/
theorem WpD.nil {c : Code} (t sz p : Nat) (hz : Nat.blt 0 sz = true) (hp : σ.heap.length = p) (hm : Nat.ble m p = true) (ht : look σ.env t = some (.v (.sl sz true [])))
    (h : WpD T m N c ⟨(t, .arr p 0 0) :: σ.env, σ.heap ++ [.arr sz []], σ.dec⟩ Q) : WpD T m N c σ Q := by
  subst hp
  have hm := Nat.le_of_ble_eq_true hm
  intro C hN hmm a w k
  obtain ⟨X, ρ, r, s, hh⟩ := k.real
  have hp : ρ σ.heap.length = .hole := hh _ (Nat.le_refl _)
  have st := Step.null (w := w) r.mem hp
  refine h C hN hmm a w ⟨k.size, k.defers, k.dec, X, setSlot ρ σ.heap.length .null, ⟨fun g cs hg => VCell.keep (st.keeps r.mem) _ _ (r.glob g cs hg), st.mem, fun u d hu => ?_, fun q => ?_⟩, ?_, fun q hq => ?_⟩
  · simp only [look] at hu
    cases hb : Nat.beq t u with
    | true =>
      have := Nat.eq_of_beq_eq_true hb
      subst this
      simp only [hb, cond_true] at hu
      injection hu with hu; subst hu
      obtain ⟨v, hv, hd⟩ := r.env t _ ht
      unfold DCell VCell at hd
      obtain ⟨A, hA⟩ := hd.2.2.2.1 rfl
      refine ⟨v, hv, ?_⟩
      unfold DCell
      simp only [setSlot, if_true]
      exact ⟨⟨A, hA⟩, by simp⟩
    | false =>
      simp only [hb, cond_false] at hu
      obtain ⟨v, hv, hd⟩ := r.env u d hu
      exact ⟨v, hv, DCell.keep (st.keeps r.mem) st.slots _ _ hd⟩
  · show ObOK _ _ _ _ (obAt (σ.heap ++ [.arr sz []]) q)
    rw [obAt_app]
    split
    · rename_i e; subst e
      exact ⟨Nat.le_of_ble_eq_true hz, by simp, by simp, by simp [setSlot]⟩
    · rename_i e
      exact (r.obs q).keep st r.mem e
  · refine ⟨s.os, s.tape, s.output, s.size, fun b hb hn => s.block b hb hn, fun q => ?_, fun q h => absurd trivial h, s.xin, s.xout, fun q b z cap hq => ?_, st.mem⟩
    · by_cases e : q = σ.heap.length
      · subst e; exact .inl (hmm _ hm)
      · rcases s.slots q with g | g | g
        · exact .inl g
        · exact .inr (.inl (by simp [setSlot, e, g]))
        · exact .inr (.inr (by simp [setSlot, e, g]))
    · unfold setSlot at hq
      split at hq
      · cases hq
      · exact s.src q b z cap hq
  · simp only [List.length_append, List.length_singleton] at hq
    have e : q ≠ σ.heap.length := by omega
    simp only [setSlot, if_neg e]
    exact hh q (by omega)
end
theorem renDs_map_v (th : List Nat) : ∀ r : List V, renDs (th.getD · 0) (r.map D.v) = r.map D.v
  | [] => rfl
  | x :: r => by simp only [List.map_cons, renDs, renD, renDs_map_v th r]
theorem refsLts_map_v (n : Nat) : ∀ r : List V, refsLts n (r.map D.v) = true
  | [] => rfl
  | x :: r => by simp only [List.map_cons, refsLts, refsLt, refsLts_map_v n r, Bool.and_self]
abbrev vrows (xs : List (List V)) : List (List D) := xs.map fun r => r.map D.v
/-- An object whose rows are closed data, behind a renaming. -/
theorem obLe_v {th : List Nat} {sz : Nat} {rows : List (List D)} {xs : List (List V)} (h : rows = vrows xs) : obLe th (.arr sz rows) (.arr sz (vrows xs)) := by
  refine ⟨rfl, ?_, ?_⟩
  · rw [h, vrows, List.map_map]
    apply List.map_congr_left
    intro x _
    simp only [Function.comp, renDs_map_v]
  · rw [List.all_eq_true]
    intro r hr
    obtain ⟨x, _, rfl⟩ := List.mem_map.1 hr
    exact refsLts_map_v _ _
theorem vrows_length (xs : List (List V)) : (vrows xs).length = xs.length := by simp [vrows]
theorem vrows_append (xs ys : List (List V)) : vrows (xs ++ ys) = vrows xs ++ vrows ys := by simp [vrows]
theorem vrows_take (n : Nat) (xs : List (List V)) : vrows (xs.take n) = (vrows xs).take n := by simp [vrows, List.map_take]
theorem vrows_drop (n : Nat) (xs : List (List V)) : vrows (xs.drop n) = (vrows xs).drop n := by simp [vrows, List.map_drop]
theorem vrows_get {xs : List (List V)} {i : Nat} {r : List V} (h : xs[i]? = some r) : (vrows xs)[i]? = some (r.map D.v) := by simp [vrows, h]
end Go.DL
