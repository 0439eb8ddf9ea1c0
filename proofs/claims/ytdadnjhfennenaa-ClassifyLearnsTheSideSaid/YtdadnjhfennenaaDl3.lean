/- DL, part 3: operations on structs, pointers and slices that leave memory alone. Own work; no condition. -/
import Derived.Test.YtdadnjhfennenaaDl2
set_option linter.unusedVariables false
set_option linter.unusedSimpArgs false
namespace Go.DL
open Go.RowKit

structure Br (b : Bool) (A B : Prop) : Prop where
  t : b = true → A
  f : b = false → B
theorem Br.tt {A B : Prop} (h : A) : Br true A B := ⟨fun _ => h, fun h => by cases h⟩
theorem Br.ff {A B : Prop} (h : B) : Br false A B := ⟨(fun h => by cases h), fun _ => h⟩
def forceL {α : Type} : List α → (List α → Prop) → Prop
  | [], K => K []
  | x :: xs, K => forceL xs fun ys => K (x :: ys)
theorem forceL_eq {α : Type} : ∀ (l : List α) (K : List α → Prop), forceL l K = K l
  | [], K => rfl
  | x :: xs, K => by simp only [forceL, forceL_eq xs]
def forceLL {α : Type} : List (List α) → (List (List α) → Prop) → Prop
  | [], K => K []
  | x :: xs, K => forceL x fun y => forceLL xs fun ys => K (y :: ys)
theorem forceLL_eq {α : Type} : ∀ (l : List (List α)) (K : List (List α) → Prop), forceLL l K = K l
  | [], K => rfl
  | x :: xs, K => by simp only [forceLL, forceL_eq, forceLL_eq xs]
def takeN {α : Type} : Nat → List α → Option (List α)
  | 0, _ => some []
  | _ + 1, [] => none
  | n + 1, x :: xs => (takeN n xs).map (x :: ·)
theorem takeN_eq {α : Type} : ∀ {n : Nat} {l r : List α}, takeN n l = some r → r = l.take n ∧ n ≤ l.length
  | 0, l, r, h => by simp [takeN] at h; simp [h]
  | n + 1, [], r, h => by simp [takeN] at h
  | n + 1, x :: xs, r, h => by
    simp [takeN] at h
    obtain ⟨s, hs, rfl⟩ := h
    obtain ⟨h1, h2⟩ := takeN_eq hs
    simp [h1, h2]
def splice {α : Type} (l : List α) (o : Nat) (c : List α) : List α := l.take o ++ c ++ l.drop (o + c.length)
theorem splice_length {α : Type} {l c : List α} {o : Nat} (h : o + c.length ≤ l.length) : (splice l o c).length = l.length := by
  simp [splice]; omega

section
variable {P : Program} {T : Tab P} {o : Oper} {E : Nat → Option D} {H : Nat → Ob} {K : D → List (Nat × Ob) → Prop}
variable {X : Nat → Prop} {ρ : Nat → Slot} {w : World}

theorem DCells.splice : ∀ {l c : List D} {vs us : List Value} {o : Nat}, DCells X ρ w l vs → DCells X ρ w c us → c.length = us.length → o + c.length ≤ l.length → DCells X ρ w (splice l o c) (splice vs o us)
  | l, c, vs, us, o, hl, hc, he, ho => by
    unfold DL.splice
    have h1 := DCells.take o hl
    have h2 := DCells.drop (o + c.length) hl
    have hlen := DCells.len hl
    have e1 : (l.take o).length = (vs.take o).length := by simp; omega
    have app : ∀ {a b : List D} {p q : List Value}, DCells X ρ w a p → a.length = p.length → DCells X ρ w b q → DCells X ρ w (a ++ b) (p ++ q) := by
      intro a b p q ha hab hb
      exact DCells.append (DCells.more ha) (by rw [hab, List.drop_left]; exact hb)
    rw [he] at h2 ⊢
    exact app (app h1 e1 hc) (by simp [he]; omega) h2

/-! ##### struct parts -/
def partK (T : Tab P) (t off : Nat) (cs : List D) (K : D → Prop) : Prop :=
  match (T.ty t).size with
  | 0 => False
  | n + 1 => match (T.ty t).agg with
    | true => match takeN (n + 1) (cs.drop off) with | some r => forceL r fun r => K (.agg r) | none => False
    | false => match cs.drop off with | c :: _ => K c | [] => False
theorem partK_part {t off : Nat} {cs : List D} {J : D → Prop} (h : partK T t off cs J) {vs : List Value} (hc : DCells X ρ w cs vs) (hl : vs.length = cs.length) :
    ∃ d, J d ∧ ∃ v, (part t vs.toArray off).run P w = .ok v w ∧ DCell X ρ w d v := by
  unfold partK at h
  simp only [forceL_eq] at h
  split at h
  · exact h.elim
  · rename_i n hn
    have hs : 0 < (T.ty t).size := by rw [hn]; omega
    split at h
    · rename_i ha
      split at h
      · rename_i r hr
        obtain ⟨h1, h2⟩ := takeN_eq hr
        subst h1
        refine ⟨_, h, .agg (vs.toArray.extract off (off + (n + 1))), ?_, ?_⟩
        · simp only [part, Sem.run_bind, T.run_isAgg hs, Result.andThen_ok, ha, if_true, T.run_size hs, hn, Sem.run_pure]
        · refine ⟨(vs.drop off).take (n + 1), ?_, ?_, DCells.take _ (DCells.drop off hc)⟩
          · congr 1
            rw [← Array.toList_inj]
            simp [List.extract_eq_take_drop]
          · simp at h2 ⊢; omega
      · exact h.elim
    · rename_i ha
      split at h
      · rename_i c rest hr
        have hg : cs[off]? = some c := by
          have := congrArg (fun l => l[0]?) hr
          simpa using this
        obtain ⟨v, hv, hd⟩ := DCells.get hc hg
        refine ⟨c, h, v, ?_, hd⟩
        simp only [part, Sem.run_bind, T.run_isAgg hs, Result.andThen_ok, ha, Bool.false_eq_true, if_false]
        have : vs.toArray[off]? = some v := by simpa using hv
        simp [this]
      · exact h.elim

theorem partK_all {t off : Nat} {cs : List D} {J : D → Prop} (h : partK T t off cs J) :
    ∃ d, J d ∧ ∀ X ρ w (vs : List Value), DCells X ρ w cs vs → vs.length = cs.length → ∃ v, (part t vs.toArray off).run P w = .ok v w ∧ DCell X ρ w d v := by
  have key : ∃ d, J d ∧ partK T t off cs (· = d) := by
    unfold partK at h ⊢
    simp only [forceL_eq] at h ⊢
    split at h
    · exact h.elim
    · split at h
      · split at h
        · exact ⟨_, h, by simp_all⟩
        · exact h.elim
      · split at h
        · exact ⟨_, h, by simp_all⟩
        · exact h.elim
  obtain ⟨d, hJ, hp⟩ := key
  refine ⟨d, hJ, fun X ρ w vs hc hl => ?_⟩
  obtain ⟨d', rfl, v, hv, hd⟩ := partK_part hp hc hl
  exact ⟨v, hv, hd⟩
/-! ##### memory read -/
theorem cell_at {b off : Nat} {arr : Array Value} {e : TypeId} {fr : Nat × Nat} (hb : w.heap[b]? = some (.cells arr e fr)) (j : Nat) (u : Value) (hu : (arr.toList.drop off)[j]? = some u) :
    w.cell? ((⟨b, off, none⟩ : Addr).add j) = some u := by
  have : (⟨b, off, none⟩ : Addr).add j = ⟨b, off + j, none⟩ := by unfold Addr.add; split <;> simp_all
  rw [this]
  simp [World.cell?, hb]
  simpa using hu
theorem run_loadVar_agg {t b off : Nat} (hs : 0 < (T.ty t).size) (ha : (T.ty t).agg = true) {arr : Array Value} {e : TypeId} {fr : Nat × Nat} (hb : w.heap[b]? = some (.cells arr e fr)) (hle : (T.ty t).size ≤ (arr.toList.drop off).length) :
    (loadVar t ⟨b, off, none⟩).run P w = .ok (.agg ((arr.toList.drop off).take (T.ty t).size).toArray) w := by
  have hl : ((arr.toList.drop off).take (T.ty t).size).length = (T.ty t).size := by rw [List.length_take]; omega
  have := run_loadCells_list (P := P) (w := w) ⟨b, off, none⟩ ((arr.toList.drop off).take (T.ty t).size) (fun j u hu => cell_at hb j u (by
    rw [List.getElem?_take] at hu; split at hu <;> simp_all))
  rw [hl] at this
  simp only [loadVar, Sem.run_bind, T.run_isAgg hs, Result.andThen_ok, ha, if_true, T.run_size hs, this, Sem.run_pure]
theorem run_loadVar_one {t b off : Nat} (hs : 0 < (T.ty t).size) (ha : (T.ty t).agg = false) {arr : Array Value} {e : TypeId} {fr : Nat × Nat} (hb : w.heap[b]? = some (.cells arr e fr)) {v : Value} (hv : (arr.toList.drop off)[0]? = some v) :
    (loadVar t ⟨b, off, none⟩).run P w = .ok v w := by
  have := cell_at hb 0 v hv
  simp only [loadVar, Sem.run_bind, T.run_isAgg hs, Result.andThen_ok, ha, if_false, Bool.false_eq_true]
  have h0 : (⟨b, off, none⟩ : Addr).add 0 = ⟨b, off, none⟩ := rfl
  rw [h0] at this
  simp [run_load, this]
theorem load_part {t b off : Nat} {arr : Array Value} {e : TypeId} {fr : Nat × Nat} (hb : w.heap[b]? = some (.cells arr e fr)) {cs : List D} (hc : DCells X ρ w cs (arr.toList.drop off)) {J : D → Prop} (h : partK T t 0 cs J) :
    ∃ d, J d ∧ ∃ v, (loadVar t ⟨b, off, none⟩).run P w = .ok v w ∧ DCell X ρ w d v := by
  unfold partK at h
  simp only [forceL_eq] at h
  split at h
  · exact h.elim
  · rename_i n hn
    have hs : 0 < (T.ty t).size := by rw [hn]; omega
    split at h
    · rename_i ha
      split at h
      · rename_i r hr
        obtain ⟨h1, h2⟩ := takeN_eq hr
        subst h1
        simp only [List.drop_zero] at h2 h ⊢
        have hl := DCells.len hc
        refine ⟨_, h, _, run_loadVar_agg hs ha hb (by omega), _, rfl, ?_, ?_⟩
        · rw [List.length_take, List.length_take]; omega
        · rw [hn]; exact DCells.take _ hc
      · exact h.elim
    · rename_i ha
      split at h
      · rename_i c rest hr
        simp only [List.drop_zero] at hr
        subst hr
        obtain ⟨v, hv, hd⟩ := DCells.get hc (i := 0) rfl
        exact ⟨c, h, v, run_loadVar_one hs ha hb hv, hd⟩
      · exact h.elim
theorem partK_load {t : Nat} {cs : List D} {J : D → Prop} (h : partK T t 0 cs J) :
    ∃ d, J d ∧ ∀ X ρ w b off (arr : Array Value) e fr, w.heap[b]? = some (.cells arr e fr) → DCells X ρ w cs (arr.toList.drop off) → ∃ v, (loadVar t ⟨b, off, none⟩).run P w = .ok v w ∧ DCell X ρ w d v := by
  have key : ∃ d, J d ∧ partK T t 0 cs (· = d) := by
    unfold partK at h ⊢
    simp only [forceL_eq] at h ⊢
    split at h
    · exact h.elim
    · split at h
      · split at h
        · exact ⟨_, h, by simp_all⟩
        · exact h.elim
      · split at h
        · exact ⟨_, h, by simp_all⟩
        · exact h.elim
  obtain ⟨d, hJ, hp⟩ := key
  refine ⟨d, hJ, fun X ρ w b off arr e fr hb hc => ?_⟩
  obtain ⟨d', rfl, v, hv, hd⟩ := load_part hb hc hp
  exact ⟨v, hv, hd⟩
/-- One row of an object. -/
def rowK (o : Option (List D)) (K : List D → Prop) : Prop := match o with | some row => K row | none => False
/-- The cells behind a pointer. -/
def derefK (H : Nat → Ob) (d : Option D) (K : List D → Prop) : Prop :=
  match d with
  | some (.ptr p i j) => match H p with
    | .arr sz rows => rowK rows[i]? fun row => K (row.drop j)
    | _ => False
  | some (.v (.iptr cs)) => K (cs.map .v)
  | _ => False
theorem derefK_at {d : Option D} {J : List D → Prop} (h : derefK H d J) {tmps : Array Value} (r : Real T.glob X ρ w E H tmps) {x : D} {v : Value} (hx : d = some x) (hv : DCell X ρ w x v) :
    ∃ cs b off arr e fr, J cs ∧ v = .pointer (some ⟨b, off, none⟩) ∧ w.heap[b]? = some (.cells arr e fr) ∧ DCells X ρ w cs (arr.toList.drop off) := by
  subst hx
  unfold derefK rowK at h
  split at h
  · rename_i p i j heq
    injection heq with heq; subst heq
    split at h
    · rename_i sz rows hp
      split at h
      · rename_i row hrow
        have ho := r.obs p
        rw [hp] at ho
        unfold ObOK at ho
        obtain ⟨h0, h1, hm, h2⟩ := ho
        unfold DCell at hv
        cases hq : ρ p with
        | live b z cap =>
          simp only [hq] at h2 hv
          obtain ⟨rfl, e2, e3, cs, t, fr, hh, hs, hf, hr⟩ := h2
          refine ⟨_, b, i * z + j, cs, t, fr, h, hv, hh, ?_⟩
          have := DRows.get (fun r hr => (h1 r hr).1) hr hrow
          have := DCells.drop j this
          rwa [List.drop_drop] at this
        | null => simp only [hq] at hv
        | hole => simp only [hq] at hv
        | dead => simp only [hq] at h2
      · exact h.elim
    · exact h.elim
  · rename_i cs heq
    injection heq with heq; subst heq
    obtain ⟨b, off, arr, e, fr, hp, hX, hh, hc⟩ := hv
    exact ⟨_, b, off, arr, e, fr, h, hp, hh, VCells.toD hc⟩
  · exact h.elim

theorem derefK_all {x : D} {J : List D → Prop} (h : derefK H (some x) J) :
    ∃ cs, J cs ∧ ∀ X ρ w E (tmps : Array Value), Real T.glob X ρ w E H tmps → ∀ v, DCell X ρ w x v → ∃ b off arr e fr, v = .pointer (some ⟨b, off, none⟩) ∧ w.heap[b]? = some (.cells arr e fr) ∧ DCells X ρ w cs (arr.toList.drop off) := by
  have key : ∃ cs, J cs ∧ derefK H (some x) (· = cs) := by
    unfold derefK rowK at h ⊢
    split at h
    · split at h
      · split at h
        · exact ⟨_, h, by simp_all⟩
        · exact h.elim
      · exact h.elim
    · exact ⟨_, h, by simp_all⟩
    · exact h.elim
  obtain ⟨cs, hJ, hp⟩ := key
  refine ⟨cs, hJ, fun X ρ w E tmps r v hv => ?_⟩
  obtain ⟨cs', b, off, arr, e, fr, rfl, h1, h2, h3⟩ := derefK_at hp r rfl hv
  exact ⟨b, off, arr, e, fr, h1, h2, h3⟩

/-! ##### the operations that only read -/
def flatTy (T : Tab P) (t : Nat) : Bool := match (T.ty t).d with | .int _ | .bool | .str => !(T.ty t).agg && (T.ty t).size == 1 | _ => false
def flatFs (T : Tab P) : Nat → List (Nat × Nat) → Bool
  | _, [] => true
  | n, (t, o) :: fs => flatTy T t && o == n && flatFs T (n + 1) fs
def eqV (ty : Ty) (x y : V) : Option Bool :=
  match ty, x, y with
  | .int _, .int k a, .int k' b => match IntKind.same k k' with | true => some (a == b) | false => none
  | .bool, .bool a, .bool b => some (a == b)
  | .str, .str a, .str b => some (decide (a = b))
  | _, _, _ => none
def eqCells (T : Tab P) : List (Nat × Nat) → List V → List V → Option Bool
  | [], [], [] => some true
  | (t, _) :: fs, x :: xs, y :: ys => match eqV (T.ty t).d x y, eqCells T fs xs ys with
    | some p, some q => some (p && q)
    | _, _ => none
  | _, _, _ => none
theorem eqV_run {t : Nat} {x y : V} {b : Bool} (h : eqV (T.ty t).d x y = some b) {u v : Value} (hu : VCell X w x u) (hv : VCell X w y v) (d : Nat) : (Op.equalIn (d + 1) t u v).run P w = .ok b w := by
  unfold eqV at h
  split at h
  · rename_i k k1 a k' b' hd
    split at h
    · injection h with h; subst h
      unfold VCell at hu hv; subst hu; subst hv
      have := IntKind.same_eq (by assumption); subst this
      exact run_equalIn_int w d t k1 k a b' (T.int hd)
    · cases h
  · rename_i a b' hd
    injection h with h; subst h
    unfold VCell at hu hv; subst hu; subst hv
    exact run_equalIn_bool' w d t a b' (T.bool hd)
  · rename_i a b' hd
    injection h with h; subst h
    unfold VCell at hu hv; subst hu; subst hv
    rw [run_equalIn_string w d t a b' (T.str hd), str_eq_iff]
  · cases h
theorem eqFields_run : ∀ (fs : List (Nat × Nat)) (gs : List Field) (n : Nat) (xs ys : List V) (us vs : List Value) (b : Bool) (d : Nat), fs = gs.map (fun f => (f.type, f.offset)) → (∀ f ∈ gs, f.name ≠ "_") → flatFs T n fs = true →
    eqCells T fs xs ys = some b → VCells X w xs (us.drop n) → VCells X w ys (vs.drop n) → (Op.eqFields (d + 1) us.toArray vs.toArray gs).run P w = .ok b w
  | [], [], n, xs, ys, us, vs, b, d, _, _, _, hb, _, _ => by
    cases xs <;> cases ys <;> simp [eqCells] at hb
    subst hb; simp [Op.eqFields]
  | [], _ :: _, n, xs, ys, us, vs, b, d, h, _, _, hb, _, _ => by simp at h
  | _ :: _, [], n, xs, ys, us, vs, b, d, h, _, _, hb, _, _ => by simp at h
  | (t, o) :: fs, g :: gs, n, xs, ys, us, vs, b, d, h, hn, hf, hb, hx, hy => by
    simp at h
    obtain ⟨⟨rfl, rfl⟩, h⟩ := h
    simp only [flatFs, Bool.and_eq_true, beq_iff_eq] at hf
    obtain ⟨⟨hf1, hf2⟩, hf3⟩ := hf
    cases xs with
    | nil => simp [eqCells] at hb
    | cons x xs =>
      cases ys with
      | nil => simp [eqCells] at hb
      | cons y ys =>
        simp only [eqCells] at hb
        split at hb
        · rename_i p q hp hq
          injection hb with hb; subst hb
          have ih := eqFields_run fs gs (n + 1) xs ys us vs q d h (fun f hf => hn f (List.mem_cons_of_mem _ hf)) hf3 hq (by simpa [List.drop_drop, Nat.add_comm] using VCells.drop 1 hx) (by simpa [List.drop_drop, Nat.add_comm] using VCells.drop 1 hy)
          obtain ⟨u, hu, hxu⟩ := VCells.get hx (i := 0) rfl
          obtain ⟨v, hv, hyv⟩ := VCells.get hy (i := 0) rfl
          have hsz : 0 < (T.ty g.type).size ∧ (T.ty g.type).agg = false := by
            unfold flatTy at hf1
            split at hf1 <;> simp at hf1 <;> exact ⟨by omega, hf1.1⟩
          have pt : ∀ (ws : List Value) (z : Value), (ws.drop n)[0]? = some z → (part g.type ws.toArray g.offset).run P w = .ok z w := by
            intro ws z hz
            simp only [part, Sem.run_bind, T.run_isAgg hsz.1, Result.andThen_ok, hsz.2, Bool.false_eq_true, if_false]
            have : ws.toArray[g.offset]? = some z := by rw [hf2]; simpa using hz
            simp [this]
          have hne : g.name ≠ "_" := hn g List.mem_cons_self
          rw [Op.eqFields]
          simp only [if_pos hne, Sem.run_bind, pt us u hu, pt vs v hv, eqV_run hp hxu hyv d, Result.andThen_ok]
          cases p
          · simp
          · simpa using ih
        · cases hb
theorem eqStruct_run {t : Nat} {fs : List (Nat × Nat)} (hd : (T.ty t).d = .struct fs) (hok : (T.ty t).eqok = true) (hf : flatFs T 0 fs = true) {xs ys : List V} {b : Bool} (hb : eqCells T fs xs ys = some b)
    {us vs : List Value} (hx : VCells X w xs us) (hy : VCells X w ys vs) (xo yo : Operand) (op : BinOp) :
    (do eqGuard op t xo yo (.agg us.toArray) (.agg vs.toArray) : Sem Unit).run P w = .ok () w ∧ (Op.equal t (.agg us.toArray) (.agg vs.toArray)).run P w = .ok b w := by
  obtain ⟨gs, hu, hfs⟩ := T.struct hd
  have e : T.ty t = tiOf P t := by
    rcases T.ok t with e | e
    · exact e
    · rw [e] at hd; simp [TI.none] at hd
  rw [e] at hok
  unfold tiOf at hok
  rw [hu] at hok
  cases hi : P.info? t with
  | none => simp [hi, TI.none] at hok
  | some i =>
    simp only [hi, Bool.and_eq_true, Bool.not_eq_true'] at hok
    obtain ⟨⟨h1, h2⟩, h3⟩ := hok
    have hF : P.fieldsOf t = gs := by simp [Program.fieldsOf, hu]
    refine ⟨?_, ?_⟩
    · unfold eqGuard
      cases op <;> simp [h2]
    · have := run_equalIn_struct (P := P) w 9999 t us.toArray vs.toArray (by rw [hF]; exact hu) h1
      rw [hF] at this
      show (Op.equalIn (9999 + 1) t _ _).run P w = _
      rw [this]
      refine eqFields_run (T := T) fs gs.toList 0 xs ys us vs b 9998 hfs ?_ hf hb (by simpa using hx) (by simpa using hy)
      intro f hf'
      have := (Array.all_eq_true_iff_forall_mem.1 h3) f (by simpa using hf')
      simpa using this
end
end Go.DL
