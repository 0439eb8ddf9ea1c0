/- DL, part 16: what comes in from the row, as closed data. Own work; no condition. -/
import Derived.Test.YtdadnjhfennenaaDl15
import Derived.ChangeSlices
import Derived.SizedLaws
set_option linter.unusedVariables false
set_option linter.unusedSimpArgs false
namespace Go.DL
open Go.RowKit

/-- The cells of a type. -/
inductive Sh where
  | int (k : IntKind)
  | bool
  | str
  | sl (row : List Sh)
mutual
def Fits1 : Sh → V → Prop
  | .int k, .int k' n => k' = k ∧ (Lit.int k n).wf = true
  | .bool, .bool _ => True
  | .str, .str s => s.size ≤ maxLen
  | .sl row, .sl sz z xs => z = false ∧ sz = row.length ∧ ∀ r ∈ xs, FitsL row r
  | _, _ => False
def FitsL : List Sh → List V → Prop
  | [], [] => True
  | s :: ss, v :: vs => Fits1 s v ∧ FitsL ss vs
  | _, _ => False
end
theorem FitsL.one : ∀ {ss : List Sh} {vs : List V}, FitsL ss vs → vs.length = ss.length ∧ vs.all V.one = true
  | [], [], _ => ⟨rfl, rfl⟩
  | [], _ :: _, h => by unfold FitsL at h; exact h.elim
  | _ :: _, [], h => by unfold FitsL at h; exact h.elim
  | s :: ss, v :: vs, h => by
    unfold FitsL at h
    obtain ⟨h1, h2⟩ := FitsL.one h.2
    refine ⟨by simp [h1], ?_⟩
    simp only [List.all_cons, h2, Bool.and_true]
    have := h.1
    cases s <;> cases v <;> unfold Fits1 at this <;> first | rfl | exact this.elim
theorem FitsL.append : ∀ {ss tt : List Sh} {vs us : List V}, FitsL ss vs → FitsL tt us → FitsL (ss ++ tt) (vs ++ us)
  | [], tt, [], us, _, k => k
  | [], _, _ :: _, _, h, _ => by unfold FitsL at h; exact h.elim
  | _ :: _, _, [], _, h, _ => by unfold FitsL at h; exact h.elim
  | s :: ss, tt, v :: vs, us, h, k => by
    unfold FitsL at h
    exact ⟨h.1, FitsL.append h.2 k⟩
/-- The cells of a struct's fields, one behind the other. -/
def shFields (P : Program) (sub : TypeId → Option (List Sh)) : List Field → Nat → Option (List Sh)
  | [], _ => some []
  | f :: fs, o => match sub f.type, Nat.beq f.offset o with
    | some r, true => match Nat.beq r.length (P.cellsOf f.type) with
      | true => (shFields P sub fs (o + r.length)).map (r ++ ·)
      | false => none
    | _, _ => none
def shOf (P : Program) : Nat → TypeId → Option (List Sh)
  | 0, _ => none
  | m + 1, t => match P.underlying t with
    | some .bool => some [.bool]
    | some (.int k) => some [.int k]
    | some .string => some [.str]
    | some (.slice e) => match shOf P m e with
      | some r => match Nat.beq r.length (P.cellsOf e), Nat.blt 0 r.length, Nat.blt 0 (P.bytesOf e) with
        | true, true, true => some [.sl r]
        | _, _, _ => none
      | none => none
    | some (.struct fs) => match shFields P (shOf P m) fs.toList 0 with
      | some r => match Nat.beq r.length (P.cellsOf t) with
        | true => some r
        | false => none
      | none => none
    | _ => none
section
variable {H : Type} {enc : TypeId × Value → H} {P : Program} {w : World} {base : Nat} {sp : Nat → Bool} {held : Bool}
abbrev noX : Nat → Prop := fun _ => False
def Small (P : Program) (t : TypeId) (d : DataW H) : Prop := ∀ n ∈ d.weights P t, n ≤ reachBytes
theorem mapM_get {α β : Type} {f : α → Option β} : ∀ {l : List α} {r : List β}, l.mapM f = some r → r.length = l.length ∧ ∀ (i : Nat) x, l[i]? = some x → f x = r[i]?
  | [], r, h => by simp at h; subst h; simp
  | y :: l, r, h => by
    simp only [List.mapM_cons, Option.bind_eq_bind, Option.bind_eq_some_iff] at h
    obtain ⟨b, hb, bs, hbs, hr⟩ := h
    simp only [Option.pure_def, Option.some.injEq] at hr
    subst hr
    obtain ⟨h1, h2⟩ := mapM_get hbs
    refine ⟨by simp [h1], fun i x hx => ?_⟩
    cases i with
    | zero => simp at hx; subst hx; simpa using hb
    | succ i => simpa using h2 i x (by simpa using hx)
theorem cells_get {a : Addr} {n : Nat} {cs : List Value} (h : w.cells? base a n = some cs) : cs.length = n ∧ ∀ i, i < n → w.cell? (a.add i) = cs[i]? := by
  unfold World.cells? at h
  split at h
  · obtain ⟨h1, h2⟩ := mapM_get h
    exact ⟨by simpa using h1, fun i hi => h2 i i (by simp [hi])⟩
  · cases h
theorem weightsEach_mem : ∀ {ts : List TypeId} {ds : List (DataW H)} {j : Nat} {t : TypeId} {d : DataW H}, ts[j]? = some t → ds[j]? = some d → ∀ n ∈ d.weights P t, n ∈ DataW.weightsEach P ts ds := fun h1 h2 => DataW.weights_mem_each h1 h2
theorem weightsAll_mem {e : TypeId} : ∀ {ds : List (DataW H)} {d : DataW H}, d ∈ ds → ∀ n ∈ d.weights P e, n ∈ DataW.weightsAll P e ds
  | [], d, h, _, _ => by cases h
  | d0 :: ds, d, h, n, hn => by
    unfold DataW.weightsAll
    rcases List.mem_cons.1 h with rfl | h
    · exact List.mem_append_left _ hn
    · exact List.mem_append_right _ (weightsAll_mem h n hn)
theorem VCells.app {X : Nat → Prop} : ∀ {xs ys : List V} {us vs : List Value}, VCells X w xs us → us.length = xs.length → VCells X w ys vs → VCells X w (xs ++ ys) (us ++ vs)
  | [], ys, us, vs, _, hl, k => by
    have : us = [] := List.length_eq_zero_iff.1 hl
    subst this; exact k
  | x :: xs, ys, [], vs, h, _, _ => h.elim
  | x :: xs, ys, u :: us, vs, h, hl, k => ⟨h.1, VCells.app h.2 (by simpa using hl) k⟩
theorem VCells.morev {X : Nat → Prop} : ∀ {xs : List V} {us vs : List Value}, VCells X w xs us → VCells X w xs (us ++ vs)
  | [], _, _, _ => trivial
  | _ :: _, [], _, h => h.elim
  | x :: xs, u :: us, vs, h => ⟨h.1, VCells.morev h.2⟩
/-- The rows of a slice out of its elements' cells. -/
theorem rows_of {X : Nat → Prop} {rl : Nat} {all : List Value} : ∀ (xs : List (List V)) (o : Nat), (∀ (i : Nat) r, xs[i]? = some r → r.length = rl ∧ ∃ cs : List Value, cs.length = rl ∧ VCells X w r cs ∧ ∀ j, j < rl → all[o + i * rl + j]? = cs[j]?) → VRows X w xs (all.drop o)
  | [], o, _ => trivial
  | r :: xs, o, h => by
    obtain ⟨hl, cs, hcl, hc, hg⟩ := h 0 r rfl
    refine ⟨?_, ?_⟩
    · have e : (all.drop o).take rl = cs := by
        apply List.ext_getElem?
        intro j
        by_cases hj : j < rl
        · rw [List.getElem?_take, if_pos hj, List.getElem?_drop, ← hg j hj]; simp
        · rw [List.getElem?_eq_none (by simp; omega), List.getElem?_eq_none (by omega)]
      rw [← List.take_append_drop rl (all.drop o), e]
      exact VCells.morev hc
    · rw [List.drop_drop, hl]
      refine rows_of (rl := rl) xs (o + rl) fun i q hq => ?_
      obtain ⟨h1, cs', h2, h3, h4⟩ := h (i + 1) q (by simpa using hq)
      refine ⟨h1, cs', h2, h3, fun j hj => ?_⟩
      rw [← h4 j hj]; congr 1; rw [Nat.add_mul, Nat.one_mul]; omega
theorem fields_ok {sub : TypeId → Option (List Sh)} {cs : List Value} (hsub : ∀ {t : TypeId} {sh : List Sh} {fuel : Nat} {cs : List Value} {x : DataW H × List MemPlace}, sub t = some sh → DataW.trod enc P w base sp held fuel t cs = some x → Small P t x.1 → ∃ vs, VCells noX w vs cs ∧ cs.length = vs.length ∧ FitsL sh vs) :
    ∀ (l : List Field) (o : Nat) (sh : List Sh), shFields P sub l o = some sh → (∀ f ∈ l, ∃ fuel x, DataW.trod enc P w base sp held fuel f.type ((cs.drop f.offset).take (P.cellsOf f.type)) = some x ∧ Small P f.type x.1) → ∃ vs, VCells noX w vs (cs.drop o) ∧ FitsL sh vs
  | [], o, sh, h, _ => by simp [shFields] at h; subst h; exact ⟨[], trivial, trivial⟩
  | f :: l, o, sh, h, hf => by
    simp only [shFields] at h
    split at h
    · rename_i r hr ho
      have ho := Nat.eq_of_beq_eq_true ho
      split at h
      · rename_i hc
        have hc := Nat.eq_of_beq_eq_true hc
        rw [Option.map_eq_some_iff] at h
        obtain ⟨sh', hsh', rfl⟩ := h
        obtain ⟨fuel, x, hx, hsm⟩ := hf f List.mem_cons_self
        obtain ⟨v1, h1, h2, h3⟩ := hsub hr hx hsm
        obtain ⟨v2, h4, h5⟩ := fields_ok hsub l (o + r.length) sh' hsh' (fun g hg => hf g (List.mem_cons_of_mem _ hg))
        have hv1 := h3.one.1
        rw [ho] at h1 h2
        refine ⟨v1 ++ v2, ?_, h3.append h5⟩
        rw [← List.take_append_drop (P.cellsOf f.type) (cs.drop o)]
        refine VCells.app h1 h2 ?_
        rw [List.drop_drop, ← hc]
        exact h4
      · cases h
    · cases h
theorem trod_sh : ∀ (m : Nat) {t : TypeId} {sh : List Sh} {fuel : Nat} {cs : List Value} {x : DataW H × List MemPlace}, shOf P m t = some sh → DataW.trod enc P w base sp held fuel t cs = some x → Small P t x.1 → ∃ vs, VCells noX w vs cs ∧ cs.length = vs.length ∧ FitsL sh vs
  | 0, t, sh, fuel, cs, x, h, _, _ => by simp [shOf] at h
  | m + 1, t, sh, fuel, cs, x, h, hx, hsm => by
    unfold shOf at h
    split at h
    · rename_i ht
      injection h with h; subst h
      obtain ⟨b, rfl, rfl⟩ := DataW.trod_bool ht hx
      exact ⟨[.bool b], ⟨rfl, trivial⟩, rfl, ⟨trivial, trivial⟩⟩
    · rename_i k ht
      injection h with h; subst h
      obtain ⟨n, rfl, rfl, hw⟩ := DataW.trod_int ht hx
      exact ⟨[.int k n], ⟨rfl, trivial⟩, rfl, ⟨⟨rfl, hw⟩, trivial⟩⟩
    · rename_i ht
      injection h with h; subst h
      obtain ⟨s, rfl, rfl, hw⟩ := DataW.trod_string ht hx
      exact ⟨[.str s], ⟨rfl, trivial⟩, rfl, ⟨hw, trivial⟩⟩
    · rename_i e ht
      split at h
      · rename_i r hr
        split at h
        · rename_i h1 h2 h3
          injection h with h; subst h
          have h1 := Nat.eq_of_beq_eq_true h1
          have h2 : 0 < r.length := Nat.le_of_ble_eq_true h2
          have h3 : 0 < P.bytesOf e := Nat.le_of_ble_eq_true h3
          rcases DataW.trod_slice ht hx with ⟨rfl, rfl⟩ | ⟨a, len, cap, elems, rest, n, rfl, rfl, rfl, hb, hlc, hcm, hel, hget, _, _⟩
          · refine ⟨[.sl r.length false []], ⟨⟨h2, by simp, by simp, (fun h => by cases h), none, 0, rfl, by simp, by simp, fun h => absurd rfl h⟩, trivial⟩, rfl, ⟨⟨rfl, rfl, by simp⟩, trivial⟩⟩
          · have hlen : len ≤ lenMax := by
              have := hsm ((elems.length + rest.length) * P.bytesOf e) (by simp [DataW.weights, ht])
              have h4 : len * 1 ≤ (elems.length + rest.length) * P.bytesOf e := Nat.mul_le_mul (by omega) h3
              have h5 : reachBytes ≤ lenMax := by decide
              omega
            have each : ∀ i, i < len → ∃ vs cs', w.cells? base (a.add (i * P.cellsOf e)) (P.cellsOf e) = some cs' ∧ VCells noX w vs cs' ∧ cs'.length = vs.length ∧ FitsL r vs := by
              intro i hi
              have hg := hget i hi
              have hi' : i < elems.length := by omega
              rw [List.getElem?_eq_getElem hi', Option.bind_eq_some_iff] at hg
              obtain ⟨cs', hc', ht'⟩ := hg
              obtain ⟨vs, k1, k2, k3⟩ := trod_sh m hr ht' (fun q hq => hsm q (by
                simp only [DataW.weights, ht]
                refine List.mem_cons_of_mem _ (List.mem_append_left _ ?_)
                exact weightsAll_mem (List.mem_map.2 ⟨elems[i], List.getElem_mem hi', rfl⟩) q hq))
              exact ⟨vs, cs', hc', k1, k2, k3⟩
            let f : Nat → List V := fun i => if h : i < len then Classical.choose (each i h) else []
            have hf : ∀ i, i < len → ∃ cs', w.cells? base (a.add (i * P.cellsOf e)) (P.cellsOf e) = some cs' ∧ VCells noX w (f i) cs' ∧ cs'.length = (f i).length ∧ FitsL r (f i) := by
              intro i hi
              have := Classical.choose_spec (each i hi)
              simp only [f, dif_pos hi]
              exact this
            have hmem : ∀ q ∈ (List.range len).map f, FitsL r q := by
              intro q hq
              obtain ⟨i, hi, rfl⟩ := List.mem_map.1 hq
              obtain ⟨_, _, _, _, h⟩ := hf i (List.mem_range.1 hi)
              exact h
            have hxl : ((List.range len).map f).length = len := by simp
            refine ⟨[.sl r.length false ((List.range len).map f)], ⟨⟨h2, fun q hq => (hmem q hq).one, by rw [hxl]; exact hlen, (fun h => by cases h), some a, cap, by rw [hxl], by rw [hxl]; exact hlc, hcm, fun hne => ?_⟩, trivial⟩, rfl, ⟨⟨rfl, rfl, hmem⟩, trivial⟩⟩
            have hpos : 0 < len := by
              rcases Nat.eq_zero_or_pos len with h | h
              · subst h; simp at hne
              · exact h
            obtain ⟨cs0, c1, c2, c3, c4⟩ := hf 0 hpos
            obtain ⟨g1, g2⟩ := cells_get c1
            have hcell := g2 0 (by omega)
            have hcs0 : ∃ u, cs0[0]? = some u := ⟨cs0[0]'(by omega), by simp [show 0 < cs0.length by omega]⟩
            obtain ⟨u, hu⟩ := hcs0
            rw [hu] at hcell
            obtain ⟨b, off, spot⟩ := a
            cases spot with
            | some z =>
              exfalso
              unfold World.cell? at hcell
              simp only [Addr.add, Nat.zero_mul, if_true] at hcell
              split at hcell <;> simp at hcell
            | none =>
              rw [addr_add, addr_add] at hcell
              unfold World.cell? at hcell
              split at hcell
              · rename_i arr ty fr hh
                refine ⟨b, off, arr, ty, fr, rfl, fun h => h, hh, ?_⟩
                refine rows_of (rl := r.length) _ off fun i q hq => ?_
                rw [List.getElem?_map] at hq
                have hi : i < len := by
                  by_cases hi : i < len
                  · exact hi
                  · rw [List.getElem?_eq_none (by simp; omega)] at hq; cases hq
                rw [List.getElem?_range hi] at hq
                injection hq with hq; subst hq
                obtain ⟨cs', d1, d2, d3, d4⟩ := hf i hi
                obtain ⟨g3, g4⟩ := cells_get d1
                refine ⟨d4.one.1, cs', by omega, d2, fun j hj => ?_⟩
                rw [← g4 j (by omega), addr_add, addr_add, h1]
                simp [World.cell?, hh]
              · cases hcell
        · cases h
      · cases h
    · rename_i fs ht
      split at h
      · rename_i r hr
        split at h
        · rename_i hc
          have hc := Nat.eq_of_beq_eq_true hc
          injection h with h; subst h
          obtain ⟨xs, n, rfl, rfl, hl, hxl, hget⟩ := DataW.trod_struct ht hx
          obtain ⟨vs, k1, k2⟩ := fields_ok (cs := cs) (fun h1 h2 h3 => trod_sh m h1 h2 h3) fs.toList 0 r hr (fun f hf => by
            obtain ⟨i, hi, rfl⟩ := List.mem_iff_getElem.1 hf
            have hi' : i < fs.size := by simpa using hi
            have hg := hget i fs[i] (by simp [hi'])
            have hix : i < xs.length := by omega
            refine ⟨n, xs[i], ?_, fun q hq => hsm q ?_⟩
            · rw [← List.getElem?_eq_getElem hix, ← hg]; rfl
            · simp only [DataW.weights, ht]
              exact DataW.weights_mem_each (j := i) (by simp [hi']) (by simp [hix]) q hq)
          refine ⟨vs, k1, ?_, k2⟩
          rw [hl, k2.one.1, hc]
        · cases h
      · cases h
    · cases h
end
end Go.DL
