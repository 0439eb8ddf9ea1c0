/- DL, part 39: an object that nobody writes any more is closed data from then on. Own work; no condition. -/
import Derived.Test.YtacpahgoomdfaaaDoorDl38
set_option linter.unusedVariables false
set_option linter.unusedSimpArgs false
namespace Go.DL
open Go.RowKit
mutual
def frz (p sz : Nat) (xs : List (List V)) : D → D
  | .arr q o n => bif Nat.beq q p && Nat.ble (o + n) xs.length then .v (.sl sz false ((xs.drop o).take n)) else .arr q o n
  | .agg ds => .agg (frzs p sz xs ds)
  | .tup ds => .tup (frzs p sz xs ds)
  | .fn f ds => .fn f (frzs p sz xs ds)
  | .any => .any
  | .v x => .v x
  | .ptr q i j => .ptr q i j
def frzs (p sz : Nat) (xs : List (List V)) : List D → List D
  | [] => []
  | d :: ds => frz p sz xs d :: frzs p sz xs ds
end
def frzOb (p sz : Nat) (xs : List (List V)) : Ob → Ob
  | .arr s rows => .arr s (rows.map (frzs p sz xs))
  | .gone => .gone
  | .cap q c => .cap q c
  | .iter s n => .iter s n
def frzE (p sz : Nat) (xs : List (List V)) : List (Nat × D) → List (Nat × D)
  | [] => []
  | (t, d) :: r => (t, frz p sz xs d) :: frzE p sz xs r
section
variable {P : Program} {T : Tab P} {m N : Nat} {σ : St} {Q : Exit → St → Prop}
theorem frz_one (p sz : Nat) (xs : List (List V)) : ∀ d : D, (frz p sz xs d).one = d.one
  | .arr q o n => by
    unfold frz
    cases Nat.beq q p && Nat.ble (o + n) xs.length <;> rfl
  | .agg ds => rfl
  | .tup ds => rfl
  | .fn f ds => rfl
  | .any => rfl
  | .v x => rfl
  | .ptr q i j => rfl
theorem frzs_all (p sz : Nat) (xs : List (List V)) : ∀ ds : List D, (frzs p sz xs ds).all D.one = ds.all D.one ∧ (frzs p sz xs ds).length = ds.length
  | [] => ⟨rfl, rfl⟩
  | d :: ds => by
    obtain ⟨h1, h2⟩ := frzs_all p sz xs ds
    simp [frzs, frz_one, h1, h2]
section
variable {X Y : Nat → Prop} {ρ ρ' : Nat → Slot} {w : World} {p sz : Nat} {xs : List (List V)}
mutual
theorem frz_cell (hD : ∀ o n v, o + n ≤ xs.length → DCell X ρ w (.arr p o n) v → VCell Y w (.sl sz false ((xs.drop o).take n)) v) (k : Keeps X w Y w) (s : Slots ρ ρ') : ∀ (d : D) (v : Value), DCell X ρ w d v → DCell Y ρ' w (frz p sz xs d) v
  | .arr q o n, v, h => by
    unfold frz
    cases hb : Nat.beq q p && Nat.ble (o + n) xs.length with
    | true =>
      simp only [Bool.and_eq_true] at hb
      have e := Nat.eq_of_beq_eq_true hb.1
      subst e
      exact hD o n v (Nat.le_of_ble_eq_true hb.2) h
    | false => exact DCell.keep k s _ _ h
  | .agg ds, v, h => by
    obtain ⟨vs, h1, h2, h3⟩ := h
    exact ⟨vs, h1, h2.trans (frzs_all p sz xs ds).2.symm, frzs_cell hD k s ds vs h3⟩
  | .tup ds, v, h => by
    obtain ⟨vs, h1, h2, h3⟩ := h
    exact ⟨vs, h1, h2.trans (frzs_all p sz xs ds).2.symm, frzs_cell hD k s ds vs h3⟩
  | .fn f ds, v, h => by
    obtain ⟨vs, h1, h2, h3⟩ := h
    exact ⟨vs, h1, h2.trans (frzs_all p sz xs ds).2.symm, frzs_cell hD k s ds vs h3⟩
  | .any, v, h => trivial
  | .v x, v, h => DCell.keep k s (.v x) _ h
  | .ptr q i j, v, h => DCell.keep k s (.ptr q i j) _ h
theorem frzs_cell (hD : ∀ o n v, o + n ≤ xs.length → DCell X ρ w (.arr p o n) v → VCell Y w (.sl sz false ((xs.drop o).take n)) v) (k : Keeps X w Y w) (s : Slots ρ ρ') : ∀ (ds : List D) (vs : List Value), DCells X ρ w ds vs → DCells Y ρ' w (frzs p sz xs ds) vs
  | [], _, _ => trivial
  | _ :: _, [], h => h
  | d :: ds, v :: vs, h => ⟨frz_cell hD k s d v h.1, frzs_cell hD k s ds vs h.2⟩
end
theorem frz_rows (hD : ∀ o n v, o + n ≤ xs.length → DCell X ρ w (.arr p o n) v → VCell Y w (.sl sz false ((xs.drop o).take n)) v) (k : Keeps X w Y w) (s : Slots ρ ρ') : ∀ (rs : List (List D)) (vs : List Value), DRows X ρ w rs vs → DRows Y ρ' w (rs.map (frzs p sz xs)) vs
  | [], _, _ => trivial
  | r :: rs, vs, h => ⟨frzs_cell hD k s r vs h.1, by rw [(frzs_all p sz xs r).2]; exact frz_rows hD k s rs _ h.2⟩
end
theorem frzE_look (p sz : Nat) (xs : List (List V)) : ∀ (env : List (Nat × D)) (t : Nat), look (frzE p sz xs env) t = (look env t).map (frz p sz xs)
  | [], t => rfl
  | (u, d) :: r, t => by
    simp only [frzE, look]
    cases Nat.beq u t with
    | true => rfl
    | false => exact frzE_look p sz xs r t
theorem obAt_map (f : Ob → Ob) (hf : f .gone = .gone) : ∀ (l : List Ob) (q : Nat), obAt (l.map f) q = f (obAt l q)
  | [], q => hf.symm
  | x :: l, 0 => rfl
  | x :: l, q + 1 => obAt_map f hf l q
theorem obAt_lt {l : List Ob} {q : Nat} (h : obAt l q ≠ .gone) : q < l.length := by
  rcases Nat.lt_or_ge q l.length with h' | h'
  · exact h'
  · exact absurd (obAt_ge h') h
theorem setOb_len' : ∀ {l : List Ob} {x : Ob} {q : Nat}, q < l.length → (setOb l q x).length = l.length
  | [], _, _, h => absurd h (Nat.not_lt_zero _)
  | y :: l, x, 0, _ => by simp [setOb]
  | y :: l, x, q + 1, h => by simp [setOb, setOb_len' (l := l) (x := x) (q := q) (by simpa using h)]
def frzS (p sz : Nat) (xs : List (List V)) (σ : St) : St := ⟨frzE p sz xs σ.env, (setOb σ.heap p .gone).map (frzOb p sz xs), σ.dec⟩
theorem Con.freeze {C : Ctx} {a : Act} {w : World} (p sz : Nat) (xs : List (List V)) (hp : obAt σ.heap p = .arr sz (vrows xs)) (k : Con T C σ a w) : Con T C (frzS p sz xs σ) a w := by
  have hlt : p < σ.heap.length := obAt_lt (by rw [hp]; simp)
  obtain ⟨X, ρ, rr, s, hh⟩ := k.real
  have hY : ∀ b, (X b ∧ ∀ s c, ρ p ≠ .live b s c) → X b := fun b h => h.1
  have kk : Keeps X w (fun b => X b ∧ ∀ s c, ρ p ≠ .live b s c) w := ⟨fun b _ hX hYb => hX hYb.1, fun b _ _ => rfl⟩
  have ss : Slots ρ (setSlot ρ p .dead) := fun q => by
    by_cases e : q = p
    · exact .inr (.inr (by simp [setSlot, e]))
    · exact .inr (.inl (by simp [setSlot, e]))
  have hD : ∀ o n v, o + n ≤ xs.length → DCell X ρ w (.arr p o n) v → VCell (fun b => X b ∧ ∀ s c, ρ p ≠ .live b s c) w (.sl sz false ((xs.drop o).take n)) v := by
    intro o n v hon hc
    refine DP_cell (H := fun q => if q = p then obAt σ.heap p else .gone) (ρ := ρ) (fun q => ?_) hY (fun q b z cap hq hl => ?_) (.arr p o n) (.sl sz false ((xs.drop o).take n)) v ?_ hc
    · by_cases e : q = p
      · subst e; simp only [if_pos rfl]; exact rr.obs q
      · simp only [if_neg e]; trivial
    · by_cases e : q = p
      · subst e; exact fun h => h.2 z cap hl
      · simp only [if_neg e] at hq; exact absurd rfl hq
    · unfold DP
      refine ⟨rfl, vrows xs, by simp only [if_pos rfl]; exact hp, ?_, by simp; omega⟩
      unfold vrows
      rw [List.drop_eq_extract, List.drop_eq_extract] <;> simp [List.map_take, List.map_drop]
  have mm : Mem (fun b => X b ∧ ∀ s c, ρ p ≠ .live b s c) (setSlot ρ p .dead) w := by
    refine ⟨fun b h => rr.mem.lt b h.1, fun q b z cap h => ?_, fun q r b z cap z' cap' h h' => ?_⟩
    · unfold setSlot at h
      split at h
      · cases h
      · rename_i e
        exact ⟨rr.mem.live q b z cap h, fun s c hl => e (rr.mem.inj q p b z cap s c h hl)⟩
    · unfold setSlot at h h'
      split at h
      · cases h
      · split at h'
        · cases h'
        · exact rr.mem.inj q r b z cap z' cap' h h'
  refine ⟨k.size, k.defers, k.dec, fun b => X b ∧ ∀ s c, ρ p ≠ .live b s c, setSlot ρ p .dead, ⟨fun g cs hg => VCell.keep kk _ _ (rr.glob g cs hg), mm, fun u d hu => ?_, fun u => ?_⟩, ?_, fun u hu => ?_⟩
  · show ∃ v, _
    have hu : look (frzE p sz xs σ.env) u = some d := hu
    rw [frzE_look] at hu
    cases hd : look σ.env u with
    | none => rw [hd] at hu; simp at hu
    | some d0 =>
      rw [hd] at hu
      simp only [Option.map_some, Option.some.injEq] at hu
      obtain ⟨v, hv, hc⟩ := rr.env u d0 hd
      exact ⟨v, hv, by rw [← hu]; exact frz_cell hD kk ss d0 v hc⟩
  · show ObOK _ _ _ _ (obAt ((setOb σ.heap p .gone).map (frzOb p sz xs)) u)
    rw [obAt_map _ rfl, obAt_set]
    split
    · trivial
    · rename_i e
      have ho := rr.obs u
      have hu : setSlot ρ p .dead u = ρ u := by simp [setSlot, e]
      cases hx : obAt σ.heap u with
      | gone => trivial
      | cap q c =>
        rw [hx] at ho
        obtain ⟨h1, h2, h3⟩ := ho
        by_cases eq : q = p
        · subst eq
          refine ⟨by simp [setSlot], by simp [setSlot], by simp [setSlot]⟩
        · exact ⟨by simpa [setSlot, eq] using h1, by simpa [setSlot, eq] using h2, by simpa [setSlot, eq] using h3⟩
      | iter s' n =>
        rw [hx] at ho
        obtain ⟨b, z, k', h1, h2⟩ := ho
        exact ⟨b, z, k', by rw [hu]; exact h1, h2⟩
      | arr sz' rows' =>
        rw [hx] at ho
        unfold ObOK at ho
        show ObOK _ _ _ _ (.arr sz' (rows'.map (frzs p sz xs)))
        unfold ObOK
        obtain ⟨h0, h1, h2, h3⟩ := ho
        refine ⟨h0, fun r hr => ?_, by simpa using h2, ?_⟩
        · obtain ⟨r0, hr0, rfl⟩ := List.mem_map.1 hr
          rw [(frzs_all p sz xs r0).1, (frzs_all p sz xs r0).2]
          exact h1 r0 hr0
        · rw [hu]
          cases hq : ρ u with
          | live b z cap =>
            simp only [hq] at h3 ⊢
            obtain ⟨e1, e2, e3, cs, t, fr, g1, g2, g3, g4⟩ := h3
            exact ⟨e1, by simpa using e2, e3, cs, t, fr, g1, g2, g3, frz_rows hD kk ss _ _ g4⟩
          | null => simp only [hq] at h3 ⊢; rw [h3]; rfl
          | hole => simp only [hq] at h3
          | dead => simp only [hq] at h3
  · refine ⟨s.os, s.tape, s.output, s.size, s.block, s.slots.trans ss, fun u h => absurd trivial h, fun b hb => ?_, fun b hb => s.xout b hb.1, fun q b z cap hq => ?_, mm⟩
    · rcases s.xin b hb with g | g
      · by_cases e : ∃ s' c', ρ p = .live b s' c'
        · obtain ⟨s', c', e⟩ := e
          rcases s.src p b s' c' e with ⟨q, s1, c1, h1⟩ | h1
          · exact .inr ⟨q, s1, c1, trivial, h1⟩
          · have := C.mem.lt b hb
            omega
        · exact .inl ⟨g, fun s' c' h => e ⟨s', c', h⟩⟩
      · exact .inr g
    · unfold setSlot at hq
      split at hq
      · cases hq
      · exact s.src q b z cap hq
  · have hu : ((setOb σ.heap p .gone).map (frzOb p sz xs)).length ≤ u := hu
    rw [List.length_map, setOb_len' hlt] at hu
    have e : u ≠ p := by omega
    show setSlot ρ p .dead u = .hole
    simp only [setSlot, if_neg e]
    exact hh u hu
attribute [local semireducible] WpD in
/-- An object of closed rows becomes closed data. -/
theorem WpD.freeze {c : Code} (p sz : Nat) (xs : List (List V)) {rows : List (List D)} (hp : obAt σ.heap p = .arr sz rows) (hx : rows = vrows xs)
    (h : WpD T m N c (frzS p sz xs σ) Q) : WpD T m N c σ Q := by
  subst hx
  intro C hN hmm a w k
  exact h C hN hmm a w (k.freeze p sz xs hp)
attribute [local semireducible] WpD in
theorem WpD.monoC {c : Code} {Q' : Exit → St → Prop} (h : WpD T m N c σ Q) (hq : ∀ e σ, Q e σ → ∃ σ2, (∀ (C : Ctx) a w, Con T C σ a w → Con T C σ2 a w) ∧ Q' e σ2) : WpD T m N c σ Q' := fun C hN hm a w k =>
  wp_mono (h C hN hm a w k) fun e a' w' ⟨σ', c', q⟩ => by
    obtain ⟨σ2, h1, h2⟩ := hq e σ' q
    exact ⟨σ2, h1 C a' w' c', h2⟩
/-- As Le, but first some objects become closed data. -/
def LeF (m : Nat) : List (Nat × Nat × List (List V)) → List Nat → St → St → Prop
  | [], th, σ, σ' => Le m th σ σ'
  | (p, sz, xs) :: r, th, σ, σ' => obAt σ.heap p = .arr sz (vrows xs) ∧ LeF m r th (frzS p sz xs σ) σ'
theorem LeF.out {P : Program} (T : Tab P) {m : Nat} : ∀ (fz : List (Nat × Nat × List (List V))) {th : List Nat} {σ σ' : St}, LeF m fz th σ σ' → ∃ σ2, (∀ (C : Ctx) a w, Con T C σ a w → Con T C σ2 a w) ∧ Le m th σ2 σ'
  | [], th, σ, σ', h => ⟨σ, fun C a w k => k, h⟩
  | (p, sz, xs) :: r, th, σ, σ', h => by
    obtain ⟨σ2, h1, h2⟩ := LeF.out T r h.2
    exact ⟨σ2, fun C a w k => h1 C a w (k.freeze p sz xs h.1), h2⟩
theorem WpD.loopF {ι : Type} (t : Nat) {c : Code} (hk : keyC c = some t) (S : ι → St) (p : ι → Prop) (μ : ι → Nat) (h0 : ∃ k th, p k ∧ Le m th σ (S k))
    (round : ∀ k, p k → WpD T m N c (S k) (thenQ (fun σ' => ∃ k' fz th, p k' ∧ LeF m fz th σ' (S k') ∧ μ k' < μ k) Q)) : WpD T m N (.loop c) σ Q :=
  WpD.loopAt t hk S p μ h0 fun k hk => (round k hk).monoC fun e σ q => by
    cases e with
    | normal =>
      obtain ⟨k', fz, th, h1, h2, h3⟩ := q
      obtain ⟨σ2, g1, g2⟩ := LeF.out T fz h2
      exact ⟨σ2, g1, k', th, h1, g2, h3⟩
    | _ => exact ⟨σ, fun C a w k => k, q⟩
end
end Go.DL
