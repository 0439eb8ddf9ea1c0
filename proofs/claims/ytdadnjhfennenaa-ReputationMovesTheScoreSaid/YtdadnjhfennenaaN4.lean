/- The plain law of ReputationOrderOfADay and ReputationMovesTheScore. No condition. -/
import Derived.Test.YtdadnjhfennenaaN3
set_option linter.unusedVariables false
set_option linter.unusedSimpArgs false
set_option maxHeartbeats 4000000
namespace Go.DL
open Go.Proofs

theorem flt_mk : ∀ (l : List Sd) (k : Nat) (p : Option Sd), (∀ x ∈ l, nOk x.n ∧ rOk x) → SS l → (∀ q x, p = some q → x ∈ l → sLt q.n x.n = true) → flt k p l = (0, 0)
  | [], k, p, _, _, _ => rfl
  | x :: r, k, p, h1, h2, h3 => by
    unfold SS SortL at h2
    rw [List.pairwise_cons] at h2
    have a := h1 x List.mem_cons_self
    simp only [flt]
    rw [if_neg (by simpa using a.1), if_neg (by simpa using a.2), if_neg]
    · exact flt_mk r _ _ (fun y hy => h1 y (List.mem_cons_of_mem _ hy)) h2.2 (fun q y hq hy => by injection hq with hq; subst hq; exact h2.1 y hy)
    · cases p with
      | none => simp [oOk]
      | some q => simp [oOk, h3 q x rfl List.mem_cons_self]
theorem sf_mk {l : List Sd} (h0 : l.length ≤ 300) (h1 : ∀ x ∈ l, nOk x.n ∧ rOk x) (h2 : SS l) : sFault l = (0, 0) := by
  unfold sFault
  rw [if_neg (by omega)]
  exact flt_mk l 0 none h1 h2 (fun q x h => by cases h)
theorem later_get {l : List Sd} (hs : Sorted l) {s : ByteArray} {now : Int} : later l s now = match gS s l with | some x => decide (dayOf now < x.d) | none => false := by
  cases hh : hasF s l with
  | true => obtain ⟨x, hx, hn, hg⟩ := has_get hs hh; rw [later_of hh hx, hg]
  | false => rw [later_not hh, not_get hs hh]
theorem has_isSome {l : List Sd} (hs : Sorted l) {s : ByteArray} : hasF s l = (gS s l).isSome := by
  cases hh : hasF s l with
  | true => obtain ⟨x, hx, hn, hg⟩ := has_get hs hh; rw [hg]; rfl
  | false => rw [not_get hs hh]; rfl
theorem aF_iff {l : List Sd} {s : ByteArray} {now : Int} : aFault l s now = (0, 0) ↔ sFault l = (0, 0) ∧ nOk s ∧ instOk now ∧ ∀ x, gS s l = some x → x.d ≤ dayOf now := by
  constructor
  · intro h
    obtain ⟨h1, h2⟩ := aF_ok h
    obtain ⟨a, b, c⟩ := cF_ok h1
    refine ⟨a, b, c, fun x hx => ?_⟩
    rw [later_get (sf_ok a).2.2, hx] at h2
    simpa using h2
  · rintro ⟨a, b, c, d⟩
    have hc : cFault l s now = (0, 0) := by unfold cFault; rw [if_neg (by simp [a]), if_neg (by simpa using b), if_neg (by simpa using c)]
    have hl : later l s now = false := by
      rw [later_get (sf_ok a).2.2]
      split
      · rename_i x hx; simpa using d x hx
      · rfl
    unfold aFault
    rw [if_neg (by simp [hc]), hl]; rfl
theorem nF_iff {l : List Sd} {s : ByteArray} {now : Int} : nFault l s now = (0, 0) ↔ aFault l s now = (0, 0) ∧ ¬ (gS s l = none ∧ l.length = 300) := by
  constructor
  · intro h
    have ha : aFault l s now = (0, 0) := by
      apply Classical.byContradiction
      intro hn
      unfold nFault at h; rw [if_pos hn] at h; exact hn h
    refine ⟨ha, fun ⟨h1, h2⟩ => ?_⟩
    have hh : hasF s l = false := by rw [has_isSome (sf_ok (aF_iff.1 ha).1).2.2, h1]; rfl
    unfold nFault at h
    rw [if_neg (by simp [ha]), if_pos ⟨hh, h2⟩] at h
    simp at h
  · rintro ⟨ha, hn⟩
    unfold nFault
    rw [if_neg (by simp [ha]), if_neg]
    rintro ⟨h1, h2⟩
    rw [has_isSome (sf_ok (aF_iff.1 ha).1).2.2] at h1
    exact hn ⟨by simpa using h1, h2⟩
theorem nF_z {l : List Sd} {s : ByteArray} {now : Int} (h : (nFault l s now).1 = 0) : nFault l s now = (0, 0) := by
  unfold nFault at h ⊢
  split
  · rename_i h1; rw [if_pos h1] at h; exact aF_z h
  · rename_i h1; rw [if_neg h1] at h
    split
    · rename_i h2; rw [if_pos h2] at h; simp at h
    · rfl
theorem upd_n {s : ByteArray} {junk : Bool} {now : Int} {o : Option Sd} (h : ∀ x, o = some x → x.n = s) : (upd1 s junk now o).n = s := by
  unfold upd1
  rw [bump_n]
  cases o with
  | some x => exact h x rfl
  | none => rfl
theorem upd_d {s : ByteArray} {junk : Bool} {now : Int} {o : Option Sd} : (upd1 s junk now o).d = dayOf now := by
  unfold upd1 bump
  cases o <;> cases junk <;> rfl
theorem upd_ok {s : ByteArray} {junk : Bool} {now : Int} {o : Option Sd} (hi : instOk now) (h : ∀ x, o = some x → rOk x) : rOk (upd1 s junk now o) := by
  unfold instOk at hi
  have hd : -795365 ≤ dayOf now ∧ dayOf now ≤ 795365 := by unfold dayOf; omega
  cases o with
  | none => cases junk <;> (unfold upd1 bump newb rOk; simp; omega)
  | some x =>
    have hx := h x rfl
    unfold rOk at hx
    have b1 := lv_le (n := x.g) (d := dayOf now - x.d) (by omega)
    have b2 := lv_le (n := x.b) (d := dayOf now - x.d) (by omega)
    cases junk <;> (unfold upd1 bump decd rOk; simp; omega)
/-- What is known of a list behind a message. -/
theorem noted_ok {l : List Sd} {s : ByteArray} {junk : Bool} {now : Int} (h : nFault l s now = (0, 0)) :
    sFault (noted l s junk now) = (0, 0) ∧ (∀ k, gS k (noted l s junk now) = if s = k then some (upd1 s junk now (gS s l)) else gS k l) ∧ (noted l s junk now).length = l.length + (if (gS s l).isSome then 0 else 1) := by
  obtain ⟨ha, hn⟩ := nF_iff.1 h
  obtain ⟨hs, hk, hi, hd⟩ := aF_iff.1 ha
  obtain ⟨hl, hr, hso⟩ := sf_ok hs
  have hSS := ss_of hso
  have hun : (upd1 s junk now (gS s l)).n = s := upd_n fun x hx => (getL_mem hx).2
  have hlen := length_putL sOrd (upd1 s junk now (gS s l)) hSS
  rw [hun] at hlen
  rw [noted_put hso]
  refine ⟨sf_mk ?_ ?_ (sort_putL sOrd _ hSS), fun k => ?_, hlen⟩
  · rw [hlen]
    cases hg : getL Sd.n s l with
    | some x => simpa using hl
    | none =>
      have : l.length ≠ 300 := fun e => hn ⟨hg, e⟩
      simp; omega
  · intro x hx
    rcases mem_putL hx with rfl | hx
    · exact ⟨by rw [hun]; exact hk, upd_ok hi fun y hy => (hr y (getL_mem hy).1).2⟩
    · exact hr x hx
  · have := getL_putL sOrd (upd1 s junk now (gS s l)) k hSS
    rw [hun] at this
    exact this
theorem lv_0 (n : Int) : lv n 0 = n := by simp [lv]
theorem upd_upd {s : ByteArray} {x y : Bool} {now : Int} {o : Option Sd} : upd1 s y now (some (upd1 s x now o)) = upd1 s x now (some (upd1 s y now o)) := by
  have e : ∀ (j : Bool) (z : Sd), z.d = dayOf now → decd (bump j z) now = bump j z := by
    intro j z hz
    cases j <;> simp [decd, bump, hz, lv_0]
  have hb : ∀ z : Sd, bump y (bump x z) = bump x (bump y z) := by
    intro z; cases x <;> cases y <;> simp [bump]
  unfold upd1
  dsimp only
  cases o with
  | none => dsimp only; rw [e _ _ rfl, e _ _ rfl, hb]
  | some z => dsimp only; rw [e _ _ rfl, e _ _ rfl, hb]
/-- Two messages of a day, in either order. -/
theorem two_orders {l : List Sd} {a b : ByteArray} {x y : Bool} {now : Int} (ha : nFault l a now = (0, 0)) (hb : nFault l b now = (0, 0)) :
    (nFault (noted l a x now) b now = (0, 0) ↔ nFault (noted l b y now) a now = (0, 0)) ∧ (nFault (noted l a x now) b now = (0, 0) → noted (noted l a x now) b y now = noted (noted l b y now) a x now) := by
  obtain ⟨p1, p2, p3⟩ := noted_ok (junk := x) ha
  obtain ⟨q1, q2, q3⟩ := noted_ok (junk := y) hb
  obtain ⟨ha1, ha2⟩ := nF_iff.1 ha
  obtain ⟨hb1, hb2⟩ := nF_iff.1 hb
  obtain ⟨hs, hka, hi, hda⟩ := aF_iff.1 ha1
  obtain ⟨_, hkb, _, hdb⟩ := aF_iff.1 hb1
  have hl := (sf_ok hs).1
  have fa : aFault (noted l a x now) b now = (0, 0) := by
    refine aF_iff.2 ⟨p1, hkb, hi, fun z hz => ?_⟩
    rw [p2] at hz
    split at hz
    · injection hz with hz; rw [← hz, upd_d]; exact Int.le_refl _
    · exact hdb z hz
  have fb : aFault (noted l b y now) a now = (0, 0) := by
    refine aF_iff.2 ⟨q1, hka, hi, fun z hz => ?_⟩
    rw [q2] at hz
    split at hz
    · injection hz with hz; rw [← hz, upd_d]; exact Int.le_refl _
    · exact hda z hz
  have hfull : nFault (noted l a x now) b now = (0, 0) ↔ nFault (noted l b y now) a now = (0, 0) := by
    rw [nF_iff, nF_iff]
    simp only [fa, fb, true_and]
    rw [p2, q2, p3, q3]
    by_cases e : a = b
    · subst e; simp
    · rw [if_neg e, if_neg (Ne.symm e)]
      cases hga : gS a l <;> cases hgb : gS b l <;> simp_all <;> omega
  refine ⟨hfull, fun h => ?_⟩
  have h' := hfull.1 h
  obtain ⟨r1, r2, r3⟩ := noted_ok (junk := y) h
  obtain ⟨s1, s2, s3⟩ := noted_ok (junk := x) h'
  refine ext_getL sOrd (ss_of (sf_ok r1).2.2) (ss_of (sf_ok s1).2.2) fun k => ?_
  have e1 := r2 k
  have e2 := s2 k
  unfold gS at e1 e2
  rw [e1, e2]
  have f1 := p2 b
  have f2 := q2 a
  have f3 := p2 k
  have f4 := q2 k
  unfold gS at f1 f2 f3 f4
  rw [f1, f2, f3, f4]
  by_cases e : a = b
  · subst e
    rw [if_pos rfl, if_pos rfl]
    by_cases ek : a = k
    · rw [if_pos ek, if_pos ek, upd_upd]
    · rw [if_neg ek, if_neg ek, if_neg ek, if_neg ek]
  · rw [if_neg e, if_neg (Ne.symm e)]
    by_cases ek : a = k
    · rw [if_pos ek, if_pos ek, if_neg (by rintro rfl; exact e ek)]
    · rw [if_neg ek, if_neg ek]
/-- The score of the one who is found. -/
def oSc (now : Int) : Option Sd → Int
  | some x => scoreOf x now
  | none => 0
theorem score_get {l : List Sd} (hs : Sorted l) {s : ByteArray} {now : Int} : scoreF l s now = oSc now (gS s l) := by
  cases hh : hasF s l with
  | true =>
    obtain ⟨x, hx, hn, hg⟩ := has_get hs hh
    unfold scoreF
    rw [hx, hg]; simp [hn, oSc]
  | false =>
    rw [not_get hs hh]
    unfold scoreF oSc
    unfold hasF at hh
    split
    · rename_i x hx; rw [hx] at hh; simp at hh; simp [hh]
    · rfl
theorem tdiv_mono {a a' c c' : Int} (hc : 0 < c) (hc' : 0 < c') (h : a * c' ≤ a' * c) : a.tdiv c ≤ a'.tdiv c' := by
  rcases Int.lt_or_le a' 0 with h1 | h1
  · have ha : a < 0 := by
      rcases Int.lt_or_le a 0 with h2 | h2
      · exact h2
      · have := Int.mul_nonneg h2 (Int.le_of_lt hc')
        have := Int.mul_neg_of_neg_of_pos h1 hc
        omega
    obtain ⟨u, rfl⟩ : ∃ u, a = -u := ⟨-a, by omega⟩
    obtain ⟨u', rfl⟩ : ∃ u, a' = -u := ⟨-a', by omega⟩
    rw [Int.neg_tdiv, Int.neg_tdiv, Int.tdiv_eq_ediv_of_nonneg (by omega), Int.tdiv_eq_ediv_of_nonneg (by omega)]
    have : u' / c' ≤ u / c := by
      apply (Int.le_ediv_iff_mul_le hc).2
      have h3 : u' / c' * c' ≤ u' := Int.ediv_mul_le _ (by omega)
      have h4 : u' / c' * c' * c ≤ u' * c := Int.mul_le_mul_of_nonneg_right h3 (by omega)
      have h5 : u' / c' * c * c' ≤ u * c' := by
        rw [Int.mul_right_comm]
        rw [Int.neg_mul, Int.neg_mul] at h
        omega
      exact Int.le_of_mul_le_mul_right h5 hc'
    omega
  · rcases Int.lt_or_le a 0 with h2 | h2
    · have h3 : 0 ≤ a'.tdiv c' := Int.tdiv_nonneg h1 (by omega)
      have h4 : a.tdiv c ≤ 0 := by
        obtain ⟨u, rfl⟩ : ∃ u, a = -u := ⟨-a, by omega⟩
        rw [Int.neg_tdiv]
        have := Int.tdiv_nonneg (a := u) (b := c) (by omega) (by omega)
        omega
      omega
    · rw [Int.tdiv_eq_ediv_of_nonneg h1, Int.tdiv_eq_ediv_of_nonneg h2]
      apply (Int.le_ediv_iff_mul_le hc').2
      have h3 : a / c * c ≤ a := Int.ediv_mul_le _ (by omega)
      have h4 : a / c * c * c' ≤ a * c' := Int.mul_le_mul_of_nonneg_right h3 (by omega)
      have h5 : a / c * c' * c ≤ a' * c := by rw [Int.mul_right_comm]; omega
      exact Int.le_of_mul_le_mul_right h5 hc
def pts (g b : Int) : Int := (1000 * (g - b)).tdiv (g + b + 1000)
theorem pts_g {g g' b : Int} (h0 : 0 ≤ g) (hb : 0 ≤ b) (h : g ≤ g') : pts g b ≤ pts g' b := by
  refine tdiv_mono (by omega) (by omega) ?_
  have e : 1000 * (g' - b) * (g + b + 1000) - 1000 * (g - b) * (g' + b + 1000) = 1000 * ((g' - g) * (2 * b + 1000)) := by grind
  have := Int.mul_nonneg (show 0 ≤ g' - g by omega) (show 0 ≤ 2 * b + 1000 by omega)
  omega
theorem pts_b {g b b' : Int} (h0 : 0 ≤ g) (hb : 0 ≤ b) (h : b ≤ b') : pts g b' ≤ pts g b := by
  refine tdiv_mono (by omega) (by omega) ?_
  have e : 1000 * (g - b) * (g + b' + 1000) - 1000 * (g - b') * (g + b + 1000) = 1000 * ((b' - b) * (2 * g + 1000)) := by grind
  have := Int.mul_nonneg (show 0 ≤ b' - b by omega) (show 0 ≤ 2 * g + 1000 by omega)
  omega
theorem score_upd {s : ByteArray} {junk : Bool} {now : Int} {o : Option Sd} (hr : ∀ x, o = some x → rOk x) :
    (junk = true → scoreOf (upd1 s junk now o) now ≤ oSc now o) ∧ (junk = false → oSc now o ≤ scoreOf (upd1 s junk now o) now) := by
  have e : ∀ z : Sd, z.d = dayOf now → scoreOf z now = pts z.g z.b := by
    intro z hz
    unfold scoreOf pts
    rw [hz, Int.sub_self, lv_0, lv_0]
  rw [e _ upd_d]
  have e2 : ∀ x : Sd, scoreOf x now = pts (decd x now).g (decd x now).b := fun x => rfl
  cases o with
  | none =>
    have h0 : pts 0 0 = 0 := by decide
    refine ⟨fun h => ?_, fun h => ?_⟩
    · subst h
      simp only [oSc]
      rw [← h0]
      exact pts_b (g := 0) (b := 0) (b' := min (0 + 1000) 1000000) (by decide) (by decide) (by decide)
    · subst h
      simp only [oSc]
      rw [← h0]
      exact pts_g (g := 0) (b := 0) (g' := min (0 + 1000) 1000000) (by decide) (by decide) (by decide)
  | some x =>
    have hx := hr x rfl
    unfold rOk at hx
    have b1 := lv_le (n := x.g) (d := dayOf now - x.d) (by omega)
    have b2 := lv_le (n := x.b) (d := dayOf now - x.d) (by omega)
    refine ⟨fun h => ?_, fun h => ?_⟩
    · subst h
      simp only [oSc]
      rw [e2]
      refine pts_b (g := lv x.g (dayOf now - x.d)) (b := lv x.b (dayOf now - x.d)) b1.1 b2.1 ?_
      show lv x.b (dayOf now - x.d) ≤ min (lv x.b (dayOf now - x.d) + 1000) 1000000
      omega
    · subst h
      simp only [oSc]
      rw [e2]
      refine pts_g (g := lv x.g (dayOf now - x.d)) (b := lv x.b (dayOf now - x.d)) b1.1 b2.1 ?_
      show lv x.g (dayOf now - x.d) ≤ min (lv x.g (dayOf now - x.d) + 1000) 1000000
      omega
/-- A message and the scores. -/
theorem moves {l : List Sd} {s t : ByteArray} {junk : Bool} {now : Int} (h : nFault l s now = (0, 0)) (ht : aFault l t now = (0, 0)) :
    aFault (noted l s junk now) t now = (0, 0) ∧ (t ≠ s → scoreF (noted l s junk now) t now = scoreF l t now) ∧ (junk = true → scoreF (noted l s junk now) s now ≤ scoreF l s now) ∧ (junk = false → scoreF l s now ≤ scoreF (noted l s junk now) s now) := by
  obtain ⟨p1, p2, p3⟩ := noted_ok (junk := junk) h
  obtain ⟨ha1, ha2⟩ := nF_iff.1 h
  obtain ⟨hs, hka, hi, hda⟩ := aF_iff.1 ha1
  obtain ⟨_, hkb, _, hdb⟩ := aF_iff.1 ht
  have hso := (sf_ok hs).2.2
  have hso' := (sf_ok p1).2.2
  refine ⟨aF_iff.2 ⟨p1, hkb, hi, fun z hz => ?_⟩, fun hne => ?_, ?_⟩
  · rw [p2] at hz
    split at hz
    · injection hz with hz; rw [← hz, upd_d]; exact Int.le_refl _
    · exact hdb z hz
  · rw [score_get hso', score_get hso, p2, if_neg (Ne.symm hne)]
  · rw [score_get hso', score_get hso, p2, if_pos rfl]
    exact score_upd fun x hx => ((sf_ok hs).2.1 x (getL_mem (key := Sd.n) (k := s) hx).1).2
end Go.DL
