/- DL, part 19: sorted lists with keys. Own work; no condition. -/
import Derived.Test.YtdadnjhfennenaaB0
set_option linter.unusedVariables false
set_option linter.unusedSimpArgs false
namespace Go.DL

/-- A strict order of keys in which any two are comparable. -/
structure LinOrd {κ : Type} (lt : κ → κ → Bool) : Prop where
  irrefl : ∀ a, lt a a = false
  trans : ∀ {a b c}, lt a b = true → lt b c = true → lt a c = true
  tri : ∀ a b, lt a b = true ∨ a = b ∨ lt b a = true
theorem sOrd : LinOrd sLt := ⟨sLt_irrefl, fun h k => sLt_trans h k, sLt_tri⟩
section
variable {κ : Type} {lt : κ → κ → Bool}
theorem LinOrd.asymm (o : LinOrd lt) {a b : κ} (h : lt a b = true) : lt b a = false := by
  cases hb : lt b a with
  | false => rfl
  | true => have := o.trans h hb; rw [o.irrefl] at this; cases this
theorem LinOrd.ne (o : LinOrd lt) {a b : κ} (h : lt a b = true) : a ≠ b := by
  rintro rfl; rw [o.irrefl] at h; cases h
end
section
variable {α κ : Type} {lt : κ → κ → Bool} {key : α → κ}
variable (lt key) in
def SortL (l : List α) : Prop := l.Pairwise fun x y => lt (key x) (key y) = true
variable (lt key) in
/-- How many keys are ahead. -/
def posL (k : κ) (l : List α) : Nat := l.findIdx fun x => !lt (key x) k
theorem posL_le (k : κ) (l : List α) : posL lt key k l ≤ l.length := List.findIdx_le_length
theorem posL_eq {k : κ} {l : List α} {i : Nat} (h0 : i ≤ l.length) (h1 : ∀ (j : Nat) x, j < i → l[j]? = some x → lt (key x) k = true) (h2 : ∀ x, l[i]? = some x → lt (key x) k = false) : posL lt key k l = i := by
  unfold posL
  by_cases h : i < l.length
  · rw [List.findIdx_eq h]
    refine ⟨by simp [h2 l[i] (by simp [h])], fun j hj => ?_⟩
    simp [h1 j l[j] hj (by simp)]
  · have : i = l.length := by omega
    subst this
    rw [List.findIdx_eq_length]
    intro x hx
    obtain ⟨j, hj, rfl⟩ := List.mem_iff_getElem.1 hx
    simp [h1 j l[j] hj (by simp [hj])]
theorem sort_get {l : List α} (h : SortL lt key l) {i j : Nat} {x y : α} (hij : i < j) (hx : l[i]? = some x) (hy : l[j]? = some y) : lt (key x) (key y) = true := by
  unfold SortL at h
  rw [List.pairwise_iff_getElem] at h
  obtain ⟨hi, rfl⟩ := List.getElem?_eq_some_iff.1 hx
  obtain ⟨hj, rfl⟩ := List.getElem?_eq_some_iff.1 hy
  exact h i j hi hj hij
/-- A list without some of its elements. -/
theorem sort_filter {l : List α} (p : α → Bool) (h : SortL lt key l) : SortL lt key (l.filter p) := List.Pairwise.filter p h
end
section
variable {α κ : Type} [DecidableEq κ] {lt : κ → κ → Bool} {key : α → κ}
variable (lt key) in
def putL (y : α) : List α → List α
  | [] => [y]
  | x :: r => if lt (key x) (key y) = true then x :: putL y r else if key x = key y then y :: r else y :: x :: r
variable (key) in
def getL (k : κ) : List α → Option α
  | [] => none
  | x :: r => if key x = k then some x else getL k r
theorem getL_none {k : κ} : ∀ {l : List α}, (∀ x ∈ l, key x ≠ k) → getL key k l = none
  | [], _ => rfl
  | x :: r, h => by
    simp only [getL, if_neg (h x List.mem_cons_self)]
    exact getL_none fun y hy => h y (List.mem_cons_of_mem _ hy)
theorem getL_mem {k : κ} : ∀ {l : List α} {x : α}, getL key k l = some x → x ∈ l ∧ key x = k
  | [], x, h => by simp [getL] at h
  | y :: r, x, h => by
    simp only [getL] at h
    split at h
    · injection h with h; subst h; exact ⟨List.mem_cons_self, by assumption⟩
    · obtain ⟨h1, h2⟩ := getL_mem h; exact ⟨List.mem_cons_of_mem _ h1, h2⟩
theorem getL_is (o : LinOrd lt) : ∀ {l : List α} {x : α}, SortL lt key l → x ∈ l → getL key (key x) l = some x
  | [], x, _, h => by cases h
  | y :: r, x, hs, h => by
    unfold SortL at hs
    rw [List.pairwise_cons] at hs
    simp only [getL]
    rcases List.mem_cons.1 h with rfl | h
    · rw [if_pos rfl]
    · rw [if_neg (o.ne (hs.1 x h))]; exact getL_is o hs.2 h
theorem mem_putL {y x : α} : ∀ {l : List α}, x ∈ putL lt key y l → x = y ∨ x ∈ l
  | [], h => by simp [putL] at h; exact .inl h
  | z :: r, h => by
    simp only [putL] at h
    split at h
    · rcases List.mem_cons.1 h with rfl | h
      · exact .inr List.mem_cons_self
      · rcases mem_putL h with h | h
        · exact .inl h
        · exact .inr (List.mem_cons_of_mem _ h)
    · split at h
      · rcases List.mem_cons.1 h with rfl | h
        · exact .inl rfl
        · exact .inr (List.mem_cons_of_mem _ h)
      · rcases List.mem_cons.1 h with rfl | h
        · exact .inl rfl
        · exact .inr h
theorem sort_putL (o : LinOrd lt) (y : α) : ∀ {l : List α}, SortL lt key l → SortL lt key (putL lt key y l)
  | [], _ => by simp [putL, SortL]
  | x :: r, hs => by
    have hs' := hs
    unfold SortL at hs
    rw [List.pairwise_cons] at hs
    simp only [putL]
    split
    · rename_i h
      refine List.pairwise_cons.2 ⟨fun z hz => ?_, sort_putL o y hs.2⟩
      rcases mem_putL hz with rfl | hz
      · exact h
      · exact hs.1 z hz
    · split
      · rename_i h e
        exact List.pairwise_cons.2 ⟨fun z hz => e ▸ hs.1 z hz, hs.2⟩
      · rename_i h e
        have hyx : lt (key y) (key x) = true := (o.tri (key y) (key x)).elim id fun h' => h'.elim (fun h' => absurd h'.symm e) fun h' => absurd h' h
        refine List.pairwise_cons.2 ⟨fun z hz => ?_, hs'⟩
        rcases List.mem_cons.1 hz with rfl | hz
        · exact hyx
        · exact o.trans hyx (hs.1 z hz)
theorem getL_putL (o : LinOrd lt) (y : α) (k : κ) : ∀ {l : List α}, SortL lt key l → getL key k (putL lt key y l) = if key y = k then some y else getL key k l
  | [], _ => by simp [putL, getL]
  | x :: r, hs => by
    unfold SortL at hs
    rw [List.pairwise_cons] at hs
    simp only [putL]
    split
    · rename_i h
      simp only [getL]
      rw [getL_putL o y k hs.2]
      by_cases hx : key x = k
      · rw [if_pos hx, if_pos hx, if_neg (by rw [← hx]; exact (o.ne h).symm)]
      · rw [if_neg hx, if_neg hx]
    · split
      · rename_i h e
        simp only [getL, e]
        by_cases hy : key y = k
        · rw [if_pos hy, if_pos hy]
        · rw [if_neg hy, if_neg hy, if_neg hy]
      · simp only [getL]
theorem length_putL (o : LinOrd lt) (y : α) : ∀ {l : List α}, SortL lt key l → (putL lt key y l).length = l.length + (if (getL key (key y) l).isSome then 0 else 1)
  | [], _ => by simp [putL, getL]
  | x :: r, hs => by
    have hs' := hs
    unfold SortL at hs
    rw [List.pairwise_cons] at hs
    simp only [putL]
    split
    · rename_i h
      simp only [getL, if_neg (o.ne h), List.length_cons]
      rw [length_putL o y hs.2]; omega
    · split
      · rename_i h e
        simp [getL, e]
      · rename_i h e
        have hyx : lt (key y) (key x) = true := (o.tri (key y) (key x)).elim id fun h' => h'.elim (fun h' => absurd h'.symm e) fun h' => absurd h' h
        rw [getL_none (fun z hz => ?_)]
        · simp
        · rcases List.mem_cons.1 hz with rfl | hz
          · exact e
          · exact (o.ne (o.trans hyx (hs.1 z hz))).symm
/-- Sorted lists in which the same is found are the same. -/
theorem ext_getL (o : LinOrd lt) : ∀ {l m : List α}, SortL lt key l → SortL lt key m → (∀ k, getL key k l = getL key k m) → l = m
  | [], [], _, _, _ => rfl
  | [], y :: m, _, _, h => by have := h (key y); simp [getL] at this
  | x :: l, [], _, _, h => by have := h (key x); simp [getL] at this
  | x :: l, y :: m, hl, hm, h => by
    have hl0 := hl
    have hm0 := hm
    unfold SortL at hl hm
    rw [List.pairwise_cons] at hl hm
    have hk : key x = key y := by
      rcases o.tri (key x) (key y) with h1 | h1 | h1
      · have := h (key x)
        rw [getL_is o hl0 List.mem_cons_self, getL_none (l := y :: m)] at this
        · cases this
        · intro z hz
          rcases List.mem_cons.1 hz with rfl | hz
          · exact (o.ne h1).symm
          · exact (o.ne (o.trans h1 (hm.1 z hz))).symm
      · exact h1
      · have := h (key y)
        rw [getL_is o hm0 List.mem_cons_self, getL_none (l := x :: l)] at this
        · cases this
        · intro z hz
          rcases List.mem_cons.1 hz with rfl | hz
          · exact (o.ne h1).symm
          · exact (o.ne (o.trans h1 (hl.1 z hz))).symm
    have hxy : x = y := by
      have := h (key x)
      rw [getL_is o hl0 List.mem_cons_self, hk, getL_is o hm0 List.mem_cons_self] at this
      injection this
    subst hxy
    congr 1
    refine ext_getL o hl.2 hm.2 fun k => ?_
    have := h k
    simp only [getL] at this
    split at this
    · rename_i e
      rw [getL_none, getL_none]
      · intro z hz; rw [← e]; exact (o.ne (hm.1 z hz)).symm
      · intro z hz; rw [← e]; exact (o.ne (hl.1 z hz)).symm
    · exact this
theorem putL_pos (y : α) : ∀ (l : List α), putL lt key y l = l.take (posL lt key (key y) l) ++ y :: l.drop (posL lt key (key y) l + if ((l[posL lt key (key y) l]?).map key) = some (key y) then 1 else 0)
  | [] => by simp [putL, posL]
  | x :: r => by
    simp only [putL, posL, List.findIdx_cons]
    by_cases h : lt (key x) (key y) = true
    · rw [if_pos h, putL_pos y r, h]
      simp [posL, Nat.add_right_comm _ 1]
    · rw [if_neg h]
      simp only [h, Bool.not_false, cond_true, List.take_zero, List.nil_append, List.getElem?_cons_zero, Option.map_some, Nat.zero_add]
      by_cases e : key x = key y
      · rw [if_pos e, if_pos (by rw [e])]; simp
      · rw [if_neg e, if_neg (by simpa using e)]; simp
variable (lt key) in
/-- Is the key there? -/
def hasL (k : κ) (l : List α) : Bool := match l[posL lt key k l]? with | some x => decide (key x = k) | none => false
theorem getL_pos (o : LinOrd lt) {l : List α} (hs : SortL lt key l) (k : κ) : getL key k l = match l[posL lt key k l]? with | some x => if key x = k then some x else none | none => none := by
  induction l with
  | nil => simp [getL, posL]
  | cons x r ih =>
    have hs0 := hs
    unfold SortL at hs
    rw [List.pairwise_cons] at hs
    simp only [getL, posL, List.findIdx_cons]
    by_cases h : lt (key x) k = true
    · rw [if_neg (o.ne h), h]
      simp only [Bool.not_true, cond_false, List.getElem?_cons_succ]
      exact ih hs.2
    · simp only [h, Bool.not_false, cond_true, List.getElem?_cons_zero]
      split
      · rfl
      · rename_i e
        refine getL_none fun z hz => ?_
        have hkx : lt k (key x) = true := (o.tri k (key x)).elim id fun h' => h'.elim (fun h' => absurd h'.symm e) fun h' => absurd h' h
        exact (o.ne (o.trans hkx (hs.1 z hz))).symm
theorem hasL_get (o : LinOrd lt) {l : List α} (hs : SortL lt key l) {k : κ} : hasL lt key k l = (getL key k l).isSome := by
  rw [getL_pos o hs]
  unfold hasL
  split
  · rename_i x hx
    by_cases e : key x = k
    · simp [e]
    · simp [e]
  · rfl
/-- The one who is there: place, key, found. -/
theorem hasL_at (o : LinOrd lt) {l : List α} (hs : SortL lt key l) {k : κ} (h : hasL lt key k l = true) : ∃ x, l[posL lt key k l]? = some x ∧ key x = k ∧ getL key k l = some x := by
  have h' := h
  unfold hasL at h
  split at h
  · rename_i x hx
    have e : key x = k := by simpa using h
    refine ⟨x, hx, e, ?_⟩
    rw [getL_pos o hs, hx]; simp [e]
  · cases h
theorem hasL_no (o : LinOrd lt) {l : List α} (hs : SortL lt key l) {k : κ} (h : hasL lt key k l = false) : getL key k l = none := by
  rw [hasL_get o hs] at h; simpa using h
theorem getL_filter (o : LinOrd lt) (p : α → Bool) {k : κ} : ∀ {l : List α}, SortL lt key l → getL key k (l.filter p) = (getL key k l).bind fun x => if p x then some x else none
  | [], _ => rfl
  | x :: r, hs => by
    have hs0 := hs
    unfold SortL at hs
    rw [List.pairwise_cons] at hs
    by_cases e : key x = k
    · have hn : getL key k (r.filter p) = none := getL_none fun z hz => by rw [← e]; exact (o.ne (hs.1 z (List.mem_filter.1 hz).1)).symm
      rw [List.filter_cons]
      split
      · rename_i hp; simp [getL, e, hp]
      · rename_i hp; rw [hn]; simp [getL, e, hp]
    · rw [List.filter_cons]
      split
      · simp only [getL, if_neg e]; exact getL_filter o p hs.2
      · simp only [getL, if_neg e]; exact getL_filter o p hs.2
end
end Go.DL
