/- The steps of a stable sort on lists, with no program in sight. No condition. -/
import Derived.Test.YtdadnjhfennenaaS2
set_option linter.unusedVariables false
set_option linter.unusedSimpArgs false
set_option maxHeartbeats 1000000
namespace Go.DL
/-! two places swapped -/
def sw2 (L : List Int) (i j : Nat) : List Int := (L.set i (L.getD j 0)).set j (L.getD i 0)
def swN (L : List Int) (a b : Nat) : Nat → List Int
  | 0 => L
  | n + 1 => sw2 (swN L a b n) (a + n) (b + n)
theorem sw2_len (L : List Int) (i j : Nat) : (sw2 L i j).length = L.length := by simp [sw2]
theorem swN_len (L : List Int) (a b : Nat) : ∀ n, (swN L a b n).length = L.length
  | 0 => rfl
  | n + 1 => by unfold swN; rw [sw2_len, swN_len L a b n]
theorem getD_at (P R : List Int) (x : Int) : (P ++ x :: R).getD P.length 0 = x := by
  rw [List.getD_eq_getElem?_getD, List.getElem?_append_right (Nat.le_refl _)]
  simp
theorem set_app (P R : List Int) (x y : Int) : (P ++ x :: R).set P.length y = P ++ y :: R := by
  rw [List.set_append_right _ _ (Nat.le_refl _)]
  simp
theorem sw2_at {L P M S : List Int} {x y : Int} {i j : Nat} (hL : L = P ++ x :: (M ++ y :: S)) (hi : i = P.length) (hj : j = P.length + 1 + M.length) : sw2 L i j = P ++ y :: (M ++ x :: S) := by
  have e1 : L.getD i 0 = x := by rw [hL, hi]; exact getD_at P _ x
  have e2 : L.getD j 0 = y := by
    have : L = (P ++ x :: M) ++ y :: S := by rw [hL]; simp
    rw [this, show j = (P ++ x :: M).length by simp; omega]
    exact getD_at _ _ y
  unfold sw2
  rw [e1, e2, hL, hi, set_app]
  have : P ++ y :: (M ++ y :: S) = (P ++ y :: M) ++ y :: S := by simp
  rw [this, show j = (P ++ y :: M).length by simp; omega, set_app]
  simp
theorem swN_parts {P M S : List Int} : ∀ {n : Nat} {A B : List Int}, n ≤ A.length → A.length = B.length → swN (P ++ A ++ M ++ B ++ S) P.length (P.length + A.length + M.length) n = P ++ (B.take n ++ A.drop n) ++ M ++ (A.take n ++ B.drop n) ++ S
  | 0, A, B, h, he => by simp [swN]
  | n + 1, A, B, h, he => by
    unfold swN
    rw [swN_parts (n := n) (by omega) he]
    obtain ⟨x, hx⟩ : ∃ x, A.drop n = x :: A.drop (n + 1) := ⟨_, List.drop_eq_getElem_cons (by omega)⟩
    obtain ⟨y, hy⟩ : ∃ y, B.drop n = y :: B.drop (n + 1) := ⟨_, List.drop_eq_getElem_cons (by omega)⟩
    have tA : A.take (n + 1) = A.take n ++ [x] := by
      rw [List.take_add_one]
      have := congrArg (fun l => l[0]?) hx
      simp at this
      rw [this]; rfl
    have tB : B.take (n + 1) = B.take n ++ [y] := by
      rw [List.take_add_one]
      have := congrArg (fun l => l[0]?) hy
      simp at this
      rw [this]; rfl
    rw [sw2_at (P := P ++ B.take n) (M := A.drop (n + 1) ++ M ++ A.take n) (S := B.drop (n + 1) ++ S) (x := x) (y := y) (by rw [hx, hy]; simp) (by simp; omega) (by simp; omega), tA, tB]
    simp
theorem swN_all {P A M B S : List Int} {L : List Int} {a b n : Nat} (hL : L = P ++ A ++ M ++ B ++ S) (ha : a = P.length) (hb : b = P.length + A.length + M.length) (hn : n = A.length) (he : A.length = B.length) : swN L a b n = P ++ B ++ M ++ A ++ S := by
  rw [hL, ha, hb, hn, swN_parts (Nat.le_refl _) he]
  rw [List.take_of_length_le (l := B) (by omega), List.drop_of_length_le (l := A) (Nat.le_refl _), List.take_of_length_le (l := A) (Nat.le_refl _), List.drop_of_length_le (l := B) (by omega)]
  simp
/-! lists told by a part's place -/
theorem get_mid {L P R : List Int} {x : Int} {i : Nat} (hL : L = P ++ x :: R) (hi : i = P.length) : L[i]? = some x := by
  rw [hL, hi, List.getElem?_append_right (Nat.le_refl _)]; simp
/-! blocks -/
def blk (w : Nat) (L : List Int) (s : Nat) : List Int := (L.drop (w * s)).take w
theorem blk_left {w s : Nat} {P R : List Int} (h : w * s + w ≤ P.length) : blk w (P ++ R) s = blk w P s := by
  unfold blk
  rw [List.drop_append_of_le_length (by omega), List.take_append_of_le_length (by rw [List.length_drop]; omega)]
theorem blk_right {w s : Nat} {P P' R : List Int} (hl : P.length = P'.length) (h : P.length ≤ w * s) : blk w (P ++ R) s = blk w (P' ++ R) s := by
  unfold blk
  rw [List.drop_append, List.drop_append, List.drop_eq_nil_of_le h, List.drop_eq_nil_of_le (as := P') (by omega), hl]
theorem blk_mid {w s : Nat} {P W R : List Int} (hp : P.length = w * s) (hw : W.length = w ∨ (W.length ≤ w ∧ R = [])) : blk w (P ++ (W ++ R)) s = W := by
  unfold blk
  rw [List.drop_append, List.drop_eq_nil_of_le (by omega), List.nil_append, hp, Nat.sub_self, List.drop_zero]
  rcases hw with h | ⟨h1, h2⟩
  · rw [List.take_append_of_le_length (by omega), List.take_of_length_le (by omega)]
  · rw [h2, List.append_nil, List.take_of_length_le h1]
theorem blk_nil {w s : Nat} {L : List Int} (h : L.length ≤ w * s) : blk w L s = [] := by
  unfold blk; rw [List.drop_eq_nil_of_le h, List.take_nil]
theorem blk_two {w s : Nat} {L : List Int} : blk (2 * w) L s = blk w L (2 * s) ++ blk w L (2 * s + 1) := by
  unfold blk
  rw [show 2 * w * s = w * (2 * s) by rw [Nat.mul_comm 2 w, Nat.mul_assoc], show w * (2 * s + 1) = w * (2 * s) + w by rw [Nat.mul_add, Nat.mul_one], ← List.drop_drop, show 2 * w = w + w by omega, List.take_add]
theorem split3 (L : List Int) (a b : Nat) (h : a ≤ b) : L = L.take a ++ ((L.drop a).take (b - a) ++ L.drop b) := by
  conv => lhs; rw [← List.take_append_drop a L, ← List.take_append_drop (b - a) (L.drop a)]
  rw [List.drop_drop, show a + (b - a) = b by omega]
theorem Desc.one (x : Int) : Desc [x] := by simp [Desc]
theorem Desc.nil : Desc [] := by simp [Desc]
theorem Desc.sub {a b : List Int} (h : Desc b) (s : a.Sublist b) : Desc a := List.Pairwise.sublist s h
theorem Desc.get {l : List Int} (h : Desc l) {i j : Nat} {x y : Int} (hi : l[i]? = some x) (hj : l[j]? = some y) (hij : i ≤ j) : kd y ≤ kd x := by
  rcases Nat.lt_or_ge i j with h1 | h1
  · obtain ⟨h2, rfl⟩ := List.getElem?_eq_some_iff.1 hi
    obtain ⟨h3, rfl⟩ := List.getElem?_eq_some_iff.1 hj
    exact List.pairwise_iff_getElem.1 h i j h2 h3 h1
  · have : i = j := by omega
    subst this
    rw [hi] at hj; injection hj with hj; rw [hj]; exact Int.le_refl _
/-- What the search in symMerge finds. -/
theorem sym_parts {U V : List Int} {lu lv i s : Nat} (hU : Desc U) (hV : Desc V)
    (hi : i ≤ U.length) (hsV : i + s = V.length + 0 ∨ True) (e : Nat) (he : e ≤ V.length)
    (h1 : ∀ x y, 0 < i → e < V.length → U[i - 1]? = some x → V[e]? = some y → kd y ≤ kd x)
    (h2 : ∀ x y, i < U.length → 0 < e → U[i]? = some x → V[e - 1]? = some y → kd x < kd y) :
    (∀ x ∈ U.take i, ∀ y ∈ V.drop e, kd y ≤ kd x) ∧ (∀ x ∈ U.drop i, ∀ y ∈ V.take e, kd x < kd y) := by
  refine ⟨fun x hx y hy => ?_, fun x hx y hy => ?_⟩
  · obtain ⟨m, hm⟩ := List.mem_iff_getElem?.1 hx
    obtain ⟨n, hn⟩ := List.mem_iff_getElem?.1 hy
    rw [List.getElem?_take] at hm
    split at hm
    · rename_i hmi
      rw [List.getElem?_drop] at hn
      have hlt : e + n < V.length := (List.getElem?_eq_some_iff.1 hn).1
      have g1 := List.getElem?_eq_getElem (show i - 1 < U.length by omega)
      have g2 := List.getElem?_eq_getElem (show e < V.length by omega)
      have a1 := hU.get hm g1 (by omega)
      have a2 := hV.get g2 hn (by omega)
      have := h1 _ _ (by omega) (by omega) g1 g2
      omega
    · cases hm
  · obtain ⟨m, hm⟩ := List.mem_iff_getElem?.1 hx
    obtain ⟨n, hn⟩ := List.mem_iff_getElem?.1 hy
    rw [List.getElem?_take] at hn
    split at hn
    · rename_i hni
      rw [List.getElem?_drop] at hm
      have hlt : i + m < U.length := (List.getElem?_eq_some_iff.1 hm).1
      have g1 := List.getElem?_eq_getElem (show i < U.length by omega)
      have g2 := List.getElem?_eq_getElem (show e - 1 < V.length by omega)
      have a1 := hU.get g1 hm (by omega)
      have a2 := hV.get hn g2 (by omega)
      have := h2 _ _ (by omega) (by omega) g1 g2
      omega
    · cases hn
/-- A list that is sorted so, put together one by one. -/
theorem sort_ex : ∀ l : List Int, ∃ ys, Desc ys ∧ EqK ys l := by
  suffices h : ∀ (n : Nat) (l : List Int), l.length = n → ∃ ys, Desc ys ∧ EqK ys l from fun l => h _ l rfl
  intro n
  induction n with
  | zero => intro l h; exact ⟨[], Desc.nil, by rw [List.eq_nil_of_length_eq_zero h]; exact EqK.refl _⟩
  | succ n ih =>
    intro l h
    have hne : l ≠ [] := by intro e; rw [e] at h; cases h
    obtain ⟨ys, hd, he⟩ := ih l.dropLast (by rw [List.length_dropLast]; omega)
    have e1 : ys.takeWhile (fun y => decide (kd (l.getLast hne) ≤ kd y)) ++ ys.dropWhile (fun y => decide (kd (l.getLast hne) ≤ kd y)) = ys := List.takeWhile_append_dropWhile
    generalize hx : l.getLast hne = x at e1
    generalize hP : ys.takeWhile (fun y => decide (kd x ≤ kd y)) = P at e1
    generalize hR : ys.dropWhile (fun y => decide (kd x ≤ kd y)) = R at e1
    have h1 : ∀ p ∈ P, kd x ≤ kd p := fun p hp => by
      rw [← hP] at hp
      have := List.all_takeWhile (l := ys) (p := fun y => decide (kd x ≤ kd y))
      rw [List.all_eq_true] at this
      simpa using this p hp
    have h2 : ∀ r ∈ R, kd r < kd x := fun r hr => by
      cases R with
      | nil => cases hr
      | cons a R =>
        have ha : kd a < kd x := by
          have := List.head?_dropWhile_not (fun y => decide (kd x ≤ kd y)) ys
          rw [hR] at this
          simpa using this
        have hd' := hd
        rw [← e1] at hd'
        rcases List.mem_cons.1 hr with rfl | hr
        · exact ha
        · have := (List.pairwise_cons.1 (List.pairwise_append.1 hd').2.1).1 r hr
          omega
    rw [← e1] at hd he
    obtain ⟨g1, g2⟩ := ins_desc hd h1 h2
    refine ⟨_, g1, g2.trans ?_⟩
    have := (he.app (EqK.refl [x]))
    have e2 := List.dropLast_concat_getLast hne
    rw [hx] at e2
    rw [e2] at this
    exact this
end Go.DL
