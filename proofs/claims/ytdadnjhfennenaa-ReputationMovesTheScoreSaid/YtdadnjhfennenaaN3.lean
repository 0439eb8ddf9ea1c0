/- What Note and Noted do to a list, told by what is found in it. No condition. -/
import Derived.Test.YtdadnjhfennenaaN2
import Derived.Test.YtdadnjhfennenaaDl19
set_option linter.unusedVariables false
set_option linter.unusedSimpArgs false
set_option maxHeartbeats 4000000
namespace Go.DL
open Go.Proofs

abbrev SS (l : List Sd) : Prop := SortL sLt Sd.n l
abbrev gS (s : ByteArray) (l : List Sd) : Option Sd := getL Sd.n s l
abbrev pS (y : Sd) (l : List Sd) : List Sd := putL sLt Sd.n y l
theorem ss_of {l : List Sd} (h : Sorted l) : SS l := by
  unfold SS SortL
  rw [List.pairwise_iff_getElem]
  intro i j hi hj hij
  exact h i j _ _ hij (by simp) (by simp)
theorem of_ss {l : List Sd} (h : SS l) : Sorted l := by
  unfold SS SortL at h
  rw [List.pairwise_iff_getElem] at h
  intro i j x y hij hx hy
  obtain ⟨hi, rfl⟩ := List.getElem?_eq_some_iff.1 hx
  obtain ⟨hj, rfl⟩ := List.getElem?_eq_some_iff.1 hy
  exact h i j hi hj hij
theorem pos_is (s : ByteArray) (l : List Sd) : posF s l = posL sLt Sd.n s l := rfl
theorem putF_done {s : ByteArray} {y : Sd} : ∀ {l : List Sd}, (∀ x ∈ l, x.n ≠ s) → putF s y true l = l
  | [], _ => rfl
  | x :: r, h => by
    simp only [putF]
    rw [if_neg (by simp), if_neg (h x List.mem_cons_self)]
    simp only [Bool.true_or, List.nil_append, List.singleton_append]
    rw [putF_done fun z hz => h z (List.mem_cons_of_mem _ hz)]
theorem putF_put {s : ByteArray} {y : Sd} (hy : y.n = s) : ∀ {l : List Sd}, SS l → putF s y false l = pS y l
  | [], _ => rfl
  | x :: r, hs => by
    unfold SS SortL at hs
    rw [List.pairwise_cons] at hs
    simp only [putF, pS, putL, hy]
    by_cases h : sLt x.n s = true
    · rw [if_neg (by simp [h]), if_neg (sOrd.ne h), if_pos h]
      simp only [h, Bool.not_true, Bool.or_false, List.nil_append, List.singleton_append]
      rw [putF_put hy hs.2]
    · rw [if_pos (by simpa using h), if_neg h]
      simp only [h, Bool.not_false, Bool.or_true]
      by_cases e : x.n = s
      · rw [if_pos e, if_pos e]
        rw [putF_done fun z hz => by rw [← e]; exact (sOrd.ne (hs.1 z hz)).symm]; rfl
      · rw [if_neg e, if_neg e]
        have hsx : sLt s x.n = true := (sOrd.tri s x.n).elim id fun h' => h'.elim (fun h' => absurd h'.symm e) fun h' => absurd h' h
        rw [putF_done fun z hz => (sOrd.ne (sOrd.trans hsx (hs.1 z hz))).symm]; rfl
/-- What becomes of the one who is found. -/
def upd1 (s : ByteArray) (junk : Bool) (now : Int) (o : Option Sd) : Sd := bump junk (match o with | some x => decd x now | none => newb s now)
theorem has_get {l : List Sd} (hs : Sorted l) {s : ByteArray} (hh : hasF s l = true) : ∃ x, l[posF s l]? = some x ∧ x.n = s ∧ gS s l = some x := by
  have hlt := has_lt hh
  obtain ⟨x, hx⟩ : ∃ x, l[posF s l]? = some x := ⟨l[posF s l]'(by simpa using hlt), by simp at hlt; simp [hlt]⟩
  have hn := has_n hh hx
  refine ⟨x, hx, hn, ?_⟩
  unfold gS
  rw [getL_pos sOrd (ss_of hs), ← pos_is, hx]
  simp [hn]
theorem not_get {l : List Sd} (hs : Sorted l) {s : ByteArray} (hh : hasF s l = false) : gS s l = none := by
  unfold gS
  rw [getL_pos sOrd (ss_of hs), ← pos_is]
  unfold hasF at hh
  split
  · rename_i x hx
    rw [hx] at hh
    simp at hh
    rw [if_neg hh]
  · rfl
theorem bump_n (junk : Bool) (x : Sd) : (bump junk x).n = x.n := by cases junk <;> rfl
theorem noted_put {l : List Sd} {s : ByteArray} {junk : Bool} {now : Int} (hs : Sorted l) : noted l s junk now = pS (upd1 s junk now (gS s l)) l := by
  cases hh : hasF s l with
  | true =>
    obtain ⟨x, hx, hn, hg⟩ := has_get hs hh
    have ef : fresh l s now = l := by unfold fresh; rw [hh]; rfl
    have hk : (upd1 s junk now (gS s l)).n = s := by rw [hg, upd1, bump_n]; exact hn
    unfold pS
    rw [putL_pos, hk, ← pos_is, hx, if_pos (by simp [hn])]
    unfold noted
    rw [ef, hx, hg]
    dsimp only
    rw [List.set_eq_take_append_cons_drop]
    rw [if_pos (by simpa using has_lt hh)]
    rfl
  | false =>
    have hg := not_get hs hh
    have hk : (upd1 s junk now (gS s l)).n = s := by rw [hg, upd1, bump_n]; rfl
    have hle := posF_le s l
    have htk : (l.take (posF s l)).length = posF s l := by simp; omega
    unfold pS
    rw [putL_pos, hk, ← pos_is, if_neg]
    · unfold noted fresh
      rw [hh]
      simp only [Bool.false_eq_true, if_false]
      rw [List.getElem?_append_right (by omega), htk, Nat.sub_self]
      simp only [List.getElem?_cons_zero]
      rw [List.set_append_right _ _ (by omega), htk, Nat.sub_self, List.set_cons_zero, Nat.add_zero, hg]
      simp only [upd1, decd, newb]
      have l0 : ∀ d, lv 0 d = 0 := fun d => by simp [lv]
      simp only [l0]
    · unfold hasF at hh
      intro hm
      rcases hx : l[posF s l]? with _ | x
      · rw [hx] at hm; simp at hm
      · rw [hx] at hm hh; simp at hm hh; exact hh hm
theorem c_Noted (z : Bool) (l : List Sd) (s : ByteArray) (junk : Bool) (now : Int) (ha : aFault l s now = (0, 0)) : CallV tab 21 [sds z l, .str s, .bool junk, .int .i64 now] (· = sds false (noted l s junk now)) := by
  have hso := (sf_ok (cF_ok (aF_ok ha).1).1).2.2
  rw [noted_put hso]
  cases hh : hasF s l with
  | true =>
    obtain ⟨x, hx, hn, hg⟩ := has_get hso hh
    obtain ⟨x', hx', hC⟩ := c_Noted_has z l s junk now ha hh
    rw [hx] at hx'; injection hx' with hx'; subst hx'
    rw [putF_put (by rw [bump_n]; exact hn) (ss_of hso)] at hC
    rw [hg]; exact hC
  | false =>
    have hC := c_Noted_new z l s junk now ha hh
    rw [putF_put (by rw [bump_n]; rfl) (ss_of hso)] at hC
    rw [not_get hso hh]; exact hC
end Go.DL
