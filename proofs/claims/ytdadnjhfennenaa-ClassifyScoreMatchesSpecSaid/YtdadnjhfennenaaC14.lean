/- Classify: the laws, with no program in sight. No condition. -/
import Derived.Test.YtdadnjhfennenaaC13
set_option linter.unusedVariables false
set_option linter.unusedSimpArgs false
set_option maxHeartbeats 1000000
namespace Go.DL
open Go.Proofs

theorem sameW_refl (a : Wd) : sameW a a = true := by unfold sameW; simp
theorem lrnA_len {w : Wd} {l : List ByteArray} {junk : Bool} : (lrnA w l junk).1.l.length ≤ 1000000 := by
  unfold lrnA
  split
  · simp [w00]
  · split
    · simp [w00]
    · dsimp only; omega
theorem fgtA_len {w : Wd} {l : List ByteArray} {junk : Bool} : (fgtA w l junk).1.l.length ≤ 1000000 := by
  by_cases hc : cF w l = (0, 0)
  · obtain ⟨how, htf⟩ := cF_ok hc
    have hsl := (vfl_SS htf).1
    by_cases hn : cnt junk w.g w.j = 0
    · rw [fgtA_0 hc hn]; simp [w00]
    · cases hk : nfI junk w.l l with
      | some k => rw [fgtA_nf hc hn hk]; simp [w00]
      | none =>
        by_cases ho : (fgtL w l junk).any (ovT (upW w junk (-1)).g (upW w junk (-1)).j) = true
        · rw [fgtA_ov hc hn hk ho]; simp [w00]
        · rw [fgtA_ok hc hn hk ho]
          dsimp only
          have := fgt_len how hsl hk
          exact Nat.le_trans (List.length_filter_le _ _) (by omega)
  · rw [fgtA_bad hc]; simp [w00]
/-- When Learn learns. -/
theorem lrnA_inv {w : Wd} {l : List ByteArray} {junk : Bool} (h : (lrnA w l junk).2.1 = 0) : cF w l = (0, 0) ∧ cnt junk w.g w.j ≠ 1000000 ∧ ¬ 2000 < (l.foldl (lrn junk) w.l).length := by
  by_cases hc : cF w l = (0, 0)
  · refine ⟨hc, ?_⟩
    by_cases hn : cnt junk w.g w.j = 1000000
    · rw [lrnA_full hc hn] at h; simp at h
    · refine ⟨hn, fun hm => ?_⟩
      rw [lrnA_many hc hn hm] at h; simp at h
  · rw [lrnA_bad hc] at h
    exfalso
    unfold cF at h hc
    split at h
    · rename_i h1; exact h1 (wF_0 h)
    · rename_i h1; rw [if_neg h1] at hc; exact hc (tF_0 h)
theorem upd_all {junk : Bool} {n : Int} {R : List Tk} {l : List ByteArray} (hR : ST R) (hl : SS l) {x : Tk} (hx : x ∈ l.foldl (upd1 junk n) R) : (x.s ∈ l ∧ x = upT junk n ((gT x.s R).getD ⟨x.s, 0, 0⟩)) ∨ (x.s ∉ l ∧ x ∈ R) := by
  have hg := getL_is sOrd (upd_sort (junk := junk) (n := n) l hR) hx
  have h2 := upd_get (junk := junk) (n := n) x.s l hR hl
  rw [show gT x.s _ = getL Tk.s x.s _ from rfl, hg] at h2
  split at h2
  · rename_i hm; injection h2 with h2; exact .inl ⟨hm, h2⟩
  · rename_i hm; exact .inr ⟨hm, (getL_mem h2.symm).1⟩
theorem lrn_okW {w : Wd} {l : List ByteArray} {junk : Bool} (hw : okW w) (htf : tF l = (0, 0)) (hn : cnt junk w.g w.j ≠ 1000000) (hm : ¬ 2000 < (l.foldl (lrn junk) w.l).length) : okW ⟨(upW w junk 1).g, (upW w junk 1).j, false, l.foldl (lrn junk) w.l⟩ := by
  have hg := hw.g
  have hj := hw.j
  obtain ⟨hsl, hfl⟩ := vfl_SS htf
  refine ⟨?_, ?_, by dsimp only; omega, fun x hx => ?_, ?_⟩
  · cases junk <;> (simp only [cnt, upW, Bool.false_eq_true, if_true, if_false] at hn ⊢; omega)
  · cases junk <;> (simp only [cnt, upW, Bool.false_eq_true, if_true, if_false] at hn ⊢; omega)
  · dsimp only at hx
    rw [lrn_upd] at hx
    rcases upd_all hw.s hsl hx with ⟨hm, e⟩ | ⟨hm, hx'⟩
    · refine ⟨hfl _ hm, ?_⟩
      cases hgx : gT x.s w.l with
      | none =>
        rw [hgx, Option.getD_none] at e
        unfold tOk
        rw [e]
        cases junk <;> (simp only [cnt, upW, upT, Bool.false_eq_true, if_true, if_false] at hn ⊢; omega)
      | some y =>
        rw [hgx, Option.getD_some] at e
        have hy := (hw.t y (getL_mem hgx).1).2
        unfold tOk at hy ⊢
        rw [e]
        cases junk <;> (simp only [cnt, upW, upT, Bool.false_eq_true, if_true, if_false] at hn ⊢; omega)
    · have hy := hw.t x hx'
      refine ⟨hy.1, ?_⟩
      have hy := hy.2
      unfold tOk at hy ⊢
      cases junk <;> (simp only [upW, Bool.false_eq_true, if_true, if_false]; omega)
  · dsimp only; rw [lrn_upd]; exact upd_sort l hw.s
theorem cF_of {w : Wd} {l : List ByteArray} (h : okW w) (htf : tF l = (0, 0)) : cF w l = (0, 0) := by
  unfold cF; rw [ok_wF h]; simpa using htf
theorem upT_upT (junk : Bool) (n m : Int) (x : Tk) (h : n + m = 0) : upT junk m (upT junk n x) = x := by
  cases junk <;> (apply Tk.ext' <;> simp [upT]; omega)
theorem upW_g (w : Wd) (junk : Bool) (n m : Int) (z : Bool) (R : List Tk) (h : n + m = 0) : (upW ⟨(upW w junk n).g, (upW w junk n).j, z, R⟩ junk m).g = w.g := by
  cases junk <;> simp [upW]; omega
theorem upW_j (w : Wd) (junk : Bool) (n m : Int) (z : Bool) (R : List Tk) (h : n + m = 0) : (upW ⟨(upW w junk n).g, (upW w junk n).j, z, R⟩ junk m).j = w.j := by
  cases junk <;> simp [upW]; omega
theorem gT_s {k : ByteArray} {R : List Tk} {x : Tk} (h : gT k R = some x) : x.s = k := (getL_mem h).2
/-- Forget undoes Learn. -/
theorem lrn_fgt {w : Wd} {l : List ByteArray} {junk : Bool} (h : (lrnA w l junk).2.1 = 0) : (fgtA (lrnA w l junk).1 l junk).2.1 = 0 ∧ sameW (fgtA (lrnA w l junk).1 l junk).1 w = true := by
  obtain ⟨hc, hn, hm⟩ := lrnA_inv h
  obtain ⟨how, htf⟩ := cF_ok hc
  obtain ⟨hsl, hfl⟩ := vfl_SS htf
  have hok := lrn_okW how htf hn hm
  have hg := how.g
  have hj := how.j
  rw [lrnA_ok hc hn hm]
  dsimp only
  generalize hA : (⟨(upW w junk 1).g, (upW w junk 1).j, false, l.foldl (lrn junk) w.l⟩ : Wd) = A at hok ⊢
  have hAl : A.l = l.foldl (upd1 junk 1) w.l := by rw [← hA]; rfl
  have hAg : A.g = (upW w junk 1).g := by rw [← hA]
  have hAj : A.j = (upW w junk 1).j := by rw [← hA]
  have hc' := cF_of hok htf
  have hn' : cnt junk A.g A.j ≠ 0 := by
    rw [hAg, hAj]
    cases junk <;> (simp only [cnt, upW, Bool.false_eq_true, if_true, if_false]; omega)
  have hnf : nfI junk A.l l = none := by
    unfold nfI
    rw [List.findIdx?_eq_none_iff]
    intro s hs
    have h2 := upd_get (junk := junk) (n := 1) s l how.s hsl
    rw [if_pos hs] at h2
    unfold hasB
    rw [hAl, h2]
    simp only [Bool.not_eq_false', decide_eq_true_eq]
    cases hgx : gT s w.l with
    | none =>
      rw [Option.getD_none]
      cases junk <;> (simp only [cnt, upT, Bool.false_eq_true, if_true, if_false]; omega)
    | some y =>
      rw [Option.getD_some]
      have hy := (how.t y (getL_mem hgx).1).2
      unfold tOk at hy
      cases junk <;> (simp only [cnt, upT, Bool.false_eq_true, if_true, if_false]; omega)
  have hL : fgtL A l junk = w.l := by
    have hs1 : ST (l.foldl (upd1 junk 1) w.l) := upd_sort l how.s
    have hs2 : ST (l.foldl (upd1 junk (-1)) A.l) := upd_sort l hok.s
    refine ext_getL sOrd (sort_filter _ (by rw [fgt_upd]; exact hs2)) how.s fun k => ?_
    unfold fgtL
    rw [fgt_upd, getL_filter sOrd _ hs2]
    have h2 := upd_get (junk := junk) (n := -1) k l hok.s hsl
    have h1 := upd_get (junk := junk) (n := 1) k l how.s hsl
    rw [show getL Tk.s k (l.foldl (upd1 junk (-1)) A.l) = gT k (l.foldl (upd1 junk (-1)) A.l) from rfl, h2, hAl, h1]
    show _ = gT k w.l
    have hnn : ∀ y, gT k w.l = some y → nilT y = false := fun y hy => by
      have hy := (how.t y (getL_mem hy).1).2
      unfold tOk at hy
      unfold nilT
      simp; omega
    by_cases hk : k ∈ l
    · rw [if_pos hk, if_pos hk, Option.getD_some, upT_upT _ _ _ _ (by omega)]
      cases hgx : gT k w.l with
      | none => simp [nilT]
      | some y => simp [hnn y hgx]
    · rw [if_neg hk, if_neg hk]
      cases hgx : gT k w.l with
      | none => rfl
      | some y => simp [hnn y hgx]
  have e1 : (upW A junk (-1)).g = w.g := by rw [← hA]; exact upW_g _ _ _ _ _ _ (by omega)
  have e2 : (upW A junk (-1)).j = w.j := by rw [← hA]; exact upW_j _ _ _ _ _ _ (by omega)
  have ho : ¬ (fgtL A l junk).any (ovT (upW A junk (-1)).g (upW A junk (-1)).j) = true := by
    rw [hL, e1, e2, List.any_eq_true]
    rintro ⟨x, hx, hv⟩
    have hy := (how.t x hx).2
    unfold tOk at hy
    unfold ovT at hv
    simp at hv
    omega
  rw [fgtA_ok hc' hn' hnf ho, hL, e1, e2]
  refine ⟨rfl, ?_⟩
  unfold sameW; simp
theorem fgtA_inv {w : Wd} {l : List ByteArray} {junk : Bool} (h : (fgtA w l junk).2.1 = 0) : cF w l = (0, 0) ∧ cnt junk w.g w.j ≠ 0 ∧ nfI junk w.l l = none ∧ ¬ (fgtL w l junk).any (ovT (upW w junk (-1)).g (upW w junk (-1)).j) = true := by
  by_cases hc : cF w l = (0, 0)
  · refine ⟨hc, ?_⟩
    by_cases hn : cnt junk w.g w.j = 0
    · rw [fgtA_0 hc hn] at h; simp at h
    · refine ⟨hn, ?_⟩
      cases hk : nfI junk w.l l with
      | some k => rw [fgtA_nf hc hn hk] at h; simp at h
      | none =>
        refine ⟨rfl, fun ho => ?_⟩
        rw [fgtA_ov hc hn hk ho] at h; simp at h
  · rw [fgtA_bad hc] at h
    exfalso
    unfold cF at h hc
    split at h
    · rename_i h1; exact h1 (wF_0 h)
    · rename_i h1; rw [if_neg h1] at hc; exact hc (tF_0 h)
/-- Learn undoes Forget. -/
theorem fgt_lrn {w : Wd} {l : List ByteArray} {junk : Bool} (h : (fgtA w l junk).2.1 = 0) : (lrnA (fgtA w l junk).1 l junk).2.1 = 0 ∧ sameW (lrnA (fgtA w l junk).1 l junk).1 w = true := by
  obtain ⟨hc, hn, hnf, ho⟩ := fgtA_inv h
  obtain ⟨how, htf⟩ := cF_ok hc
  obtain ⟨hsl, hfl⟩ := vfl_SS htf
  have hok := wF_ok ((fgt_fault (z := false) how hsl hnf hn).2 ho)
  have hg := how.g
  have hj := how.j
  have hwl := how.l
  rw [fgtA_ok hc hn hnf ho]
  dsimp only
  generalize hA : (⟨(upW w junk (-1)).g, (upW w junk (-1)).j, false, fgtL w l junk⟩ : Wd) = A at hok ⊢
  have hAl : A.l = fgtL w l junk := by rw [← hA]
  have hAg : A.g = (upW w junk (-1)).g := by rw [← hA]
  have hAj : A.j = (upW w junk (-1)).j := by rw [← hA]
  have hc' := cF_of hok htf
  have hn' : cnt junk A.g A.j ≠ 1000000 := by
    rw [hAg, hAj]
    cases junk <;> (simp only [cnt, upW, Bool.false_eq_true, if_true, if_false]; omega)
  have hL : l.foldl (lrn junk) A.l = w.l := by
    have hs2 : ST (l.foldl (upd1 junk (-1)) w.l) := upd_sort l how.s
    rw [lrn_upd]
    refine ext_getL sOrd (upd_sort l hok.s) how.s fun k => ?_
    have h2 := upd_get (junk := junk) (n := 1) k l hok.s hsl
    have h1 := upd_get (junk := junk) (n := -1) k l how.s hsl
    have h3 : gT k A.l = (gT k (l.foldl (upd1 junk (-1)) w.l)).bind fun x => if (!nilT x) = true then some x else none := by
      rw [hAl]; unfold fgtL; rw [fgt_upd]; exact getL_filter sOrd _ hs2
    rw [show getL Tk.s k (l.foldl (upd1 junk 1) A.l) = gT k (l.foldl (upd1 junk 1) A.l) from rfl, h2, h3, h1]
    show _ = gT k w.l
    by_cases hk : k ∈ l
    · rw [if_pos hk, if_pos hk]
      unfold nfI at hnf
      rw [List.findIdx?_eq_none_iff] at hnf
      have hh := hnf k hk
      simp only [Bool.not_eq_false'] at hh
      unfold hasB at hh
      cases hgx : gT k w.l with
      | none => rw [hgx] at hh; simp at hh
      | some y =>
        rw [hgx] at hh
        simp only [decide_eq_true_eq] at hh
        have hys := gT_s hgx
        have hy := (how.t y (getL_mem hgx).1).2
        unfold tOk at hy
        rw [Option.getD_some]
        cases hni : nilT (upT junk (-1) y) with
        | false => simp [hni, upT_upT]
        | true =>
          simp only [Option.bind_some, hni, Bool.not_true, Bool.false_eq_true, if_false, Option.getD_none, Option.some.injEq]
          unfold nilT at hni
          simp at hni
          apply Tk.ext'
          · rw [upT_s, hys]
          · cases junk <;> (simp only [cnt, upT, Bool.false_eq_true, if_true, if_false] at hni hh ⊢; omega)
          · cases junk <;> (simp only [cnt, upT, Bool.false_eq_true, if_true, if_false] at hni hh ⊢; omega)
    · rw [if_neg hk, if_neg hk]
      cases hgx : gT k w.l with
      | none => rfl
      | some y =>
        have hy := (how.t y (getL_mem hgx).1).2
        unfold tOk at hy
        have : nilT y = false := by unfold nilT; simp; omega
        simp [this]
  have e1 : (upW A junk 1).g = w.g := by rw [← hA]; exact upW_g _ _ _ _ _ _ (by omega)
  have e2 : (upW A junk 1).j = w.j := by rw [← hA]; exact upW_j _ _ _ _ _ _ (by omega)
  rw [lrnA_ok hc' hn' (by rw [hL]; omega), hL, e1, e2]
  refine ⟨rfl, ?_⟩
  unfold sameW; simp
theorem upT_comm (x y : Bool) (n m : Int) (t : Tk) : upT y m (upT x n t) = upT x n (upT y m t) := by
  cases x <;> cases y <;> (apply Tk.ext' <;> simp [upT] <;> omega)
/-- In any order. -/
theorem lrn_comm {w : Wd} {a b : List ByteArray} {x y : Bool} (ha : (lrnA w a x).2.1 = 0) (hb : (lrnA w b y).2.1 = 0) : lrnA (lrnA w a x).1 b y = lrnA (lrnA w b y).1 a x := by
  obtain ⟨hca, hna, hma⟩ := lrnA_inv ha
  obtain ⟨hcb, hnb, hmb⟩ := lrnA_inv hb
  obtain ⟨how, hta⟩ := cF_ok hca
  obtain ⟨_, htb⟩ := cF_ok hcb
  obtain ⟨hsa, hfa⟩ := vfl_SS hta
  obtain ⟨hsb, hfb⟩ := vfl_SS htb
  have oka := lrn_okW how hta hna hma
  have okb := lrn_okW how htb hnb hmb
  rw [lrnA_ok hca hna hma, lrnA_ok hcb hnb hmb]
  dsimp only
  have hL : b.foldl (lrn y) (a.foldl (lrn x) w.l) = a.foldl (lrn x) (b.foldl (lrn y) w.l) := by
    simp only [lrn_upd]
    have s1 : ST (a.foldl (upd1 x 1) w.l) := upd_sort a how.s
    have s2 : ST (b.foldl (upd1 y 1) w.l) := upd_sort b how.s
    refine ext_getL sOrd (upd_sort b s1) (upd_sort a s2) fun k => ?_
    show gT k _ = gT k _
    rw [upd_get k b s1 hsb, upd_get k a s2 hsa, upd_get k a how.s hsa, upd_get k b how.s hsb]
    by_cases h1 : k ∈ a <;> by_cases h2 : k ∈ b <;> simp [h1, h2, upT_comm x y]
  have c1 := cF_of oka htb
  have c2 := cF_of okb hta
  have hcn : (cnt y (upW w x 1).g (upW w x 1).j = 1000000) ↔ (cnt x (upW w y 1).g (upW w y 1).j = 1000000) := by
    cases x <;> cases y <;> (simp only [cnt, upW, Bool.false_eq_true, if_true, if_false] at hna hnb ⊢; try omega)
  have eg : (upW ⟨(upW w x 1).g, (upW w x 1).j, false, a.foldl (lrn x) w.l⟩ y 1).g = (upW ⟨(upW w y 1).g, (upW w y 1).j, false, b.foldl (lrn y) w.l⟩ x 1).g := by
    cases x <;> cases y <;> simp [upW]
  have ej : (upW ⟨(upW w x 1).g, (upW w x 1).j, false, a.foldl (lrn x) w.l⟩ y 1).j = (upW ⟨(upW w y 1).g, (upW w y 1).j, false, b.foldl (lrn y) w.l⟩ x 1).j := by
    cases x <;> cases y <;> simp [upW]
  by_cases hq : cnt y (upW w x 1).g (upW w x 1).j = 1000000
  · rw [lrnA_full c1 hq, lrnA_full c2 (hcn.1 hq)]
  · have hq' := fun e => hq (hcn.2 e)
    by_cases hm : 2000 < (b.foldl (lrn y) (a.foldl (lrn x) w.l)).length
    · rw [lrnA_many c1 hq hm, lrnA_many c2 hq' (by rw [← hL]; exact hm)]
    · rw [lrnA_ok c1 hq hm, lrnA_ok c2 hq' (by rw [← hL]; exact hm), eg, ej]
      dsimp only
      rw [hL]
theorem ediv_mono {a a' c c' : Int} (hc : 0 < c) (hc' : 0 < c') (h2 : 0 ≤ a) (h1 : 0 ≤ a') (h : a * c' ≤ a' * c) : a.tdiv c ≤ a'.tdiv c' := by
  rw [Int.tdiv_eq_ediv_of_nonneg h1, Int.tdiv_eq_ediv_of_nonneg h2]
  apply (Int.le_ediv_iff_mul_le hc').2
  have h3 : a / c * c ≤ a := Int.ediv_mul_le _ (by omega)
  have h4 : a / c * c * c' ≤ a * c' := Int.mul_le_mul_of_nonneg_right h3 (by omega)
  have h5 : a / c * c' * c ≤ a' * c := by rw [Int.mul_right_comm]; omega
  exact Int.le_of_mul_le_mul_right h5 hc
/-- The score of one token after it is learned as junk is not lower than after it is learned as good. -/
theorem rat_side {G J g j : Int} (h : 0 ≤ g ∧ g ≤ G ∧ 0 ≤ j ∧ j ≤ J) {s : ByteArray} {z1 z2 : Bool} {l1 l2 : List Tk} : rat ⟨G + 1, J, z1, l1⟩ ⟨s, g + 1, j⟩ ≤ rat ⟨G, J + 1, z2, l2⟩ ⟨s, g, j + 1⟩ := by
  unfold rat
  dsimp only
  have a1 : 0 ≤ j * (G + 1 + 1) := Int.mul_nonneg (by omega) (by omega)
  have a2 : 0 < (g + 1) * (J + 1) := Int.mul_pos (by omega) (by omega)
  have a3 : 0 < (j + 1) * (G + 1) := Int.mul_pos (by omega) (by omega)
  have a4 : 0 ≤ g * (J + 1 + 1) := Int.mul_nonneg (by omega) (by omega)
  refine ediv_mono (by omega) (by omega) (by omega) (by omega) ?_
  have b1 : j * (J + 1 + 1) ≤ (j + 1) * (J + 1) := by
    rw [Int.mul_add, Int.add_mul]; omega
  have b2 : g * (G + 1 + 1) ≤ (g + 1) * (G + 1) := by
    rw [Int.mul_add, Int.add_mul]; omega
  have b3 : (j * (J + 1 + 1)) * (g * (G + 1 + 1)) ≤ ((j + 1) * (J + 1)) * ((g + 1) * (G + 1)) :=
    Int.mul_le_mul b1 b2 (Int.mul_nonneg (by omega) (by omega)) (Int.mul_nonneg (by omega) (by omega))
  have b4 : (j * (J + 1 + 1)) * (g * (G + 1 + 1)) = (j * (G + 1 + 1)) * (g * (J + 1 + 1)) := by ac_rfl
  have b5 : ((j + 1) * (J + 1)) * ((g + 1) * (G + 1)) = ((j + 1) * (G + 1)) * ((g + 1) * (J + 1)) := by ac_rfl
  rw [b4, b5] at b3
  generalize j * (G + 1 + 1) = A at *
  generalize (g + 1) * (J + 1) = B at *
  generalize (j + 1) * (G + 1) = C at *
  generalize g * (J + 1 + 1) = D at *
  rw [Int.mul_assoc, Int.mul_assoc, Int.mul_add A, Int.mul_add C, Int.mul_comm C A]
  omega
theorem cnt_upW_one {w : Wd} {s : ByteArray} {junk : Bool} (h : (lrnA w [s] junk).2.1 = 0) : rats (lrnA w [s] junk).1 [s] = [rat (lrnA w [s] junk).1 (upT junk 1 ((gT s w.l).getD ⟨s, 0, 0⟩))] := by
  obtain ⟨hc, hn, hm⟩ := lrnA_inv h
  obtain ⟨how, htf⟩ := cF_ok hc
  have hsl := (vfl_SS htf).1
  rw [lrnA_ok hc hn hm]
  have h1 := upd_get (junk := junk) (n := 1) s [s] how.s hsl
  rw [if_pos (by simp)] at h1
  unfold rats
  simp only [List.filterMap_cons, List.filterMap_nil]
  rw [lrn_upd, h1]
  rfl
end Go.DL
