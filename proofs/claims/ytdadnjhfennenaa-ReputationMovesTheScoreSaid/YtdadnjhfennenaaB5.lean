import Derived.Test.YtdadnjhfennenaaB4
set_option linter.unusedVariables false
set_option linter.unusedSimpArgs false
set_option maxHeartbeats 4000000
namespace Go.DL
open Go.Proofs

theorem at_found {s : ByteArray} : ∀ {l : List Sd} {k i : Nat} {x : Sd}, l[i]? = some x → x.n = s → (∀ (j : Nat) y, j < i → l[j]? = some y → y.n ≠ s) → atF s k l = ((k + i : Nat) : Int)
  | [], k, i, x, h, _, _ => by simp at h
  | y :: l, k, 0, x, h, hn, _ => by
    simp at h; subst h
    simp [atF, hn]
  | y :: l, k, i + 1, x, h, hn, hb => by
    have h0 : y.n ≠ s := hb 0 y (by omega) rfl
    simp only [atF, if_neg h0]
    rw [at_found (l := l) (k := k + 1) (i := i) (by simpa using h) hn (fun j z hj hz => hb (j + 1) z (by omega) (by simpa using hz))]
    congr 1; omega
theorem at_none {s : ByteArray} : ∀ {l : List Sd} {k : Nat}, (∀ y ∈ l, y.n ≠ s) → atF s k l = -1
  | [], k, _ => rfl
  | y :: l, k, h => by simp only [atF, if_neg (h y List.mem_cons_self)]; exact at_none (fun z hz => h z (List.mem_cons_of_mem _ hz))
theorem at_lt {s : ByteArray} : ∀ {l : List Sd} {k : Nat}, atF s k l = -1 ∨ ((k : Int) ≤ atF s k l ∧ atF s k l < k + l.length)
  | [], k => .inl rfl
  | y :: l, k => by
    simp only [atF]
    split
    · right; simp; omega
    · rcases at_lt (s := s) (l := l) (k := k + 1) with h | h
      · exact .inl h
      · right; simp at h ⊢; omega
theorem pos_lt {s : ByteArray} {l : List Sd} {j : Nat} {y : Sd} (hj : j < posF s l) (hy : l[j]? = some y) : sLt y.n s = true := by
  have hl : j < l.length := (List.getElem?_eq_some_iff.1 hy).1
  have := List.not_of_lt_findIdx (p := fun x : Sd => !sLt x.n s) (xs := l) hj
  have e : l[j] = y := (List.getElem?_eq_some_iff.1 hy).2
  simpa [e] using this
theorem pos_ge {s : ByteArray} {l : List Sd} (hs : Sorted l) {j : Nat} {y : Sd} (hj : posF s l ≤ j) (hy : l[j]? = some y) : sLt y.n s = false := by
  have hl : j < l.length := (List.getElem?_eq_some_iff.1 hy).1
  have hp : posF s l < l.length := by omega
  have h0 : sLt l[posF s l].n s = false := by
    have := List.findIdx_getElem (p := fun x : Sd => !sLt x.n s) (xs := l) (w := hp)
    simp only [Bool.not_eq_true'] at this
    exact this
  by_cases hjp : j = posF s l
  · subst hjp
    have e := (List.getElem?_eq_some_iff.1 hy).2
    rw [← e]; exact h0
  · have h1 := hs (posF s l) j l[posF s l] y (by omega) (by simp [hp]) hy
    cases h : sLt y.n s with
    | false => rfl
    | true => rw [sLt_trans h1 h] at h0; cases h0
theorem at_pos {l : List Sd} (hs : Sorted l) (s : ByteArray) : atF s 0 l = if hasF s l then (posF s l : Int) else -1 := by
  have before : ∀ (j : Nat) y, j < posF s l → l[j]? = some y → y.n ≠ s := by
    intro j y hj hy e
    have := pos_lt hj hy
    rw [e, sLt_irrefl] at this; cases this
  cases h : hasF s l with
  | true =>
    have hl := has_lt h
    rw [Int.toNat_natCast] at hl
    have hx : l[posF s l]? = some l[posF s l] := by simp [hl]
    rw [at_found hx (has_n h hx) before]; simp
  | false =>
    rw [at_none]; · rfl
    intro y hy e
    obtain ⟨j, hj, rfl⟩ := List.mem_iff_getElem.1 hy
    by_cases hjp : j < posF s l
    · exact before j _ hjp (by simp [hj]) e
    · by_cases hjq : j = posF s l
      · subst hjq
        unfold hasF at h
        rw [List.getElem?_eq_getElem hj] at h
        simp [e] at h
      · have hp : posF s l < l.length := by omega
        have h1 := hs (posF s l) j l[posF s l] _ (by omega) (by simp [hp]) (List.getElem?_eq_getElem hj)
        rw [e] at h1
        rw [pos_ge hs (Nat.le_refl _) (by simp [hp] : l[posF s l]? = some l[posF s l])] at h1; cases h1
theorem at_ltN {s : ByteArray} {l : List Sd} (h : 0 ≤ atF s 0 l) : (atF s 0 l).toNat < l.length := by
  rcases at_lt (s := s) (l := l) (k := 0) with h' | h' <;> omega
theorem at_has {s : ByteArray} {l : List Sd} (hs : Sorted l) (h : 0 ≤ atF s 0 l) : hasF s l = true ∧ atF s 0 l = posF s l := by
  rw [at_pos hs] at h ⊢
  cases hh : hasF s l with
  | true => simp
  | false => rw [hh] at h; simp at h
theorem at_not {s : ByteArray} {l : List Sd} (hs : Sorted l) (h : ¬ 0 ≤ atF s 0 l) : hasF s l = false := by
  rw [at_pos hs] at h
  cases hh : hasF s l with
  | true => rw [hh] at h; simp at h
  | false => rfl
theorem later_of {l : List Sd} {s : ByteArray} {now : Int} {x : Sd} (hh : hasF s l = true) (hx : l[posF s l]? = some x) : later l s now = decide (dayOf now < x.d) := by
  rw [later, hx]; simp [has_n hh hx]
theorem later_not {l : List Sd} {s : ByteArray} {now : Int} (hh : hasF s l = false) : later l s now = false := by
  unfold later
  unfold hasF at hh
  split
  · rename_i x hx; rw [hx] at hh; simp at hh; simp [hh]
  · rfl
theorem cF_2 {l : List Sd} {s : ByteArray} {now : Int} (h : (sFault l).fst = 0) : cFault l s now = if ¬ nOk s then (10, -3) else if ¬ instOk now then (3, -2) else (0, 0) := cF_0 ⟨h, by rw [sf_ne h], trivial⟩
theorem aF_ne {l : List Sd} {s : ByteArray} {now : Int} {f : Int × Int} (h : cFault l s now = f) (hf : f ≠ (0, 0)) : aFault l s now = f := by
  unfold aFault; rw [if_pos (by rw [h]; exact hf), h]
theorem c_SenderFault (z : Bool) (l : List Sd) (s : ByteArray) (now : Int) : CallV tab 16 [sds z l, .str s, .int .i64 now] (· = fv (aFault l s now)) := by
  refine callV_of Try.func16 rfl (Nat.le_of_ble_eq_true rfl) (by kernel_rfl) ?_
  repeat' first
    | (refine idxMap (at_ltN (by ((try simp only [decide_eq_true_eq, decide_eq_false_iff_not, cond_true, cond_false, beq_iff_eq, beq_eq_false_iff_ne, bne_iff_ne, bne_eq_false_iff_eq, ne_eq, Bool.not_eq_true', Bool.not_eq_false', Bool.not_eq_eq_eq_not, Bool.not_true, Bool.not_false, sLe_eq, Bool.and_eq_true, Bool.and_eq_false_iff, List.length_map, List.length_append, List.length_take, List.length_drop, List.length_replicate, List.length_cons, List.length_nil, lenMax, capMax, Int.toNat_natCast, gt_iff_lt, ge_iff_le] at *); (try simp (disch := omega) only [wr, wru, shr1, Int.tdiv_eq_ediv_of_nonneg] at *)); assumption)) (fun _ _ => ?_); conv => whnf)
    | (refine call_pure1 (c_At _ _) rfl rfl rfl rfl rfl ?_; conv => whnf)
    | (refine call_pureD (c_At _ _) rfl rfl rfl rfl rfl ?_; conv => whnf)
    | (refine call_pure1 (c_In _ _ _) rfl rfl rfl rfl rfl ?_; conv => whnf)
    | (refine call_pureD (c_In _ _ _) rfl rfl rfl rfl rfl ?_; conv => whnf)
    | (refine call_pure1 (c_Instant _) rfl rfl rfl rfl rfl ?_; conv => whnf)
    | (refine call_pureD (c_Instant _) rfl rfl rfl rfl rfl ?_; conv => whnf)
    | (refine call_pure1 (c_SendersFault _ _) rfl rfl rfl rfl rfl ?_; conv => whnf)
    | (refine call_pureD (c_SendersFault _ _) rfl rfl rfl rfl rfl ?_; conv => whnf)
    | (refine call_pureP (c_DayOf _) rfl rfl rfl rfl rfl (by (first | decide | exact trivial | omega | exact Nat.le_refl _ | (((try simp only [decide_eq_true_eq, decide_eq_false_iff_not, cond_true, cond_false, beq_iff_eq, beq_eq_false_iff_ne, bne_iff_ne, bne_eq_false_iff_eq, ne_eq, Bool.not_eq_true', Bool.not_eq_false', Bool.not_eq_eq_eq_not, Bool.not_true, Bool.not_false, sLe_eq, Bool.and_eq_true, Bool.and_eq_false_iff, List.length_map, List.length_append, List.length_take, List.length_drop, List.length_replicate, List.length_cons, List.length_nil, lenMax, capMax, Int.toNat_natCast, gt_iff_lt, ge_iff_le] at *); (try simp (disch := omega) only [wr, wru, shr1, Int.tdiv_eq_ediv_of_nonneg] at *)); omega) | (((try simp only [decide_eq_true_eq, decide_eq_false_iff_not, cond_true, cond_false, beq_iff_eq, beq_eq_false_iff_ne, bne_iff_ne, bne_eq_false_iff_eq, ne_eq, Bool.not_eq_true', Bool.not_eq_false', Bool.not_eq_eq_eq_not, Bool.not_true, Bool.not_false, sLe_eq, Bool.and_eq_true, Bool.and_eq_false_iff, List.length_map, List.length_append, List.length_take, List.length_drop, List.length_replicate, List.length_cons, List.length_nil, lenMax, capMax, Int.toNat_natCast, gt_iff_lt, ge_iff_le] at *); (try simp (disch := omega) only [wr, wru, shr1, Int.tdiv_eq_ediv_of_nonneg] at *)); assumption))) ?_; conv => whnf)
    | (refine call_purePD (c_DayOf _) rfl rfl rfl rfl rfl (by (first | decide | exact trivial | omega | exact Nat.le_refl _ | (((try simp only [decide_eq_true_eq, decide_eq_false_iff_not, cond_true, cond_false, beq_iff_eq, beq_eq_false_iff_ne, bne_iff_ne, bne_eq_false_iff_eq, ne_eq, Bool.not_eq_true', Bool.not_eq_false', Bool.not_eq_eq_eq_not, Bool.not_true, Bool.not_false, sLe_eq, Bool.and_eq_true, Bool.and_eq_false_iff, List.length_map, List.length_append, List.length_take, List.length_drop, List.length_replicate, List.length_cons, List.length_nil, lenMax, capMax, Int.toNat_natCast, gt_iff_lt, ge_iff_le] at *); (try simp (disch := omega) only [wr, wru, shr1, Int.tdiv_eq_ediv_of_nonneg] at *)); omega) | (((try simp only [decide_eq_true_eq, decide_eq_false_iff_not, cond_true, cond_false, beq_iff_eq, beq_eq_false_iff_ne, bne_iff_ne, bne_eq_false_iff_eq, ne_eq, Bool.not_eq_true', Bool.not_eq_false', Bool.not_eq_eq_eq_not, Bool.not_true, Bool.not_false, sLe_eq, Bool.and_eq_true, Bool.and_eq_false_iff, List.length_map, List.length_append, List.length_take, List.length_drop, List.length_replicate, List.length_cons, List.length_nil, lenMax, capMax, Int.toNat_natCast, gt_iff_lt, ge_iff_le] at *); (try simp (disch := omega) only [wr, wru, shr1, Int.tdiv_eq_ediv_of_nonneg] at *)); assumption))) ?_; conv => whnf)
    | (refine call_pure1 (c_SenderAt _ _ _ (by ((try simp only [decide_eq_true_eq, decide_eq_false_iff_not, cond_true, cond_false, beq_iff_eq, beq_eq_false_iff_ne, bne_iff_ne, bne_eq_false_iff_eq, ne_eq, Bool.not_eq_true', Bool.not_eq_false', Bool.not_eq_eq_eq_not, Bool.not_true, Bool.not_false, sLe_eq, Bool.and_eq_true, Bool.and_eq_false_iff, List.length_map, List.length_append, List.length_take, List.length_drop, List.length_replicate, List.length_cons, List.length_nil, lenMax, capMax, Int.toNat_natCast, gt_iff_lt, ge_iff_le] at *); (try simp (disch := omega) only [wr, wru, shr1, Int.tdiv_eq_ediv_of_nonneg] at *)); have := sf_ok (sf_ne (by assumption)); omega)) rfl rfl rfl rfl rfl ?_; conv => whnf)
    | (refine idxMap (by (first | decide | exact trivial | omega | exact Nat.le_refl _ | (((try simp only [decide_eq_true_eq, decide_eq_false_iff_not, cond_true, cond_false, beq_iff_eq, beq_eq_false_iff_ne, bne_iff_ne, bne_eq_false_iff_eq, ne_eq, Bool.not_eq_true', Bool.not_eq_false', Bool.not_eq_eq_eq_not, Bool.not_true, Bool.not_false, sLe_eq, Bool.and_eq_true, Bool.and_eq_false_iff, List.length_map, List.length_append, List.length_take, List.length_drop, List.length_replicate, List.length_cons, List.length_nil, lenMax, capMax, Int.toNat_natCast, gt_iff_lt, ge_iff_le] at *); (try simp (disch := omega) only [wr, wru, shr1, Int.tdiv_eq_ediv_of_nonneg] at *)); omega) | (((try simp only [decide_eq_true_eq, decide_eq_false_iff_not, cond_true, cond_false, beq_iff_eq, beq_eq_false_iff_ne, bne_iff_ne, bne_eq_false_iff_eq, ne_eq, Bool.not_eq_true', Bool.not_eq_false', Bool.not_eq_eq_eq_not, Bool.not_true, Bool.not_false, sLe_eq, Bool.and_eq_true, Bool.and_eq_false_iff, List.length_map, List.length_append, List.length_take, List.length_drop, List.length_replicate, List.length_cons, List.length_nil, lenMax, capMax, Int.toNat_natCast, gt_iff_lt, ge_iff_le] at *); (try simp (disch := omega) only [wr, wru, shr1, Int.tdiv_eq_ediv_of_nonneg] at *)); assumption))) (fun _ _ => ?_); conv => whnf)
    | refine WpD.seq ?_
    | (refine WpD.region ?_; conv => whnf)
    | (refine WpD.draw ?_; conv => whnf)
    | (refine EndOk.mk (by kernel_rfl) ?_; conv => whnf)
    | refine WpD.block ?_
    | (refine WpD.exit ?_; conv => whnf)
    | (refine WpD.skip ?_; conv => whnf)
    | (refine WpD.ret ?_; conv => whnf)
    | refine WpD.cond rfl ?_
    | (refine Br.tt ?_; try conv => whnf)
    | (refine Br.ff ?_; try conv => whnf)
    | (refine Br.of_t (by assumption) ?_; conv => whnf)
    | (refine Br.of_f (by assumption) ?_; conv => whnf)
    | (refine Br.mk (fun _ => ?_) (fun _ => ?_) <;> try conv => whnf)
    | refine Exists.intro _ (And.intro (DV_toV rfl) ?_)
    | (refine CallOp.std ?_; (conv => whnf); fail_if_success refine (?_ : False))
    | (refine CallDet.std ?_; (conv => whnf); fail_if_success refine (?_ : False))
    | (refine And.intro (by (first | decide | exact trivial | omega | exact Nat.le_refl _ | (((try simp only [decide_eq_true_eq, decide_eq_false_iff_not, cond_true, cond_false, beq_iff_eq, beq_eq_false_iff_ne, bne_iff_ne, bne_eq_false_iff_eq, ne_eq, Bool.not_eq_true', Bool.not_eq_false', Bool.not_eq_eq_eq_not, Bool.not_true, Bool.not_false, sLe_eq, Bool.and_eq_true, Bool.and_eq_false_iff, List.length_map, List.length_append, List.length_take, List.length_drop, List.length_replicate, List.length_cons, List.length_nil, lenMax, capMax, Int.toNat_natCast, gt_iff_lt, ge_iff_le] at *); (try simp (disch := omega) only [wr, wru, shr1, Int.tdiv_eq_ediv_of_nonneg] at *)); omega) | (((try simp only [decide_eq_true_eq, decide_eq_false_iff_not, cond_true, cond_false, beq_iff_eq, beq_eq_false_iff_ne, bne_iff_ne, bne_eq_false_iff_eq, ne_eq, Bool.not_eq_true', Bool.not_eq_false', Bool.not_eq_eq_eq_not, Bool.not_true, Bool.not_false, sLe_eq, Bool.and_eq_true, Bool.and_eq_false_iff, List.length_map, List.length_append, List.length_take, List.length_drop, List.length_replicate, List.length_cons, List.length_nil, lenMax, capMax, Int.toNat_natCast, gt_iff_lt, ge_iff_le] at *); (try simp (disch := omega) only [wr, wru, shr1, Int.tdiv_eq_ediv_of_nonneg] at *)); assumption))) ?_; conv => whnf)
  all_goals ((try simp only [decide_eq_true_eq, decide_eq_false_iff_not, cond_true, cond_false, beq_iff_eq, beq_eq_false_iff_ne, bne_iff_ne, bne_eq_false_iff_eq, ne_eq, Bool.not_eq_true', Bool.not_eq_false', Bool.not_eq_eq_eq_not, Bool.not_true, Bool.not_false, sLe_eq, Bool.and_eq_true, Bool.and_eq_false_iff, List.length_map, List.length_append, List.length_take, List.length_drop, List.length_replicate, List.length_cons, List.length_nil, lenMax, capMax, Int.toNat_natCast, gt_iff_lt, ge_iff_le] at *); (try simp (disch := omega) only [wr, wru, shr1, Int.tdiv_eq_ediv_of_nonneg] at *))
  · rename_i h
    have h1 : sFault l ≠ (0, 0) := by intro e; rw [e] at h; simp at h
    rw [aF_ne (f := sFault l) (by unfold cFault; rw [if_pos h1]) h1]; rfl
  all_goals rename (sFault l).fst = 0 => h0
  · have e : cFault l s now = (10, -3) := by rw [cF_2 h0, if_pos (by unfold nOk; omega)]
    rw [aF_ne e (by simp)]; rfl
  · have e : cFault l s now = (3, -2) := by rw [cF_2 h0, if_neg (by unfold nOk; omega), if_pos (by unfold instOk; omega)]
    rw [aF_ne e (by simp)]; rfl
  all_goals
    have hc : cFault l s now = (0, 0) := by rw [cF_2 h0, if_neg (by unfold nOk; omega), if_neg (by unfold instOk; omega)]
    have hs := (sf_ok (sf_ne h0)).2.2
    rw [aFault, if_neg (by simp [hc])]
  · rename 0 ≤ atF s 0 l => ha
    obtain ⟨hh, he⟩ := at_has hs ha
    rename l[_]? = some _ => hx
    rw [he, Int.toNat_natCast] at hx
    rename_i hd
    rw [later_of hh hx, he]
    simp only [hd, decide_true, if_true]; rfl
  · rename 0 ≤ atF s 0 l => ha
    obtain ⟨hh, he⟩ := at_has hs ha
    rename l[_]? = some _ => hx
    rw [he, Int.toNat_natCast] at hx
    rename_i hd
    rw [later_of hh hx]
    simp only [hd, decide_false, Bool.false_eq_true, if_false]; rfl
  · rename ¬ 0 ≤ atF s 0 l => ha
    rw [later_not (at_not hs ha)]
    simp only [Bool.false_eq_true, if_false]; rfl
end Go.DL
