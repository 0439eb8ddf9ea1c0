/- Classify: Learn. No condition. -/
import Derived.Test.YtdadnjhfennenaaC4
set_option linter.unusedVariables false
set_option linter.unusedSimpArgs false
set_option maxHeartbeats 4000000
namespace Go.DL
open Go.Proofs

theorem wF_len {w : Wd} (h : wF w = (0, 0)) : w.l.length ≤ 2000 ∧ 0 ≤ w.g ∧ w.g ≤ 1000000 ∧ 0 ≤ w.j ∧ w.j ≤ 1000000 := by
  unfold wF at h
  split at h
  · simp at h
  · split at h
    · simp at h
    · omega
theorem wchk_inv {G J : Int} {p : Option Tk} {x : Tk} (h : wchk G J p x = 0) : fitB x.s = true ∧ tOk G J x ∧ ∀ y, p = some y → sLt y.s x.s = true := by
  unfold wchk at h
  split at h
  · simp at h
  · rename_i h1
    split at h
    · simp at h
    · rename_i h2
      refine ⟨by simpa using h1, by simpa using h2, fun y hy => ?_⟩
      subst hy
      dsimp only at h
      split at h
      · assumption
      · simp at h
theorem st_of_adj {l : List Tk} (h : ∀ (i : Nat) x y, l[i]? = some x → l[i + 1]? = some y → sLt x.s y.s = true) : ST l := by
  unfold ST SortL
  induction l with
  | nil => exact .nil
  | cons x l ih =>
    have ih' := ih (fun i y z hy hz => h (i + 1) y z (by simpa using hy) (by simpa using hz))
    refine .cons (fun y hy => ?_) ih'
    cases l with
    | nil => cases hy
    | cons z l =>
      have h0 := h 0 x z rfl rfl
      rcases List.mem_cons.1 hy with rfl | hy
      · exact h0
      · exact sLt_trans h0 ((List.pairwise_cons.1 ih').1 y hy)
structure okW (w : Wd) : Prop where
  g : 0 ≤ w.g ∧ w.g ≤ 1000000
  j : 0 ≤ w.j ∧ w.j ≤ 1000000
  l : w.l.length ≤ 2000
  t : ∀ x ∈ w.l, fitB x.s = true ∧ tOk w.g w.j x
  s : ST w.l
theorem wF_ok {w : Wd} (h : wF w = (0, 0)) : okW w := by
  obtain ⟨h1, h2⟩ := wF_len h
  unfold wF at h
  rw [if_neg (by omega), if_neg (by omega)] at h
  have hv := vfl_ok.1 h
  refine ⟨by omega, by omega, h1, fun x hx => ?_, st_of_adj fun i x y hx hy => ?_⟩
  · obtain ⟨i, hi, rfl⟩ := List.mem_iff_getElem.1 hx
    have := wchk_inv (hv i _ (List.getElem?_eq_getElem hi))
    exact ⟨this.1, this.2.1⟩
  · have := hv (i + 1) y hy
    rw [if_neg (by omega)] at this
    exact (wchk_inv this).2.2 x (by simpa using hx)
theorem ok_wF {w : Wd} (h : okW w) : wF w = (0, 0) := by
  unfold wF
  have := h.g; have := h.j; have := h.l
  rw [if_neg (by omega), if_neg (by omega)]
  refine vfl_ok.2 fun i x hx => ?_
  have hk := h.t x (List.mem_of_getElem? hx)
  by_cases hi : i = 0
  · subst hi; exact wchk_0 hk.1 hk.2
  · rw [if_neg hi]
    have hlt := lt_get hx
    obtain ⟨z, hz⟩ : ∃ z, w.l[i - 1]? = some z := ⟨_, List.getElem?_eq_getElem (by omega)⟩
    rw [hz]
    exact wchk_1 hk.1 hk.2 (sort_get h.s (by omega) hz hx)
theorem tF_len {l : List ByteArray} (h : tF l = (0, 0)) : l.length ≤ 1000 := by
  unfold tF at h
  split at h
  · simp at h
  · omega
theorem cF_ok {w : Wd} {l : List ByteArray} (h : cF w l = (0, 0)) : okW w ∧ tF l = (0, 0) := by
  unfold cF at h
  split at h
  · rename_i h1; exact absurd h h1
  · rename_i h1; exact ⟨wF_ok (by simpa using h1), h⟩
theorem lF_ok {w : Wd} {l : List ByteArray} {junk : Bool} {lim : Int} (h : lF w l junk lim = (0, 0)) : cF w l = (0, 0) ∧ cnt junk w.g w.j ≠ lim := by
  unfold lF at h
  split at h
  · rename_i h2; exact absurd h h2
  · rename_i h2
    split at h
    · simp at h
    · exact ⟨by simpa using h2, by assumption⟩
theorem find_cases {R : List Tk} (hs : ST R) (s : ByteArray) : (hT s R = false ∧ pT s R ≤ R.length) ∨ (∃ x, hT s R = true ∧ R[pT s R]? = some x ∧ x.s = s ∧ pT s R < R.length) := by
  cases hh : hT s R with
  | false => exact .inl ⟨rfl, posL_le _ _⟩
  | true =>
    obtain ⟨x, hx, hk, _⟩ := hasL_at sOrd hs hh
    exact .inr ⟨x, rfl, hx, hk, lt_get hx⟩
theorem ins_get {R : List Tk} (s : ByteArray) {i : Nat} (h : i ≤ R.length) : (R.take i ++ (⟨s, 0, 0⟩ : Tk) :: R.drop i)[0 + ((i : Nat) : Int).toNat]? = some ⟨s, 0, 0⟩ := by
  rw [Nat.zero_add, Int.toNat_natCast, List.getElem?_append_right (by simp; omega)]
  simp [h]
theorem c_Learn_false (w : Wd) (z : Bool) (l : List ByteArray) (h : lF w l false 1000000 = (0, 0)) : CallV tab 29 [.agg w.row, strs z l, .bool false] (· = if 2000 < (l.foldl (lrn false) w.l).length then .tup [.agg w00.row, fv (2, -1)] else .tup [.agg (Wd.row ⟨(upW w false 1).g, (upW w false 1).j, false, l.foldl (lrn false) w.l⟩), fv (0, 0)]) := by
  have h1 := c_check w z l
  obtain ⟨hc, hn⟩ := lF_ok h
  obtain ⟨how, htf⟩ := cF_ok hc
  have hg := how.g
  have hj := how.j
  have hll := tF_len htf
  have hwl := how.l
  rw [hc] at h1
  have h3 := c_CloneT w.z w.l (by omega)
  have h2 := c_of false
  have hok0 : okL 0 w.l := ⟨how.s, by omega, fun x hx => by have := (how.t x hx).2; unfold tOk at this; omega⟩
  have hwr : ∀ n : Int, 0 ≤ n → n ≤ 1100000 → IntKind.i64.wrap (n + 1) = n + 1 := fun n a b => wr (by omega) (by omega)
  have hwg := hwr w.g hg.1 (by omega)
  have hwj := hwr w.j hj.1 (by omega)
  refine callV_of Try.func29 rfl (Nat.le_of_ble_eq_true rfl) (by kernel_rfl) ?_
  all_goals have d0 := beq_eq_false_iff_ne.2 hn
  all_goals dsimp only [cnt, Bool.false_eq_true, if_true, if_false] at d0
  repeat' first
    | (apply Br.id; first
      | (apply Br.tt; try conv => whnf)
      | (apply Br.ff; try conv => whnf)
      | (refine Br.of_t (by assumption) ?_; conv => whnf)
      | (refine Br.of_f (by assumption) ?_; conv => whnf)
      | (refine Br.mk (fun _ => ?_) (fun _ => ?_) <;> try conv => whnf))
    | (apply CallOp.id; first
      | (refine call_sel h2 rfl rfl rfl rfl ?_; conv => whnf)
      | (refine call_selD h2 rfl rfl rfl rfl ?_; conv => whnf)
      | (refine call_eat [] h3 rfl rfl rfl rfl rfl rfl (by decide) rfl (by decide) (fun i p h => by simp at h) (fun xs hxs => ?_); subst hxs; conv => whnf)
      | (refine call_eatD [] h3 rfl rfl rfl rfl rfl rfl (by decide) rfl (by decide) (fun i p h => by simp at h) ?_; conv => whnf)
      | (refine call_rdV hfind rfl rfl rfl rfl ⟨DV_arr rfl (by simp), rfl, trivial⟩ rfl ?_; conv => whnf)
      | (refine call_rdVD hfind rfl rfl rfl rfl ⟨DV_arr rfl (by simp), rfl, trivial⟩ rfl ?_; conv => whnf)
      | (refine call_eat [4, 5] hins rfl rfl rfl rfl rfl rfl (by decide) rfl (by decide) (fun i p h => ?_) (fun xs hxs => ?_); rotate_left; subst hxs; conv => whnf)
      | (refine call_eatD [4, 5] hins rfl rfl rfl rfl rfl rfl (by decide) rfl (by decide) (fun i p h => ?_) ?_; rotate_left; conv => whnf)
      | (refine call_at rfl rfl rfl rfl rfl ?_)
      | (refine call_rd rfl rfl rfl rfl rfl ?_)
      | (refine CallOp.std ?_; (conv => whnf); fail_if_success refine (?_ : False)))
    | (apply CallDet.id; first
      | (refine call_sel h2 rfl rfl rfl rfl ?_; conv => whnf)
      | (refine call_selD h2 rfl rfl rfl rfl ?_; conv => whnf)
      | (refine call_eat [] h3 rfl rfl rfl rfl rfl rfl (by decide) rfl (by decide) (fun i p h => by simp at h) (fun xs hxs => ?_); subst hxs; conv => whnf)
      | (refine call_eatD [] h3 rfl rfl rfl rfl rfl rfl (by decide) rfl (by decide) (fun i p h => by simp at h) ?_; conv => whnf)
      | (refine call_rdV hfind rfl rfl rfl rfl ⟨DV_arr rfl (by simp), rfl, trivial⟩ rfl ?_; conv => whnf)
      | (refine call_rdVD hfind rfl rfl rfl rfl ⟨DV_arr rfl (by simp), rfl, trivial⟩ rfl ?_; conv => whnf)
      | (refine call_eat [4, 5] hins rfl rfl rfl rfl rfl rfl (by decide) rfl (by decide) (fun i p h => ?_) (fun xs hxs => ?_); rotate_left; subst hxs; conv => whnf)
      | (refine call_eatD [4, 5] hins rfl rfl rfl rfl rfl rfl (by decide) rfl (by decide) (fun i p h => ?_) ?_; rotate_left; conv => whnf)
      | (refine call_atD rfl rfl rfl rfl rfl ?_)
      | (refine call_rdD rfl rfl rfl rfl rfl ?_)
      | (refine CallDet.std ?_; (conv => whnf); fail_if_success refine (?_ : False)))
    | (apply CallAt.id; first
      | (apply CallAt.mk1 (h1); conv => whnf))
    | (apply CallRd.id; first
      | (apply CallRd.mk1 (h1); (· rfl); conv => whnf))
    | (refine EndOk.mk (by kernel_rfl) ?_; conv => whnf)
    | (refine And.intro (by (first | decide | exact trivial | omega | exact Nat.le_refl _ | (((try simp only [decide_eq_true_eq, decide_eq_false_iff_not, cond_true, cond_false, beq_iff_eq, beq_eq_false_iff_ne, bne_iff_ne, bne_eq_false_iff_eq, ne_eq, Bool.not_eq_true', Bool.not_eq_false', Bool.not_eq_eq_eq_not, Bool.not_true, Bool.not_false, sLe_eq, Bool.and_eq_true, Bool.and_eq_false_iff, List.length_map, List.length_set, List.length_append, List.length_take, List.length_drop, List.length_replicate, List.length_cons, List.length_nil, lenMax, capMax, Int.toNat_natCast, gt_iff_lt, ge_iff_le] at *); (try simp (disch := omega) only [wr, wru, shr1, Int.tdiv_eq_ediv_of_nonneg] at *)); omega) | (((try simp only [decide_eq_true_eq, decide_eq_false_iff_not, cond_true, cond_false, beq_iff_eq, beq_eq_false_iff_ne, bne_iff_ne, bne_eq_false_iff_eq, ne_eq, Bool.not_eq_true', Bool.not_eq_false', Bool.not_eq_eq_eq_not, Bool.not_true, Bool.not_false, sLe_eq, Bool.and_eq_true, Bool.and_eq_false_iff, List.length_map, List.length_set, List.length_append, List.length_take, List.length_drop, List.length_replicate, List.length_cons, List.length_nil, lenMax, capMax, Int.toNat_natCast, gt_iff_lt, ge_iff_le] at *); (try simp (disch := omega) only [wr, wru, shr1, Int.tdiv_eq_ediv_of_nonneg] at *)); assumption))) ?_; conv => whnf)
    | (refine idxOld (by assumption) ?_; conv => whnf)
    | (refine idxMap (by (first | decide | exact trivial | omega | exact Nat.le_refl _ | (((try simp only [decide_eq_true_eq, decide_eq_false_iff_not, cond_true, cond_false, beq_iff_eq, beq_eq_false_iff_ne, bne_iff_ne, bne_eq_false_iff_eq, ne_eq, Bool.not_eq_true', Bool.not_eq_false', Bool.not_eq_eq_eq_not, Bool.not_true, Bool.not_false, sLe_eq, Bool.and_eq_true, Bool.and_eq_false_iff, List.length_map, List.length_set, List.length_append, List.length_take, List.length_drop, List.length_replicate, List.length_cons, List.length_nil, lenMax, capMax, Int.toNat_natCast, gt_iff_lt, ge_iff_le] at *); (try simp (disch := omega) only [wr, wru, shr1, Int.tdiv_eq_ediv_of_nonneg] at *)); omega) | (((try simp only [decide_eq_true_eq, decide_eq_false_iff_not, cond_true, cond_false, beq_iff_eq, beq_eq_false_iff_ne, bne_iff_ne, bne_eq_false_iff_eq, ne_eq, Bool.not_eq_true', Bool.not_eq_false', Bool.not_eq_eq_eq_not, Bool.not_true, Bool.not_false, sLe_eq, Bool.and_eq_true, Bool.and_eq_false_iff, List.length_map, List.length_set, List.length_append, List.length_take, List.length_drop, List.length_replicate, List.length_cons, List.length_nil, lenMax, capMax, Int.toNat_natCast, gt_iff_lt, ge_iff_le] at *); (try simp (disch := omega) only [wr, wru, shr1, Int.tdiv_eq_ediv_of_nonneg] at *)); assumption))) (fun _ _ => ?_); conv => whnf)
    | refine Exists.intro _ (And.intro (DV_toV rfl) ?_)
    | (refine rowSet (by (first | decide | exact trivial | omega | exact Nat.le_refl _ | (((try simp only [decide_eq_true_eq, decide_eq_false_iff_not, cond_true, cond_false, beq_iff_eq, beq_eq_false_iff_ne, bne_iff_ne, bne_eq_false_iff_eq, ne_eq, Bool.not_eq_true', Bool.not_eq_false', Bool.not_eq_eq_eq_not, Bool.not_true, Bool.not_false, sLe_eq, Bool.and_eq_true, Bool.and_eq_false_iff, List.length_map, List.length_set, List.length_append, List.length_take, List.length_drop, List.length_replicate, List.length_cons, List.length_nil, lenMax, capMax, Int.toNat_natCast, gt_iff_lt, ge_iff_le] at *); (try simp (disch := omega) only [wr, wru, shr1, Int.tdiv_eq_ediv_of_nonneg] at *)); omega) | (((try simp only [decide_eq_true_eq, decide_eq_false_iff_not, cond_true, cond_false, beq_iff_eq, beq_eq_false_iff_ne, bne_iff_ne, bne_eq_false_iff_eq, ne_eq, Bool.not_eq_true', Bool.not_eq_false', Bool.not_eq_eq_eq_not, Bool.not_true, Bool.not_false, sLe_eq, Bool.and_eq_true, Bool.and_eq_false_iff, List.length_map, List.length_set, List.length_append, List.length_take, List.length_drop, List.length_replicate, List.length_cons, List.length_nil, lenMax, capMax, Int.toNat_natCast, gt_iff_lt, ge_iff_le] at *); (try simp (disch := omega) only [wr, wru, shr1, Int.tdiv_eq_ediv_of_nonneg] at *)); assumption))) ?_; conv => whnf)
    | (refine rowOld (by assumption) ?_; conv => whnf)
    | (refine rowNew (by (first | decide | exact trivial | omega | exact Nat.le_refl _ | (((try simp only [decide_eq_true_eq, decide_eq_false_iff_not, cond_true, cond_false, beq_iff_eq, beq_eq_false_iff_ne, bne_iff_ne, bne_eq_false_iff_eq, ne_eq, Bool.not_eq_true', Bool.not_eq_false', Bool.not_eq_eq_eq_not, Bool.not_true, Bool.not_false, sLe_eq, Bool.and_eq_true, Bool.and_eq_false_iff, List.length_map, List.length_set, List.length_append, List.length_take, List.length_drop, List.length_replicate, List.length_cons, List.length_nil, lenMax, capMax, Int.toNat_natCast, gt_iff_lt, ge_iff_le] at *); (try simp (disch := omega) only [wr, wru, shr1, Int.tdiv_eq_ediv_of_nonneg] at *)); omega) | (((try simp only [decide_eq_true_eq, decide_eq_false_iff_not, cond_true, cond_false, beq_iff_eq, beq_eq_false_iff_ne, bne_iff_ne, bne_eq_false_iff_eq, ne_eq, Bool.not_eq_true', Bool.not_eq_false', Bool.not_eq_eq_eq_not, Bool.not_true, Bool.not_false, sLe_eq, Bool.and_eq_true, Bool.and_eq_false_iff, List.length_map, List.length_set, List.length_append, List.length_take, List.length_drop, List.length_replicate, List.length_cons, List.length_nil, lenMax, capMax, Int.toNat_natCast, gt_iff_lt, ge_iff_le] at *); (try simp (disch := omega) only [wr, wru, shr1, Int.tdiv_eq_ediv_of_nonneg] at *)); assumption))) (fun _ _ => ?_); conv => whnf)
    | (apply WpD.id; first
      | (refine WpD.loopAt 50 rfl (fun q : Nat × List Tk => lrnS w z l false q.1 q.2) (fun q => lrnP w l false q.1 q.2) (fun q => l.length - q.1) ?_ (fun ⟨k, R⟩ hq => ?_); rotate_left; dsimp only at hq; obtain ⟨hq1, hq2, hq3⟩ := hq; rcases Nat.lt_or_ge k l.length with hlt | hge; rotate_left; (have dk : decide ((k : Int) < (l.length : Int)) = false := by { simp; omega }); dsimp only [lrnS]; rotate_right; (obtain ⟨s, hs⟩ : ∃ s, l[k]? = some s := ⟨_, List.getElem?_eq_getElem hlt⟩); (have hs0 : l[((k : Nat) : Int).toNat]? = some s := hs); (have dk : decide ((k : Int) < (l.length : Int)) = true := by { simp; omega }); (have hfind := c_find false R s ⟨by have := hq3.l; omega, hq3.s⟩); (have hins := c_InsertT R ⟨s, 0, 0⟩ (pT s R) (posL_le _ _) (by have := hq3.l; omega)); rcases find_cases hq3.s s with ⟨hh, hile⟩ | ⟨x, hh, hx, hxs, hile⟩; (rw [hh] at hfind; have hrow0 := ins_get s hile; dsimp only [lrnS]); rotate_left; (rw [hh] at hfind; have hx0 : R[0 + ((pT s R : Nat) : Int).toNat]? = some x := (by rw [Nat.zero_add, Int.toNat_natCast]; exact hx); dsimp only [lrnS]); rotate_right)
      | (refine WpD.walk rfl ?_; conv => whnf))
  all_goals clear h1 h2 h3
  all_goals try clear hfind hins
  all_goals try have hxb := hq3.b _ (List.mem_of_getElem? hx)
  all_goals ((try simp only [decide_eq_true_eq, decide_eq_false_iff_not, cond_true, cond_false, beq_iff_eq, beq_eq_false_iff_ne, bne_iff_ne, bne_eq_false_iff_eq, ne_eq, Bool.not_eq_true', Bool.not_eq_false', Bool.not_eq_eq_eq_not, Bool.not_true, Bool.not_false, sLe_eq, Bool.and_eq_true, Bool.and_eq_false_iff, List.length_map, List.length_set, List.length_append, List.length_take, List.length_drop, List.length_replicate, List.length_cons, List.length_nil, lenMax, capMax, Int.toNat_natCast, gt_iff_lt, ge_iff_le] at *); (try simp (disch := omega) only [wr, wru, shr1, Int.tdiv_eq_ediv_of_nonneg] at *))
  all_goals first
    | (rcases i with _ | _ | i
       · simp at h; subst h
         exact obLe_v rfl
       · simp at h; subst h
         exact obLe_v rfl
       · simp at h
       done)
    | (have hR : l.foldl (lrn false) w.l = R := by rw [hq2, List.take_of_length_le (by omega)]
       rw [hR]
       first
       | (rw [if_pos (by omega)]; rfl)
       | (rw [if_neg (by omega)]
          refine ⟨_, ?_, rfl⟩
          exact ⟨⟨rfl, rfl, DV_arr rfl (by simp), trivial⟩, ⟨rfl, rfl, trivial⟩, trivial⟩))
    | (refine ⟨(0, w.l), [0, 1, 2, 3, 4], ⟨Nat.zero_le _, rfl, hok0⟩, ⟨by decide, rfl, ?_, ?_, rfl⟩⟩
       · (repeat' first | exact trivial | rfl | apply And.intro | (refine leInt rfl ?_; first | omega | (dsimp only; omega)) | (refine leArr rfl ?_ rfl; (simp; try omega)) | (refine leBool rfl ?_; assumption))
         done
       · exact ⟨⟨rfl, rfl, rfl⟩, obLe_v rfl, obLe_v rfl, obLe_v rfl, obLe_v rfl, trivial⟩)
    | (have hl1 := lrn_no (junk := false) hq3.s hh
       have hl2 : (lrn false R s).length = min (pT s R) R.length + (R.length - pT s R + 1) := by rw [hl1]; simp
       refine ⟨(k + 1, lrn false R s), [0, 1, 2, 3, 6], ⟨by dsimp only; omega, by dsimp only; rw [take_get hs, List.foldl_append, ← hq2]; rfl, okL_next hq3⟩, ⟨⟨by decide, rfl, ?_, ?_, rfl⟩, by dsimp only; omega⟩⟩
       · (repeat' first | exact trivial | apply And.intro | (refine leInt rfl ?_; first | omega | (dsimp only; omega)) | rfl | (refine leArr rfl ?_ rfl; (simp; try omega)) | (refine leBool rfl ?_; assumption))
         done
       · refine ⟨⟨rfl, ?_, rfl⟩, obLe_v rfl, obLe_v rfl, obLe_v rfl, obLe_v ?_, trivial⟩
         · dsimp only; rw [hl2]; rfl
         · dsimp only; rw [hl1]; simp [vrows, List.map_set, Tk.row, upT])
    | (have hl1 := lrn_at (junk := false) hq3.s hx hxs
       have hl2 : (lrn false R s).length = R.length := by rw [hl1]; simp
       refine ⟨(k + 1, lrn false R s), [0, 1, 2, 3, 4], ⟨by dsimp only; omega, by dsimp only; rw [take_get hs, List.foldl_append, ← hq2]; rfl, okL_next hq3⟩, ⟨⟨by decide, rfl, ?_, ?_, rfl⟩, by dsimp only; omega⟩⟩
       · (repeat' first | exact trivial | apply And.intro | (refine leInt rfl ?_; first | omega | (dsimp only; omega)) | rfl | (refine leArr rfl ?_ rfl; (simp; try omega)) | (refine leBool rfl ?_; assumption))
         done
       · refine ⟨⟨rfl, ?_, rfl⟩, obLe_v rfl, obLe_v rfl, obLe_v rfl, obLe_v ?_, trivial⟩
         · dsimp only; rw [hl2]; rfl
         · dsimp only; rw [hl1]; simp [vrows, List.map_set, Tk.row, upT])
    | skip
  all_goals trace_state
theorem c_Learn_true (w : Wd) (z : Bool) (l : List ByteArray) (h : lF w l true 1000000 = (0, 0)) : CallV tab 29 [.agg w.row, strs z l, .bool true] (· = if 2000 < (l.foldl (lrn true) w.l).length then .tup [.agg w00.row, fv (2, -1)] else .tup [.agg (Wd.row ⟨(upW w true 1).g, (upW w true 1).j, false, l.foldl (lrn true) w.l⟩), fv (0, 0)]) := by
  have h1 := c_check w z l
  obtain ⟨hc, hn⟩ := lF_ok h
  obtain ⟨how, htf⟩ := cF_ok hc
  have hg := how.g
  have hj := how.j
  have hll := tF_len htf
  have hwl := how.l
  rw [hc] at h1
  have h3 := c_CloneT w.z w.l (by omega)
  have h2 := c_of true
  have hok0 : okL 0 w.l := ⟨how.s, by omega, fun x hx => by have := (how.t x hx).2; unfold tOk at this; omega⟩
  have hwr : ∀ n : Int, 0 ≤ n → n ≤ 1100000 → IntKind.i64.wrap (n + 1) = n + 1 := fun n a b => wr (by omega) (by omega)
  have hwg := hwr w.g hg.1 (by omega)
  have hwj := hwr w.j hj.1 (by omega)
  refine callV_of Try.func29 rfl (Nat.le_of_ble_eq_true rfl) (by kernel_rfl) ?_
  all_goals have d0 := beq_eq_false_iff_ne.2 hn
  all_goals dsimp only [cnt, Bool.false_eq_true, if_true, if_false] at d0
  repeat' first
    | (apply Br.id; first
      | (apply Br.tt; try conv => whnf)
      | (apply Br.ff; try conv => whnf)
      | (refine Br.of_t (by assumption) ?_; conv => whnf)
      | (refine Br.of_f (by assumption) ?_; conv => whnf)
      | (refine Br.mk (fun _ => ?_) (fun _ => ?_) <;> try conv => whnf))
    | (apply CallOp.id; first
      | (refine call_sel h2 rfl rfl rfl rfl ?_; conv => whnf)
      | (refine call_selD h2 rfl rfl rfl rfl ?_; conv => whnf)
      | (refine call_eat [] h3 rfl rfl rfl rfl rfl rfl (by decide) rfl (by decide) (fun i p h => by simp at h) (fun xs hxs => ?_); subst hxs; conv => whnf)
      | (refine call_eatD [] h3 rfl rfl rfl rfl rfl rfl (by decide) rfl (by decide) (fun i p h => by simp at h) ?_; conv => whnf)
      | (refine call_rdV hfind rfl rfl rfl rfl ⟨DV_arr rfl (by simp), rfl, trivial⟩ rfl ?_; conv => whnf)
      | (refine call_rdVD hfind rfl rfl rfl rfl ⟨DV_arr rfl (by simp), rfl, trivial⟩ rfl ?_; conv => whnf)
      | (refine call_eat [4, 5] hins rfl rfl rfl rfl rfl rfl (by decide) rfl (by decide) (fun i p h => ?_) (fun xs hxs => ?_); rotate_left; subst hxs; conv => whnf)
      | (refine call_eatD [4, 5] hins rfl rfl rfl rfl rfl rfl (by decide) rfl (by decide) (fun i p h => ?_) ?_; rotate_left; conv => whnf)
      | (refine call_at rfl rfl rfl rfl rfl ?_)
      | (refine call_rd rfl rfl rfl rfl rfl ?_)
      | (refine CallOp.std ?_; (conv => whnf); fail_if_success refine (?_ : False)))
    | (apply CallDet.id; first
      | (refine call_sel h2 rfl rfl rfl rfl ?_; conv => whnf)
      | (refine call_selD h2 rfl rfl rfl rfl ?_; conv => whnf)
      | (refine call_eat [] h3 rfl rfl rfl rfl rfl rfl (by decide) rfl (by decide) (fun i p h => by simp at h) (fun xs hxs => ?_); subst hxs; conv => whnf)
      | (refine call_eatD [] h3 rfl rfl rfl rfl rfl rfl (by decide) rfl (by decide) (fun i p h => by simp at h) ?_; conv => whnf)
      | (refine call_rdV hfind rfl rfl rfl rfl ⟨DV_arr rfl (by simp), rfl, trivial⟩ rfl ?_; conv => whnf)
      | (refine call_rdVD hfind rfl rfl rfl rfl ⟨DV_arr rfl (by simp), rfl, trivial⟩ rfl ?_; conv => whnf)
      | (refine call_eat [4, 5] hins rfl rfl rfl rfl rfl rfl (by decide) rfl (by decide) (fun i p h => ?_) (fun xs hxs => ?_); rotate_left; subst hxs; conv => whnf)
      | (refine call_eatD [4, 5] hins rfl rfl rfl rfl rfl rfl (by decide) rfl (by decide) (fun i p h => ?_) ?_; rotate_left; conv => whnf)
      | (refine call_atD rfl rfl rfl rfl rfl ?_)
      | (refine call_rdD rfl rfl rfl rfl rfl ?_)
      | (refine CallDet.std ?_; (conv => whnf); fail_if_success refine (?_ : False)))
    | (apply CallAt.id; first
      | (apply CallAt.mk1 (h1); conv => whnf))
    | (apply CallRd.id; first
      | (apply CallRd.mk1 (h1); (· rfl); conv => whnf))
    | (refine EndOk.mk (by kernel_rfl) ?_; conv => whnf)
    | (refine And.intro (by (first | decide | exact trivial | omega | exact Nat.le_refl _ | (((try simp only [decide_eq_true_eq, decide_eq_false_iff_not, cond_true, cond_false, beq_iff_eq, beq_eq_false_iff_ne, bne_iff_ne, bne_eq_false_iff_eq, ne_eq, Bool.not_eq_true', Bool.not_eq_false', Bool.not_eq_eq_eq_not, Bool.not_true, Bool.not_false, sLe_eq, Bool.and_eq_true, Bool.and_eq_false_iff, List.length_map, List.length_set, List.length_append, List.length_take, List.length_drop, List.length_replicate, List.length_cons, List.length_nil, lenMax, capMax, Int.toNat_natCast, gt_iff_lt, ge_iff_le] at *); (try simp (disch := omega) only [wr, wru, shr1, Int.tdiv_eq_ediv_of_nonneg] at *)); omega) | (((try simp only [decide_eq_true_eq, decide_eq_false_iff_not, cond_true, cond_false, beq_iff_eq, beq_eq_false_iff_ne, bne_iff_ne, bne_eq_false_iff_eq, ne_eq, Bool.not_eq_true', Bool.not_eq_false', Bool.not_eq_eq_eq_not, Bool.not_true, Bool.not_false, sLe_eq, Bool.and_eq_true, Bool.and_eq_false_iff, List.length_map, List.length_set, List.length_append, List.length_take, List.length_drop, List.length_replicate, List.length_cons, List.length_nil, lenMax, capMax, Int.toNat_natCast, gt_iff_lt, ge_iff_le] at *); (try simp (disch := omega) only [wr, wru, shr1, Int.tdiv_eq_ediv_of_nonneg] at *)); assumption))) ?_; conv => whnf)
    | (refine idxOld (by assumption) ?_; conv => whnf)
    | (refine idxMap (by (first | decide | exact trivial | omega | exact Nat.le_refl _ | (((try simp only [decide_eq_true_eq, decide_eq_false_iff_not, cond_true, cond_false, beq_iff_eq, beq_eq_false_iff_ne, bne_iff_ne, bne_eq_false_iff_eq, ne_eq, Bool.not_eq_true', Bool.not_eq_false', Bool.not_eq_eq_eq_not, Bool.not_true, Bool.not_false, sLe_eq, Bool.and_eq_true, Bool.and_eq_false_iff, List.length_map, List.length_set, List.length_append, List.length_take, List.length_drop, List.length_replicate, List.length_cons, List.length_nil, lenMax, capMax, Int.toNat_natCast, gt_iff_lt, ge_iff_le] at *); (try simp (disch := omega) only [wr, wru, shr1, Int.tdiv_eq_ediv_of_nonneg] at *)); omega) | (((try simp only [decide_eq_true_eq, decide_eq_false_iff_not, cond_true, cond_false, beq_iff_eq, beq_eq_false_iff_ne, bne_iff_ne, bne_eq_false_iff_eq, ne_eq, Bool.not_eq_true', Bool.not_eq_false', Bool.not_eq_eq_eq_not, Bool.not_true, Bool.not_false, sLe_eq, Bool.and_eq_true, Bool.and_eq_false_iff, List.length_map, List.length_set, List.length_append, List.length_take, List.length_drop, List.length_replicate, List.length_cons, List.length_nil, lenMax, capMax, Int.toNat_natCast, gt_iff_lt, ge_iff_le] at *); (try simp (disch := omega) only [wr, wru, shr1, Int.tdiv_eq_ediv_of_nonneg] at *)); assumption))) (fun _ _ => ?_); conv => whnf)
    | refine Exists.intro _ (And.intro (DV_toV rfl) ?_)
    | (refine rowSet (by (first | decide | exact trivial | omega | exact Nat.le_refl _ | (((try simp only [decide_eq_true_eq, decide_eq_false_iff_not, cond_true, cond_false, beq_iff_eq, beq_eq_false_iff_ne, bne_iff_ne, bne_eq_false_iff_eq, ne_eq, Bool.not_eq_true', Bool.not_eq_false', Bool.not_eq_eq_eq_not, Bool.not_true, Bool.not_false, sLe_eq, Bool.and_eq_true, Bool.and_eq_false_iff, List.length_map, List.length_set, List.length_append, List.length_take, List.length_drop, List.length_replicate, List.length_cons, List.length_nil, lenMax, capMax, Int.toNat_natCast, gt_iff_lt, ge_iff_le] at *); (try simp (disch := omega) only [wr, wru, shr1, Int.tdiv_eq_ediv_of_nonneg] at *)); omega) | (((try simp only [decide_eq_true_eq, decide_eq_false_iff_not, cond_true, cond_false, beq_iff_eq, beq_eq_false_iff_ne, bne_iff_ne, bne_eq_false_iff_eq, ne_eq, Bool.not_eq_true', Bool.not_eq_false', Bool.not_eq_eq_eq_not, Bool.not_true, Bool.not_false, sLe_eq, Bool.and_eq_true, Bool.and_eq_false_iff, List.length_map, List.length_set, List.length_append, List.length_take, List.length_drop, List.length_replicate, List.length_cons, List.length_nil, lenMax, capMax, Int.toNat_natCast, gt_iff_lt, ge_iff_le] at *); (try simp (disch := omega) only [wr, wru, shr1, Int.tdiv_eq_ediv_of_nonneg] at *)); assumption))) ?_; conv => whnf)
    | (refine rowOld (by assumption) ?_; conv => whnf)
    | (refine rowNew (by (first | decide | exact trivial | omega | exact Nat.le_refl _ | (((try simp only [decide_eq_true_eq, decide_eq_false_iff_not, cond_true, cond_false, beq_iff_eq, beq_eq_false_iff_ne, bne_iff_ne, bne_eq_false_iff_eq, ne_eq, Bool.not_eq_true', Bool.not_eq_false', Bool.not_eq_eq_eq_not, Bool.not_true, Bool.not_false, sLe_eq, Bool.and_eq_true, Bool.and_eq_false_iff, List.length_map, List.length_set, List.length_append, List.length_take, List.length_drop, List.length_replicate, List.length_cons, List.length_nil, lenMax, capMax, Int.toNat_natCast, gt_iff_lt, ge_iff_le] at *); (try simp (disch := omega) only [wr, wru, shr1, Int.tdiv_eq_ediv_of_nonneg] at *)); omega) | (((try simp only [decide_eq_true_eq, decide_eq_false_iff_not, cond_true, cond_false, beq_iff_eq, beq_eq_false_iff_ne, bne_iff_ne, bne_eq_false_iff_eq, ne_eq, Bool.not_eq_true', Bool.not_eq_false', Bool.not_eq_eq_eq_not, Bool.not_true, Bool.not_false, sLe_eq, Bool.and_eq_true, Bool.and_eq_false_iff, List.length_map, List.length_set, List.length_append, List.length_take, List.length_drop, List.length_replicate, List.length_cons, List.length_nil, lenMax, capMax, Int.toNat_natCast, gt_iff_lt, ge_iff_le] at *); (try simp (disch := omega) only [wr, wru, shr1, Int.tdiv_eq_ediv_of_nonneg] at *)); assumption))) (fun _ _ => ?_); conv => whnf)
    | (apply WpD.id; first
      | (refine WpD.loopAt 50 rfl (fun q : Nat × List Tk => lrnS w z l true q.1 q.2) (fun q => lrnP w l true q.1 q.2) (fun q => l.length - q.1) ?_ (fun ⟨k, R⟩ hq => ?_); rotate_left; dsimp only at hq; obtain ⟨hq1, hq2, hq3⟩ := hq; rcases Nat.lt_or_ge k l.length with hlt | hge; rotate_left; (have dk : decide ((k : Int) < (l.length : Int)) = false := by { simp; omega }); dsimp only [lrnS]; rotate_right; (obtain ⟨s, hs⟩ : ∃ s, l[k]? = some s := ⟨_, List.getElem?_eq_getElem hlt⟩); (have hs0 : l[((k : Nat) : Int).toNat]? = some s := hs); (have dk : decide ((k : Int) < (l.length : Int)) = true := by { simp; omega }); (have hfind := c_find false R s ⟨by have := hq3.l; omega, hq3.s⟩); (have hins := c_InsertT R ⟨s, 0, 0⟩ (pT s R) (posL_le _ _) (by have := hq3.l; omega)); rcases find_cases hq3.s s with ⟨hh, hile⟩ | ⟨x, hh, hx, hxs, hile⟩; (rw [hh] at hfind; have hrow0 := ins_get s hile; dsimp only [lrnS]); rotate_left; (rw [hh] at hfind; have hx0 : R[0 + ((pT s R : Nat) : Int).toNat]? = some x := (by rw [Nat.zero_add, Int.toNat_natCast]; exact hx); dsimp only [lrnS]); rotate_right)
      | (refine WpD.walk rfl ?_; conv => whnf))
  all_goals clear h1 h2 h3
  all_goals try clear hfind hins
  all_goals try have hxb := hq3.b _ (List.mem_of_getElem? hx)
  all_goals ((try simp only [decide_eq_true_eq, decide_eq_false_iff_not, cond_true, cond_false, beq_iff_eq, beq_eq_false_iff_ne, bne_iff_ne, bne_eq_false_iff_eq, ne_eq, Bool.not_eq_true', Bool.not_eq_false', Bool.not_eq_eq_eq_not, Bool.not_true, Bool.not_false, sLe_eq, Bool.and_eq_true, Bool.and_eq_false_iff, List.length_map, List.length_set, List.length_append, List.length_take, List.length_drop, List.length_replicate, List.length_cons, List.length_nil, lenMax, capMax, Int.toNat_natCast, gt_iff_lt, ge_iff_le] at *); (try simp (disch := omega) only [wr, wru, shr1, Int.tdiv_eq_ediv_of_nonneg] at *))
  all_goals first
    | (rcases i with _ | _ | i
       · simp at h; subst h
         exact obLe_v rfl
       · simp at h; subst h
         exact obLe_v rfl
       · simp at h
       done)
    | (have hR : l.foldl (lrn true) w.l = R := by rw [hq2, List.take_of_length_le (by omega)]
       rw [hR]
       first
       | (rw [if_pos (by omega)]; rfl)
       | (rw [if_neg (by omega)]
          refine ⟨_, ?_, rfl⟩
          exact ⟨⟨rfl, rfl, DV_arr rfl (by simp), trivial⟩, ⟨rfl, rfl, trivial⟩, trivial⟩))
    | (refine ⟨(0, w.l), [0, 1, 2, 3, 4], ⟨Nat.zero_le _, rfl, hok0⟩, ⟨by decide, rfl, ?_, ?_, rfl⟩⟩
       · (repeat' first | exact trivial | rfl | apply And.intro | (refine leInt rfl ?_; first | omega | (dsimp only; omega)) | (refine leArr rfl ?_ rfl; (simp; try omega)) | (refine leBool rfl ?_; assumption))
         done
       · exact ⟨⟨rfl, rfl, rfl⟩, obLe_v rfl, obLe_v rfl, obLe_v rfl, obLe_v rfl, trivial⟩)
    | (have hl1 := lrn_no (junk := true) hq3.s hh
       have hl2 : (lrn true R s).length = min (pT s R) R.length + (R.length - pT s R + 1) := by rw [hl1]; simp
       refine ⟨(k + 1, lrn true R s), [0, 1, 2, 3, 6], ⟨by dsimp only; omega, by dsimp only; rw [take_get hs, List.foldl_append, ← hq2]; rfl, okL_next hq3⟩, ⟨⟨by decide, rfl, ?_, ?_, rfl⟩, by dsimp only; omega⟩⟩
       · (repeat' first | exact trivial | apply And.intro | (refine leInt rfl ?_; first | omega | (dsimp only; omega)) | rfl | (refine leArr rfl ?_ rfl; (simp; try omega)) | (refine leBool rfl ?_; assumption))
         done
       · refine ⟨⟨rfl, ?_, rfl⟩, obLe_v rfl, obLe_v rfl, obLe_v rfl, obLe_v ?_, trivial⟩
         · dsimp only; rw [hl2]; rfl
         · dsimp only; rw [hl1]; simp [vrows, List.map_set, Tk.row, upT])
    | (have hl1 := lrn_at (junk := true) hq3.s hx hxs
       have hl2 : (lrn true R s).length = R.length := by rw [hl1]; simp
       refine ⟨(k + 1, lrn true R s), [0, 1, 2, 3, 4], ⟨by dsimp only; omega, by dsimp only; rw [take_get hs, List.foldl_append, ← hq2]; rfl, okL_next hq3⟩, ⟨⟨by decide, rfl, ?_, ?_, rfl⟩, by dsimp only; omega⟩⟩
       · (repeat' first | exact trivial | apply And.intro | (refine leInt rfl ?_; first | omega | (dsimp only; omega)) | rfl | (refine leArr rfl ?_ rfl; (simp; try omega)) | (refine leBool rfl ?_; assumption))
         done
       · refine ⟨⟨rfl, ?_, rfl⟩, obLe_v rfl, obLe_v rfl, obLe_v rfl, obLe_v ?_, trivial⟩
         · dsimp only; rw [hl2]; rfl
         · dsimp only; rw [hl1]; simp [vrows, List.map_set, Tk.row, upT])
    | skip
  all_goals trace_state
end Go.DL
