import Derived.Test.YtdadnjhfennenaaB3
set_option linter.unusedVariables false
set_option linter.unusedSimpArgs false
set_option maxHeartbeats 4000000
namespace Go.DL
open Go.Proofs

theorem flt_ok : ∀ (l : List Sd) (k : Nat) (p : Option Sd), flt k p l = (0, 0) → (∀ x ∈ l, nOk x.n ∧ rOk x) ∧ (∀ (i j : Nat) x y, i < j → l[i]? = some x → l[j]? = some y → sLt x.n y.n = true) ∧ (∀ q x, p = some q → x ∈ l → sLt q.n x.n = true)
  | [], k, p, _ => ⟨by simp, by simp, by simp⟩
  | x :: r, k, p, h => by
    simp only [flt] at h
    split at h
    · simp at h
    rename_i h1
    split at h
    · simp at h
    rename_i h2
    split at h
    · simp at h
    rename_i h3
    obtain ⟨a, b, c⟩ := flt_ok r (k + 1) (some x) h
    refine ⟨?_, ?_, ?_⟩
    · intro y hy
      rcases List.mem_cons.1 hy with rfl | hy
      · exact ⟨by simpa using h1, by simpa using h2⟩
      · exact a y hy
    · intro i j u v hij hu hv
      cases j with
      | zero => omega
      | succ j =>
        cases i with
        | zero => simp at hu hv; subst hu; exact c _ v rfl (List.mem_of_getElem? hv)
        | succ i => exact b i j u v (by omega) (by simpa using hu) (by simpa using hv)
    · intro q y hq hy
      subst hq
      have h3' : sLt q.n x.n = true := by simpa [oOk] using h3
      rcases List.mem_cons.1 hy with rfl | hy
      · exact h3'
      · exact sLt_trans h3' (c x y rfl hy)
theorem sf_ok {l : List Sd} (h : sFault l = (0, 0)) : l.length ≤ 300 ∧ (∀ x ∈ l, nOk x.n ∧ rOk x) ∧ Sorted l := by
  unfold sFault at h
  split at h
  · simp at h
  · obtain ⟨a, b, c⟩ := flt_ok l 0 none h
    exact ⟨by omega, a, b⟩
theorem sf_sorted {l : List Sd} (h : (sFault l).1 = 0 ∧ (sFault l).2 = 0 ∧ True) : l.length ≤ 1000000 ∧ Sorted l := by
  obtain ⟨a, b, c⟩ := sf_ok (l := l) (Prod.ext h.1 h.2.1)
  exact ⟨by omega, c⟩
theorem flt_ne : ∀ (l : List Sd) (k : Nat) (p : Option Sd), (flt k p l).1 = 0 → flt k p l = (0, 0)
  | [], k, p, _ => rfl
  | x :: r, k, p, h => by
    simp only [flt] at h ⊢
    split
    · rename_i h1; rw [if_pos h1] at h; simp at h
    · rename_i h1; rw [if_neg h1] at h
      split
      · rename_i h2; rw [if_pos h2] at h; simp at h
      · rename_i h2; rw [if_neg h2] at h
        split
        · rename_i h3; rw [if_pos h3] at h; simp at h
        · rename_i h3; rw [if_neg h3] at h; exact flt_ne r _ _ h
theorem sf_ne {l : List Sd} (h : (sFault l).1 = 0) : sFault l = (0, 0) := by
  unfold sFault at h ⊢
  split
  · rename_i h1; rw [if_pos h1] at h; simp at h
  · rename_i h1; rw [if_neg h1] at h; exact flt_ne _ _ _ h
def instOk (n : Int) : Prop := -68719476736 ≤ n ∧ n ≤ 68719476736
instance (n : Int) : Decidable (instOk n) := by unfold instOk; infer_instance
def cFault (l : List Sd) (s : ByteArray) (now : Int) : Int × Int := if sFault l ≠ (0, 0) then sFault l else if ¬ nOk s then (10, -3) else if ¬ instOk now then (3, -2) else (0, 0)
/-- The one who is there was noted later than now. -/
def later (l : List Sd) (s : ByteArray) (now : Int) : Bool := match l[posF s l]? with | some x => decide (x.n = s) && decide (dayOf now < x.d) | none => false
def aFault (l : List Sd) (s : ByteArray) (now : Int) : Int × Int := if cFault l s now ≠ (0, 0) then cFault l s now else if later l s now then (19, (posF s l : Int)) else (0, 0)
theorem has_lt {l : List Sd} {s : ByteArray} (h : hasF s l = true) : ((posF s l : Nat) : Int).toNat < l.length := by
  unfold hasF at h
  split at h
  · rename_i x hx; have := (List.getElem?_eq_some_iff.1 hx).1; omega
  · cases h
theorem has_n {l : List Sd} {s : ByteArray} {x : Sd} (h : hasF s l = true) (hx : l[posF s l]? = some x) : x.n = s := by
  unfold hasF at h; rw [hx] at h; simpa using h
theorem cF_1 {l : List Sd} {s : ByteArray} {now : Int} (h : ¬(sFault l).fst = 0 ∨ ¬(sFault l).snd = 0 ∨ true = false) : sFault l ≠ (0, 0) ∧ cFault l s now = sFault l := by
  have hne : sFault l ≠ (0, 0) := by intro e; rw [e] at h; simp at h
  exact ⟨hne, by unfold cFault; rw [if_pos hne]⟩
theorem cF_0 {l : List Sd} {s : ByteArray} {now : Int} (h : (sFault l).fst = 0 ∧ (sFault l).snd = 0 ∧ True) : cFault l s now = if ¬ nOk s then (10, -3) else if ¬ instOk now then (3, -2) else (0, 0) := by
  unfold cFault; rw [if_neg (by simp [Prod.ext_iff, h.1, h.2.1])]
set_option maxHeartbeats 4000000 in
theorem c_check (z : Bool) (l : List Sd) (s : ByteArray) (now : Int) : CallV tab 36 [sds z l, .str s, .int .i64 now] (· = if cFault l s now = (0, 0) then .tup [.int .i64 (posF s l), .bool (hasF s l), fv (aFault l s now)] else .tup [.int .i64 0, .bool false, fv (cFault l s now)]) := by
  refine callV_of Try.func36 rfl (Nat.le_of_ble_eq_true rfl) (by kernel_rfl) ?_
  repeat' first
    | (refine idxMap (has_lt ‹_›) (fun _ _ => ?_); conv => whnf)
    | (refine call_pure1 (c_Validate _ _) rfl rfl rfl rfl rfl ?_; conv => whnf)
    | (refine call_pureD (c_Validate _ _) rfl rfl rfl rfl rfl ?_; conv => whnf)
    | (refine call_pure1 (c_named _) rfl rfl rfl rfl rfl ?_; conv => whnf)
    | (refine call_pureD (c_named _) rfl rfl rfl rfl rfl ?_; conv => whnf)
    | (refine call_pureP (c_day _) rfl rfl rfl rfl rfl (by (first | decide | exact trivial | omega | exact Nat.le_refl _ | (((try simp only [decide_eq_true_eq, decide_eq_false_iff_not, cond_true, cond_false, beq_iff_eq, beq_eq_false_iff_ne, bne_iff_ne, bne_eq_false_iff_eq, ne_eq, Bool.not_eq_true', Bool.not_eq_false', Bool.not_eq_eq_eq_not, Bool.not_true, Bool.not_false, sLe_eq, Bool.and_eq_true, Bool.and_eq_false_iff, List.length_map, List.length_append, List.length_take, List.length_drop, List.length_replicate, List.length_cons, List.length_nil, lenMax, capMax, Int.toNat_natCast, gt_iff_lt, ge_iff_le] at *); (try simp (disch := omega) only [wr, wru, shr1, Int.tdiv_eq_ediv_of_nonneg] at *)); omega) | (((try simp only [decide_eq_true_eq, decide_eq_false_iff_not, cond_true, cond_false, beq_iff_eq, beq_eq_false_iff_ne, bne_iff_ne, bne_eq_false_iff_eq, ne_eq, Bool.not_eq_true', Bool.not_eq_false', Bool.not_eq_eq_eq_not, Bool.not_true, Bool.not_false, sLe_eq, Bool.and_eq_true, Bool.and_eq_false_iff, List.length_map, List.length_append, List.length_take, List.length_drop, List.length_replicate, List.length_cons, List.length_nil, lenMax, capMax, Int.toNat_natCast, gt_iff_lt, ge_iff_le] at *); (try simp (disch := omega) only [wr, wru, shr1, Int.tdiv_eq_ediv_of_nonneg] at *)); assumption))) ?_; conv => whnf)
    | (refine call_purePD (c_day _) rfl rfl rfl rfl rfl (by (first | decide | exact trivial | omega | exact Nat.le_refl _ | (((try simp only [decide_eq_true_eq, decide_eq_false_iff_not, cond_true, cond_false, beq_iff_eq, beq_eq_false_iff_ne, bne_iff_ne, bne_eq_false_iff_eq, ne_eq, Bool.not_eq_true', Bool.not_eq_false', Bool.not_eq_eq_eq_not, Bool.not_true, Bool.not_false, sLe_eq, Bool.and_eq_true, Bool.and_eq_false_iff, List.length_map, List.length_append, List.length_take, List.length_drop, List.length_replicate, List.length_cons, List.length_nil, lenMax, capMax, Int.toNat_natCast, gt_iff_lt, ge_iff_le] at *); (try simp (disch := omega) only [wr, wru, shr1, Int.tdiv_eq_ediv_of_nonneg] at *)); omega) | (((try simp only [decide_eq_true_eq, decide_eq_false_iff_not, cond_true, cond_false, beq_iff_eq, beq_eq_false_iff_ne, bne_iff_ne, bne_eq_false_iff_eq, ne_eq, Bool.not_eq_true', Bool.not_eq_false', Bool.not_eq_eq_eq_not, Bool.not_true, Bool.not_false, sLe_eq, Bool.and_eq_true, Bool.and_eq_false_iff, List.length_map, List.length_append, List.length_take, List.length_drop, List.length_replicate, List.length_cons, List.length_nil, lenMax, capMax, Int.toNat_natCast, gt_iff_lt, ge_iff_le] at *); (try simp (disch := omega) only [wr, wru, shr1, Int.tdiv_eq_ediv_of_nonneg] at *)); assumption))) ?_; conv => whnf)
    | (refine call_pureP (c_find _ _ _) rfl rfl rfl rfl rfl (by ((try simp only [decide_eq_true_eq, decide_eq_false_iff_not, cond_true, cond_false, beq_iff_eq, beq_eq_false_iff_ne, bne_iff_ne, bne_eq_false_iff_eq, ne_eq, Bool.not_eq_true', Bool.not_eq_false', Bool.not_eq_eq_eq_not, Bool.not_true, Bool.not_false, sLe_eq, Bool.and_eq_true, Bool.and_eq_false_iff, List.length_map, List.length_append, List.length_take, List.length_drop, List.length_replicate, List.length_cons, List.length_nil, lenMax, capMax, Int.toNat_natCast, gt_iff_lt, ge_iff_le] at *); (try simp (disch := omega) only [wr, wru, shr1, Int.tdiv_eq_ediv_of_nonneg] at *)); exact sf_sorted (by assumption)) ?_; conv => whnf)
    | (refine idxMap (by (first | decide | exact trivial | omega | exact Nat.le_refl _ | (((try simp only [decide_eq_true_eq, decide_eq_false_iff_not, cond_true, cond_false, beq_iff_eq, beq_eq_false_iff_ne, bne_iff_ne, bne_eq_false_iff_eq, ne_eq, Bool.not_eq_true', Bool.not_eq_false', Bool.not_eq_eq_eq_not, Bool.not_true, Bool.not_false, sLe_eq, Bool.and_eq_true, Bool.and_eq_false_iff, List.length_map, List.length_append, List.length_take, List.length_drop, List.length_replicate, List.length_cons, List.length_nil, lenMax, capMax, Int.toNat_natCast, gt_iff_lt, ge_iff_le] at *); (try simp (disch := omega) only [wr, wru, shr1, Int.tdiv_eq_ediv_of_nonneg] at *)); omega) | (((try simp only [decide_eq_true_eq, decide_eq_false_iff_not, cond_true, cond_false, beq_iff_eq, beq_eq_false_iff_ne, bne_iff_ne, bne_eq_false_iff_eq, ne_eq, Bool.not_eq_true', Bool.not_eq_false', Bool.not_eq_eq_eq_not, Bool.not_true, Bool.not_false, sLe_eq, Bool.and_eq_true, Bool.and_eq_false_iff, List.length_map, List.length_append, List.length_take, List.length_drop, List.length_replicate, List.length_cons, List.length_nil, lenMax, capMax, Int.toNat_natCast, gt_iff_lt, ge_iff_le] at *); (try simp (disch := omega) only [wr, wru, shr1, Int.tdiv_eq_ediv_of_nonneg] at *)); assumption))) (fun _ _ => ?_); conv => whnf)
    | refine WpD.seq ?_
    | (refine WpD.region ?_; conv => whnf)
    | (refine WpD.draw ?_; conv => whnf)
    | (refine EndOk.mk (by kernel_rfl) ?_; conv => whnf)
    | refine WpD.block ?_
    | (refine WpD.exit ?_; conv => whnf)
    | (refine WpD.skip ?_; conv => whnf)
    | (refine WpD.ret ?_; conv => whnf)
    | refine WpD.cond rfl ?_
    | (refine Br.tt ?_; try conv => whnf)
    | (refine Br.ff ?_; try conv => whnf)
    | (refine Br.of_t (by assumption) ?_; conv => whnf)
    | (refine Br.of_f (by assumption) ?_; conv => whnf)
    | (refine Br.mk (fun _ => ?_) (fun _ => ?_) <;> try conv => whnf)
    | refine Exists.intro _ (And.intro (DV_toV rfl) ?_)
    | (refine CallOp.std ?_; (conv => whnf); fail_if_success refine (?_ : False))
    | (refine CallDet.std ?_; (conv => whnf); fail_if_success refine (?_ : False))
    | (refine And.intro (by (first | decide | exact trivial | omega | exact Nat.le_refl _ | (((try simp only [decide_eq_true_eq, decide_eq_false_iff_not, cond_true, cond_false, beq_iff_eq, beq_eq_false_iff_ne, bne_iff_ne, bne_eq_false_iff_eq, ne_eq, Bool.not_eq_true', Bool.not_eq_false', Bool.not_eq_eq_eq_not, Bool.not_true, Bool.not_false, sLe_eq, Bool.and_eq_true, Bool.and_eq_false_iff, List.length_map, List.length_append, List.length_take, List.length_drop, List.length_replicate, List.length_cons, List.length_nil, lenMax, capMax, Int.toNat_natCast, gt_iff_lt, ge_iff_le] at *); (try simp (disch := omega) only [wr, wru, shr1, Int.tdiv_eq_ediv_of_nonneg] at *)); omega) | (((try simp only [decide_eq_true_eq, decide_eq_false_iff_not, cond_true, cond_false, beq_iff_eq, beq_eq_false_iff_ne, bne_iff_ne, bne_eq_false_iff_eq, ne_eq, Bool.not_eq_true', Bool.not_eq_false', Bool.not_eq_eq_eq_not, Bool.not_true, Bool.not_false, sLe_eq, Bool.and_eq_true, Bool.and_eq_false_iff, List.length_map, List.length_append, List.length_take, List.length_drop, List.length_replicate, List.length_cons, List.length_nil, lenMax, capMax, Int.toNat_natCast, gt_iff_lt, ge_iff_le] at *); (try simp (disch := omega) only [wr, wru, shr1, Int.tdiv_eq_ediv_of_nonneg] at *)); assumption))) ?_; conv => whnf)
  all_goals ((try simp only [decide_eq_true_eq, decide_eq_false_iff_not, cond_true, cond_false, beq_iff_eq, beq_eq_false_iff_ne, bne_iff_ne, bne_eq_false_iff_eq, ne_eq, Bool.not_eq_true', Bool.not_eq_false', Bool.not_eq_eq_eq_not, Bool.not_true, Bool.not_false, sLe_eq, Bool.and_eq_true, Bool.and_eq_false_iff, List.length_map, List.length_append, List.length_take, List.length_drop, List.length_replicate, List.length_cons, List.length_nil, lenMax, capMax, Int.toNat_natCast, gt_iff_lt, ge_iff_le] at *); (try simp (disch := omega) only [wr, wru, shr1, Int.tdiv_eq_ediv_of_nonneg] at *))
  · rename_i h
    obtain ⟨h1, h2⟩ := cF_1 (s := s) (now := now) h
    rw [h2, if_neg h1]; rfl
  all_goals rename (sFault l).fst = 0 ∧ _ => h0
  · rename_i h
    have e : cFault l s now = (10, -3) := by rw [cF_0 h0, if_pos (by unfold nOk; omega)]
    rw [if_neg (by rw [e]; simp), e]; rfl
  · have e : cFault l s now = (3, -2) := by rw [cF_0 h0, if_neg (by unfold nOk; omega), if_pos (by unfold instOk; omega)]
    rw [if_neg (by rw [e]; simp), e]; rfl
  · have e : cFault l s now = (3, -2) := by rw [cF_0 h0, if_neg (by unfold nOk; omega), if_pos (by unfold instOk; omega)]
    rw [if_neg (by rw [e]; simp), e]; rfl
  all_goals
    have hc : cFault l s now = (0, 0) := by rw [cF_0 h0, if_neg (by unfold nOk; omega), if_neg (by unfold instOk; omega)]
    rw [if_pos hc, aFault, if_neg (by simp [hc])]
  · rename_i hh x hx _ _ _ hd
    rw [later, hx]
    simp only [has_n hh hx, hd, decide_true, Bool.and_true, if_true]; rfl
  · rename_i hh x hx _ _ _ hd
    rw [later, hx]
    simp only [has_n hh hx, hd, decide_true, decide_false, Bool.and_false, Bool.false_eq_true, if_false, h0.1, h0.2.1]; rfl
  · rename_i hh _ _ _
    have : later l s now = false := by
      unfold later
      unfold hasF at hh
      split
      · rename_i x hx; rw [hx] at hh; simp at hh; simp [hh]
      · rfl
    rw [this]
    simp only [h0.1, h0.2.1, Bool.false_eq_true, if_false]; rfl
end Go.DL
