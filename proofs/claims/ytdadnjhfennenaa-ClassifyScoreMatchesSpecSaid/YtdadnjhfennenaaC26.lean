/- Classify: the reference's WordScore. No condition. -/
import Derived.Test.YtdadnjhfennenaaC25
set_option linter.unusedVariables false
set_option linter.unusedSimpArgs false
set_option maxHeartbeats 4000000
namespace Go.DL
open Go.Proofs

theorem sorted_lt {R : List Tk} (hs : ST R) {i j : Nat} {x y : Tk} (hx : R[i]? = some x) (hy : R[j]? = some y) (hij : i < j) : sLt x.s y.s = true := by
  obtain ⟨h1, rfl⟩ := List.getElem?_eq_some_iff.1 hx
  obtain ⟨h2, rfl⟩ := List.getElem?_eq_some_iff.1 hy
  exact List.pairwise_iff_getElem.1 hs i j h1 h2 hij
/-- The ratios of the tokens with a text, among the first ones. -/
def fms (w : Wd) (s : ByteArray) (R : List Tk) : List Int := R.filterMap fun x => if x.s = s then some (rat w x) else none
theorem fms_next {w : Wd} {s : ByteArray} {R : List Tk} {i : Nat} {x : Tk} (h : R[i]? = some x) : fms w s (R.take (i + 1)) = fms w s (R.take i) ++ (if x.s = s then [rat w x] else []) := by
  unfold fms
  rw [take_get h, List.filterMap_append]
  by_cases hx : x.s = s <;> simp [hx]
theorem fms_none {w : Wd} {s : ByteArray} {R : List Tk} (h : ∀ x ∈ R, x.s ≠ s) : fms w s R = [] := by
  unfold fms
  rw [List.filterMap_eq_nil_iff]
  intro x hx
  rw [if_neg (h x hx)]
theorem fms_all {w : Wd} {s : ByteArray} {R : List Tk} (hs : ST R) : fms w s R = ((gT s R).map (rat w)).toList := by
  cases hg : gT s R with
  | none =>
    rw [fms_none fun x hx e => ?_]
    · rfl
    · have := getL_is sOrd hs hx
      rw [e] at this
      unfold gT at hg
      rw [this] at hg; cases hg
  | some x =>
    obtain ⟨hh, hx, hxs, hlt⟩ := find_of_get hs hg
    have hu : ∀ (i : Nat) y, R[i]? = some y → y.s = s → i = pT s R := fun i y hy e => by
      have h1 := getL_is sOrd hs (List.mem_of_getElem? hy)
      rw [e] at h1
      unfold gT at hg
      rw [h1] at hg; injection hg with hg; subst hg
      rcases Nat.lt_trichotomy i (pT s R) with h | h | h
      · have := sorted_lt hs hy hx h
        rw [e] at this
        exact absurd this (by rw [sLt_irrefl]; simp)
      · exact h
      · have := sorted_lt hs hx hy h
        rw [e] at this
        exact absurd this (by rw [sLt_irrefl]; simp)
    have e : R = R.take (pT s R) ++ x :: R.drop (pT s R + 1) := by
      conv => lhs; rw [← List.take_append_drop (pT s R) R]
      rw [drop_get' hx]
    have h1 : fms w s (R.take (pT s R)) = [] := fms_none fun y hy e' => by
      obtain ⟨i, hi⟩ := List.mem_iff_getElem?.1 hy
      rw [List.getElem?_take] at hi
      split at hi
      · have := hu i y hi e'; omega
      · cases hi
    have h2 : fms w s (R.drop (pT s R + 1)) = [] := fms_none fun y hy e' => by
      obtain ⟨i, hi⟩ := List.mem_iff_getElem?.1 hy
      rw [List.getElem?_drop] at hi
      have := hu _ y hi e'; omega
    rw [e]
    unfold fms at h1 h2 ⊢
    rw [List.filterMap_append, List.filterMap_cons, if_pos hxs, h1, h2]
    rfl
def bZ : Option Nat → Int
  | none => -1
  | some b => b
/-- b: the first one among the greatest that are not taken, of the first i. -/
def beI (rs : List Int) (t : List Bool) (i : Nat) : Option Nat → Prop
  | none => ∀ j, j < i → t[j]? ≠ some false
  | some b => b < i ∧ ∃ a, rs[b]? = some a ∧ t[b]? = some false ∧ (∀ (j : Nat) c, j < i → rs[j]? = some c → t[j]? = some false → kd c ≤ kd a) ∧ ∀ (j : Nat) c, j < b → rs[j]? = some c → t[j]? = some false → kd c < kd a
theorem beI_taken {rs : List Int} {t : List Bool} {i : Nat} {o : Option Nat} (h : beI rs t i o) (ht : t[i]? = some true) : beI rs t (i + 1) o := by
  cases o with
  | none =>
    intro j hj
    rcases Nat.lt_or_ge j i with h1 | h1
    · exact h j h1
    · have : j = i := by omega
      subst this; rw [ht]; simp
  | some b =>
    obtain ⟨h1, a, h2, h3, h4, h5⟩ := h
    refine ⟨by omega, a, h2, h3, fun j c hj hc hf => ?_, h5⟩
    rcases Nat.lt_or_ge j i with h6 | h6
    · exact h4 j c h6 hc hf
    · have : j = i := by omega
      subst this; rw [ht] at hf; cases hf
theorem beI_first {rs : List Int} {t : List Bool} {i : Nat} {x : Int} (h : beI rs t i none) (ht : t[i]? = some false) (hx : rs[i]? = some x) : beI rs t (i + 1) (some i) := by
  refine ⟨by omega, x, hx, ht, fun j c hj hc hf => ?_, fun j c hj hc hf => absurd hf (h j hj)⟩
  rcases Nat.lt_or_ge j i with h1 | h1
  · exact absurd hf (h j h1)
  · have : j = i := by omega
    subst this; rw [hx] at hc; injection hc with hc; rw [hc]; exact Int.le_refl _
theorem beI_more {rs : List Int} {t : List Bool} {i b : Nat} {x a : Int} (h : beI rs t i (some b)) (ha : rs[b]? = some a) (ht : t[i]? = some false) (hx : rs[i]? = some x) (hk : kd x > kd a) : beI rs t (i + 1) (some i) := by
  obtain ⟨h1, a', h2, h3, h4, h5⟩ := h
  rw [ha] at h2; injection h2 with h2; subst h2
  refine ⟨by omega, x, hx, ht, fun j c hj hc hf => ?_, fun j c hj hc hf => ?_⟩
  · rcases Nat.lt_or_ge j i with h6 | h6
    · have := h4 j c h6 hc hf; omega
    · have : j = i := by omega
      subst this; rw [hx] at hc; injection hc with hc; rw [hc]; exact Int.le_refl _
  · have := h4 j c hj hc hf; omega
theorem beI_less {rs : List Int} {t : List Bool} {i b : Nat} {x a : Int} (h : beI rs t i (some b)) (ha : rs[b]? = some a) (hx : rs[i]? = some x) (hk : ¬ kd x > kd a) : beI rs t (i + 1) (some b) := by
  obtain ⟨h1, a', h2, h3, h4, h5⟩ := h
  rw [ha] at h2; injection h2 with h2; subst h2
  refine ⟨by omega, a, ha, h3, fun j c hj hc hf => ?_, h5⟩
  rcases Nat.lt_or_ge j i with h6 | h6
  · exact h4 j c h6 hc hf
  · have : j = i := by omega
    subst this; rw [hx] at hc; injection hc with hc; rw [← hc]; omega
def bV (b : Bool) : List V := [.bool b]
structure seI (rs ys : List Int) (q : Nat × List Bool) : Prop where
  x : q.1 ≤ min rs.length 15
  t : q.2.length = rs.length
  e : EqK (ys.drop q.1) (unt rs q.2)
theorem seI_next {rs ys : List Int} {x b : Nat} {t : List Bool} {a : Int} (hd : Desc ys) (h : seI rs ys (x, t)) (hx : x < min rs.length 15) (hb : beI rs t rs.length (some b)) (ha : rs[b]? = some a) : ys[x]? = some a ∧ seI rs ys (x + 1, t.set b true) := by
  obtain ⟨h1, h2, h3⟩ := h
  dsimp only at h1 h2 h3
  obtain ⟨g1, a', g2, g3, g4, g5⟩ := hb
  rw [ha] at g2; injection g2 with g2; subst g2
  obtain ⟨k1, k2⟩ := sel_step hd h3 ha g3 (fun i c hc hf => g4 i c (List.getElem?_eq_some_iff.1 hc).1 hc hf) g5
  exact ⟨k1, ⟨by dsimp only; omega, by dsimp only; rw [List.length_set]; exact h2, k2⟩⟩
theorem seI_some {rs ys : List Int} {x : Nat} {t : List Bool} (h : seI rs ys (x, t)) (hl : ys.length = rs.length) (hx : x < min rs.length 15) : ¬ beI rs t rs.length none := by
  obtain ⟨h1, h2, h3⟩ := h
  dsimp only at h1 h2 h3
  intro hn
  have e : unt rs t = [] := by
    rcases hu : unt rs t with _ | ⟨a, r⟩
    · rfl
    · exfalso
      obtain ⟨i, hi, hf⟩ := unt_mem (l := rs) (t := t) (a := a) (by rw [hu]; simp)
      exact hn i (List.getElem?_eq_some_iff.1 hi).1 hf
  have := h3.len
  rw [e, List.length_drop] at this
  simp at this
  omega
theorem rat_raw {w : Wd} {t : Tk} (hw : okW w) (ht : tOk w.g w.j t) : IntKind.wrap .i64 (t.j * IntKind.wrap .i64 (w.g + 1)) = t.j * (w.g + 1) ∧ IntKind.wrap .i64 (t.g * IntKind.wrap .i64 (w.j + 1)) = t.g * (w.j + 1) ∧
    IntKind.wrap .i64 (IntKind.wrap .i64 (t.j * IntKind.wrap .i64 (w.g + 1)) + IntKind.wrap .i64 (t.g * IntKind.wrap .i64 (w.j + 1))) ≠ 0 ∧
    IntKind.wrap .i64 ((IntKind.wrap .i64 (1000 * IntKind.wrap .i64 (t.j * IntKind.wrap .i64 (w.g + 1)))).tdiv (IntKind.wrap .i64 (IntKind.wrap .i64 (t.j * IntKind.wrap .i64 (w.g + 1)) + IntKind.wrap .i64 (t.g * IntKind.wrap .i64 (w.j + 1))))) = rat w t := by
  have hb := rat_bd hw ht
  have hr := rat_rng hw ht
  have h1 := hw.g
  have h2 := hw.j
  have e1 : IntKind.wrap .i64 (t.j * IntKind.wrap .i64 (w.g + 1)) = t.j * (w.g + 1) := by rw [wr (x := w.g + 1) (by omega) (by omega), wr (by omega) (by omega)]
  have e2 : IntKind.wrap .i64 (t.g * IntKind.wrap .i64 (w.j + 1)) = t.g * (w.j + 1) := by rw [wr (x := w.j + 1) (by omega) (by omega), wr (by omega) (by omega)]
  refine ⟨e1, e2, ?_, ?_⟩
  · rw [e1, e2, wr (by omega) (by omega)]; omega
  · rw [e1, e2, wr (x := t.j * (w.g + 1) + t.g * (w.j + 1)) (by omega) (by omega), wr (x := 1000 * (t.j * (w.g + 1))) (by omega) (by omega)]
    unfold rat at hr ⊢
    exact wr (by omega) (by omega)
theorem vr_setB (t : List Bool) (i : Nat) (b : Bool) : (vrows (t.map bV)).set i [.v (.bool b)] = vrows ((t.set i b).map bV) := by
  unfold vrows
  rw [List.map_set, List.map_set]; rfl
def wsR (w : Wd) (z : Bool) (l : List ByteArray) : List (Nat × D) := [(1, .v (strs z l)), (2, .ptr 0 0 0)]
theorem c_WordScore (w : Wd) (z : Bool) (l : List ByteArray) (ys : List Int) (hc : cF w l = (0, 0)) (hd : Desc ys) (he : EqK ys (rats w l)) : CallV tab 28 [.agg w.row, strs z l] (· = .int .i64 (scA w l ys).1) := by
  obtain ⟨how, htf⟩ := cF_ok hc
  have hll := tF_len htf
  have hwl := how.l
  have hrl := rats_len (w := w) (l := l)
  have hyl := he.len
  have hrr := rats_rng how (l := l)
  have hyb : ∀ y ∈ ys, 0 ≤ y ∧ y ≤ 1000 := fun y hy => hrr y (he.mem hy)
  refine callV_of Try.func28 rfl (Nat.le_of_ble_eq_true rfl) (by kernel_rfl) ?_
  repeat' first
    | (apply Br.id; first
      | (apply Br.tt; try conv => whnf)
      | (apply Br.ff; try conv => whnf)
      | (refine Br.of_t (by assumption) ?_; conv => whnf)
      | (refine Br.of_f (by assumption) ?_; conv => whnf)
      | (refine Br.mk (fun _ => ?_) (fun _ => ?_) <;> try conv => whnf))
    | (apply CallOp.id; first
      | (refine op_make rfl rfl rfl rfl rfl rfl rfl rfl (by (first | decide | exact trivial | omega | exact Nat.le_refl _ | (((try simp only [decide_eq_true_eq, decide_eq_false_iff_not, cond_true, cond_false, beq_iff_eq, beq_eq_false_iff_ne, bne_iff_ne, bne_eq_false_iff_eq, ne_eq, Bool.not_eq_true', Bool.not_eq_false', Bool.not_eq_eq_eq_not, Bool.not_true, Bool.not_false, sLe_eq, Bool.and_eq_true, Bool.and_eq_false_iff, List.length_map, List.length_set, List.length_append, List.length_take, List.length_drop, List.length_replicate, List.length_cons, List.length_nil, lenMax, capMax, Int.toNat_natCast, gt_iff_lt, ge_iff_le] at *); (try simp (disch := omega) only [wr, wru, shr1, Int.tdiv_eq_ediv_of_nonneg] at *)); omega) | (((try simp only [decide_eq_true_eq, decide_eq_false_iff_not, cond_true, cond_false, beq_iff_eq, beq_eq_false_iff_ne, bne_iff_ne, bne_eq_false_iff_eq, ne_eq, Bool.not_eq_true', Bool.not_eq_false', Bool.not_eq_eq_eq_not, Bool.not_true, Bool.not_false, sLe_eq, Bool.and_eq_true, Bool.and_eq_false_iff, List.length_map, List.length_set, List.length_append, List.length_take, List.length_drop, List.length_replicate, List.length_cons, List.length_nil, lenMax, capMax, Int.toNat_natCast, gt_iff_lt, ge_iff_le] at *); (try simp (disch := omega) only [wr, wru, shr1, Int.tdiv_eq_ediv_of_nonneg] at *)); assumption))) (by (first | decide | exact trivial | omega | exact Nat.le_refl _ | (((try simp only [decide_eq_true_eq, decide_eq_false_iff_not, cond_true, cond_false, beq_iff_eq, beq_eq_false_iff_ne, bne_iff_ne, bne_eq_false_iff_eq, ne_eq, Bool.not_eq_true', Bool.not_eq_false', Bool.not_eq_eq_eq_not, Bool.not_true, Bool.not_false, sLe_eq, Bool.and_eq_true, Bool.and_eq_false_iff, List.length_map, List.length_set, List.length_append, List.length_take, List.length_drop, List.length_replicate, List.length_cons, List.length_nil, lenMax, capMax, Int.toNat_natCast, gt_iff_lt, ge_iff_le] at *); (try simp (disch := omega) only [wr, wru, shr1, Int.tdiv_eq_ediv_of_nonneg] at *)); omega) | (((try simp only [decide_eq_true_eq, decide_eq_false_iff_not, cond_true, cond_false, beq_iff_eq, beq_eq_false_iff_ne, bne_iff_ne, bne_eq_false_iff_eq, ne_eq, Bool.not_eq_true', Bool.not_eq_false', Bool.not_eq_eq_eq_not, Bool.not_true, Bool.not_false, sLe_eq, Bool.and_eq_true, Bool.and_eq_false_iff, List.length_map, List.length_set, List.length_append, List.length_take, List.length_drop, List.length_replicate, List.length_cons, List.length_nil, lenMax, capMax, Int.toNat_natCast, gt_iff_lt, ge_iff_le] at *); (try simp (disch := omega) only [wr, wru, shr1, Int.tdiv_eq_ediv_of_nonneg] at *)); assumption))) ?_; conv => whnf)
      | (refine call_at rfl rfl rfl rfl rfl ?_)
      | (refine call_rd rfl rfl rfl rfl rfl ?_)
      | (refine CallOp.std ?_; (conv => whnf); fail_if_success refine (?_ : False)))
    | (apply CallDet.id; first
      | (refine op_make rfl rfl rfl rfl rfl rfl rfl rfl (by (first | decide | exact trivial | omega | exact Nat.le_refl _ | (((try simp only [decide_eq_true_eq, decide_eq_false_iff_not, cond_true, cond_false, beq_iff_eq, beq_eq_false_iff_ne, bne_iff_ne, bne_eq_false_iff_eq, ne_eq, Bool.not_eq_true', Bool.not_eq_false', Bool.not_eq_eq_eq_not, Bool.not_true, Bool.not_false, sLe_eq, Bool.and_eq_true, Bool.and_eq_false_iff, List.length_map, List.length_set, List.length_append, List.length_take, List.length_drop, List.length_replicate, List.length_cons, List.length_nil, lenMax, capMax, Int.toNat_natCast, gt_iff_lt, ge_iff_le] at *); (try simp (disch := omega) only [wr, wru, shr1, Int.tdiv_eq_ediv_of_nonneg] at *)); omega) | (((try simp only [decide_eq_true_eq, decide_eq_false_iff_not, cond_true, cond_false, beq_iff_eq, beq_eq_false_iff_ne, bne_iff_ne, bne_eq_false_iff_eq, ne_eq, Bool.not_eq_true', Bool.not_eq_false', Bool.not_eq_eq_eq_not, Bool.not_true, Bool.not_false, sLe_eq, Bool.and_eq_true, Bool.and_eq_false_iff, List.length_map, List.length_set, List.length_append, List.length_take, List.length_drop, List.length_replicate, List.length_cons, List.length_nil, lenMax, capMax, Int.toNat_natCast, gt_iff_lt, ge_iff_le] at *); (try simp (disch := omega) only [wr, wru, shr1, Int.tdiv_eq_ediv_of_nonneg] at *)); assumption))) (by (first | decide | exact trivial | omega | exact Nat.le_refl _ | (((try simp only [decide_eq_true_eq, decide_eq_false_iff_not, cond_true, cond_false, beq_iff_eq, beq_eq_false_iff_ne, bne_iff_ne, bne_eq_false_iff_eq, ne_eq, Bool.not_eq_true', Bool.not_eq_false', Bool.not_eq_eq_eq_not, Bool.not_true, Bool.not_false, sLe_eq, Bool.and_eq_true, Bool.and_eq_false_iff, List.length_map, List.length_set, List.length_append, List.length_take, List.length_drop, List.length_replicate, List.length_cons, List.length_nil, lenMax, capMax, Int.toNat_natCast, gt_iff_lt, ge_iff_le] at *); (try simp (disch := omega) only [wr, wru, shr1, Int.tdiv_eq_ediv_of_nonneg] at *)); omega) | (((try simp only [decide_eq_true_eq, decide_eq_false_iff_not, cond_true, cond_false, beq_iff_eq, beq_eq_false_iff_ne, bne_iff_ne, bne_eq_false_iff_eq, ne_eq, Bool.not_eq_true', Bool.not_eq_false', Bool.not_eq_eq_eq_not, Bool.not_true, Bool.not_false, sLe_eq, Bool.and_eq_true, Bool.and_eq_false_iff, List.length_map, List.length_set, List.length_append, List.length_take, List.length_drop, List.length_replicate, List.length_cons, List.length_nil, lenMax, capMax, Int.toNat_natCast, gt_iff_lt, ge_iff_le] at *); (try simp (disch := omega) only [wr, wru, shr1, Int.tdiv_eq_ediv_of_nonneg] at *)); assumption))) ?_; conv => whnf)
      | (refine call_atD rfl rfl rfl rfl rfl ?_)
      | (refine call_rdD rfl rfl rfl rfl rfl ?_)
      | (refine CallDet.std ?_; (conv => whnf); fail_if_success refine (?_ : False)))
    | (refine EndOk.mk (by kernel_rfl) ?_; conv => whnf)
    | (refine And.intro hnz ?_; conv => whnf)
    | (refine And.intro (by (first | decide | exact trivial | omega | exact Nat.le_refl _ | (((try simp only [decide_eq_true_eq, decide_eq_false_iff_not, cond_true, cond_false, beq_iff_eq, beq_eq_false_iff_ne, bne_iff_ne, bne_eq_false_iff_eq, ne_eq, Bool.not_eq_true', Bool.not_eq_false', Bool.not_eq_eq_eq_not, Bool.not_true, Bool.not_false, sLe_eq, Bool.and_eq_true, Bool.and_eq_false_iff, List.length_map, List.length_set, List.length_append, List.length_take, List.length_drop, List.length_replicate, List.length_cons, List.length_nil, lenMax, capMax, Int.toNat_natCast, gt_iff_lt, ge_iff_le] at *); (try simp (disch := omega) only [wr, wru, shr1, Int.tdiv_eq_ediv_of_nonneg] at *)); omega) | (((try simp only [decide_eq_true_eq, decide_eq_false_iff_not, cond_true, cond_false, beq_iff_eq, beq_eq_false_iff_ne, bne_iff_ne, bne_eq_false_iff_eq, ne_eq, Bool.not_eq_true', Bool.not_eq_false', Bool.not_eq_eq_eq_not, Bool.not_true, Bool.not_false, sLe_eq, Bool.and_eq_true, Bool.and_eq_false_iff, List.length_map, List.length_set, List.length_append, List.length_take, List.length_drop, List.length_replicate, List.length_cons, List.length_nil, lenMax, capMax, Int.toNat_natCast, gt_iff_lt, ge_iff_le] at *); (try simp (disch := omega) only [wr, wru, shr1, Int.tdiv_eq_ediv_of_nonneg] at *)); assumption))) ?_; conv => whnf)
    | (refine idxOld (by assumption) ?_; conv => whnf)
    | (refine idxMap (by (first | decide | exact trivial | omega | exact Nat.le_refl _ | (((try simp only [decide_eq_true_eq, decide_eq_false_iff_not, cond_true, cond_false, beq_iff_eq, beq_eq_false_iff_ne, bne_iff_ne, bne_eq_false_iff_eq, ne_eq, Bool.not_eq_true', Bool.not_eq_false', Bool.not_eq_eq_eq_not, Bool.not_true, Bool.not_false, sLe_eq, Bool.and_eq_true, Bool.and_eq_false_iff, List.length_map, List.length_set, List.length_append, List.length_take, List.length_drop, List.length_replicate, List.length_cons, List.length_nil, lenMax, capMax, Int.toNat_natCast, gt_iff_lt, ge_iff_le] at *); (try simp (disch := omega) only [wr, wru, shr1, Int.tdiv_eq_ediv_of_nonneg] at *)); omega) | (((try simp only [decide_eq_true_eq, decide_eq_false_iff_not, cond_true, cond_false, beq_iff_eq, beq_eq_false_iff_ne, bne_iff_ne, bne_eq_false_iff_eq, ne_eq, Bool.not_eq_true', Bool.not_eq_false', Bool.not_eq_eq_eq_not, Bool.not_true, Bool.not_false, sLe_eq, Bool.and_eq_true, Bool.and_eq_false_iff, List.length_map, List.length_set, List.length_append, List.length_take, List.length_drop, List.length_replicate, List.length_cons, List.length_nil, lenMax, capMax, Int.toNat_natCast, gt_iff_lt, ge_iff_le] at *); (try simp (disch := omega) only [wr, wru, shr1, Int.tdiv_eq_ediv_of_nonneg] at *)); assumption))) (fun _ _ => ?_); conv => whnf)
    | refine Exists.intro _ (And.intro (DV_toV rfl) ?_)
    | (refine rowSet (by (first | decide | exact trivial | omega | exact Nat.le_refl _ | (((try simp only [decide_eq_true_eq, decide_eq_false_iff_not, cond_true, cond_false, beq_iff_eq, beq_eq_false_iff_ne, bne_iff_ne, bne_eq_false_iff_eq, ne_eq, Bool.not_eq_true', Bool.not_eq_false', Bool.not_eq_eq_eq_not, Bool.not_true, Bool.not_false, sLe_eq, Bool.and_eq_true, Bool.and_eq_false_iff, List.length_map, List.length_set, List.length_append, List.length_take, List.length_drop, List.length_replicate, List.length_cons, List.length_nil, lenMax, capMax, Int.toNat_natCast, gt_iff_lt, ge_iff_le] at *); (try simp (disch := omega) only [wr, wru, shr1, Int.tdiv_eq_ediv_of_nonneg] at *)); omega) | (((try simp only [decide_eq_true_eq, decide_eq_false_iff_not, cond_true, cond_false, beq_iff_eq, beq_eq_false_iff_ne, bne_iff_ne, bne_eq_false_iff_eq, ne_eq, Bool.not_eq_true', Bool.not_eq_false', Bool.not_eq_eq_eq_not, Bool.not_true, Bool.not_false, sLe_eq, Bool.and_eq_true, Bool.and_eq_false_iff, List.length_map, List.length_set, List.length_append, List.length_take, List.length_drop, List.length_replicate, List.length_cons, List.length_nil, lenMax, capMax, Int.toNat_natCast, gt_iff_lt, ge_iff_le] at *); (try simp (disch := omega) only [wr, wru, shr1, Int.tdiv_eq_ediv_of_nonneg] at *)); assumption))) ?_; conv => whnf)
    | (refine rowOld (by assumption) ?_; conv => whnf)
    | (refine rowNew (by (first | decide | exact trivial | omega | exact Nat.le_refl _ | (((try simp only [decide_eq_true_eq, decide_eq_false_iff_not, cond_true, cond_false, beq_iff_eq, beq_eq_false_iff_ne, bne_iff_ne, bne_eq_false_iff_eq, ne_eq, Bool.not_eq_true', Bool.not_eq_false', Bool.not_eq_eq_eq_not, Bool.not_true, Bool.not_false, sLe_eq, Bool.and_eq_true, Bool.and_eq_false_iff, List.length_map, List.length_set, List.length_append, List.length_take, List.length_drop, List.length_replicate, List.length_cons, List.length_nil, lenMax, capMax, Int.toNat_natCast, gt_iff_lt, ge_iff_le] at *); (try simp (disch := omega) only [wr, wru, shr1, Int.tdiv_eq_ediv_of_nonneg] at *)); omega) | (((try simp only [decide_eq_true_eq, decide_eq_false_iff_not, cond_true, cond_false, beq_iff_eq, beq_eq_false_iff_ne, bne_iff_ne, bne_eq_false_iff_eq, ne_eq, Bool.not_eq_true', Bool.not_eq_false', Bool.not_eq_eq_eq_not, Bool.not_true, Bool.not_false, sLe_eq, Bool.and_eq_true, Bool.and_eq_false_iff, List.length_map, List.length_set, List.length_append, List.length_take, List.length_drop, List.length_replicate, List.length_cons, List.length_nil, lenMax, capMax, Int.toNat_natCast, gt_iff_lt, ge_iff_le] at *); (try simp (disch := omega) only [wr, wru, shr1, Int.tdiv_eq_ediv_of_nonneg] at *)); assumption))) (fun _ _ => ?_); conv => whnf)
    | (apply WpD.id; first
      | (refine WpD.loopAt 22 rfl (fun q : Nat × List Int => ⟨[(1, .v (strs z l)), (2, .ptr 0 0 0), (5, .arr 1 0 q.2.length), (6, .v (nV k)), (7, .v (nV q.1))], [.arr 3 (vrows [w.row]), .arr 1 (vrows (q.2.map iV))], []⟩) (fun q => q.1 ≤ w.l.length ∧ q.2 = rats w (l.take k) ++ fms w s (w.l.take q.1)) (fun q => w.l.length - q.1) ?_ (fun ⟨i, R⟩ hq2 => ?_); rotate_left; obtain ⟨p1, p2⟩ := hq2; dsimp only at p1 p2; (have hRl2 : R.length ≤ 4000 := by { rw [p2, List.length_append]; have h1 := rats_len (w := w) (l := l.take k); have h2 := List.length_filterMap_le (fun x : Tk => if x.s = s then some (rat w x) else none) (w.l.take i); rw [List.length_take] at h1 h2; unfold fms; omega }); rcases Nat.lt_or_ge i w.l.length with hlt2 | hge2; (obtain ⟨x, hx⟩ : ∃ x, w.l[i]? = some x := ⟨_, List.getElem?_eq_getElem hlt2⟩); (have hx0 : w.l[((i : Nat) : Int).toNat]? = some x := hx); (have di : decide ((i : Int) < (((w.l.map Tk.row).length : Nat) : Int)) = true := by { simp; omega }); (cases hxs : decide (x.s = s)); rotate_left; (obtain ⟨e1, e2, hnz, hval⟩ := rat_raw how (how.t x (List.mem_of_getElem? hx)).2); rotate_left; (have di : decide ((i : Int) < (((w.l.map Tk.row).length : Nat) : Int)) = false := by { simp; omega }); rotate_left)
      | (refine WpD.nil 5 1 1 rfl rfl rfl rfl ?_; refine WpD.loopAt 16 rfl (fun q : Nat × List Int => ⟨[(1, .v (strs z l)), (2, .ptr 0 0 0), (5, .arr 1 0 q.2.length), (6, .v (nV q.1))], [.arr 3 (vrows [w.row]), .arr 1 (vrows (q.2.map iV))], []⟩) (fun q => q.1 ≤ l.length ∧ q.2 = rats w (l.take q.1)) (fun q => l.length - q.1) ?_ (fun ⟨k, R0⟩ hq => ?_); rotate_left; obtain ⟨q1, q2⟩ := hq; dsimp only at q1 q2; (have hRl : R0.length ≤ 1000 := by rw [q2]; exact Nat.le_trans rats_len (by rw [List.length_take]; omega)); rcases Nat.lt_or_ge k l.length with hlt | hge; (obtain ⟨s, hs'⟩ : ∃ s, l[k]? = some s := ⟨_, List.getElem?_eq_getElem hlt⟩); (have hs0 : l[((k : Nat) : Int).toNat]? = some s := hs'); (have dk : decide ((k : Int) < (((l.map sV).length : Nat) : Int)) = true := by { simp; omega }); rotate_left; (have dk : decide ((k : Int) < (((l.map sV).length : Nat) : Int)) = false := by { simp; omega }); (have hR : R0 = rats w l := by rw [q2, List.take_of_length_le hge]); subst hR; rotate_left)
      | (refine WpD.loopAt 80 rfl (fun q : Nat × Option Nat => ⟨[(5, .arr 1 0 (rats w l).length), (10, .arr 2 0 (rats w l).length), (11, .v (zV (ys.take x).sum)), (12, .v (nV (min (rats w l).length 15))), (13, .v (nV x)), (14, .v (zV (bZ q.2))), (15, .v (nV q.1))], [.arr 3 (vrows [w.row]), .arr 1 (vrows ((rats w l).map iV)), .arr 1 (vrows (t.map bV))], []⟩) (fun q => q.1 ≤ (rats w l).length ∧ beI (rats w l) t q.1 q.2) (fun q => (rats w l).length - q.1) ?_ (fun ⟨i, o⟩ hq4 => ?_); rotate_left; obtain ⟨u1, u2⟩ := hq4; dsimp only at u1 u2; rcases Nat.lt_or_ge i (rats w l).length with hlt4 | hge4; (have di4 : decide ((i : Int) < ((rats w l).length : Int)) = true := by { simp; omega }); (obtain ⟨v, hv⟩ : ∃ v, (rats w l)[i]? = some v := ⟨_, List.getElem?_eq_getElem hlt4⟩); (have hv0 : (rats w l)[0 + ((i : Nat) : Int).toNat]? = some v := by rw [Nat.zero_add, Int.toNat_natCast]; exact hv); (obtain ⟨f, hf⟩ : ∃ f, t[i]? = some f := ⟨_, List.getElem?_eq_getElem (by omega)⟩); (have hf0 : t[0 + ((i : Nat) : Int).toNat]? = some f := by rw [Nat.zero_add, Int.toNat_natCast]; exact hf); (cases f); rcases o with _ | b; rotate_left; (obtain ⟨a, ha⟩ : ∃ a, (rats w l)[b]? = some a := by { obtain ⟨_, a, h, _⟩ := u2; exact ⟨a, h⟩ }); (have ha0 : (rats w l)[0 + ((b : Nat) : Int).toNat]? = some a := by rw [Nat.zero_add, Int.toNat_natCast]; exact ha); (have hbl : b < (rats w l).length := (List.getElem?_eq_some_iff.1 ha).1); (have hvb := hrr v (List.mem_of_getElem? hv)); (have hab := hrr a (List.mem_of_getElem? ha)); dsimp only [bZ]; rotate_left; rotate_left; (have di4 : decide ((i : Int) < ((rats w l).length : Int)) = false := by { simp; omega }); (have ei : i = (rats w l).length := by omega); (obtain ⟨b, rfl⟩ : ∃ b, o = some b := by { rcases o with _ | b; exact absurd (by subst ei; exact u2) (seI_some hq3 hyl hlt3); exact ⟨b, rfl⟩ }); (obtain ⟨a, ha⟩ : ∃ a, (rats w l)[b]? = some a := by { obtain ⟨_, a, h, _⟩ := u2; exact ⟨a, h⟩ }); (have ha0 : (rats w l)[0 + ((b : Nat) : Int).toNat]? = some a := by rw [Nat.zero_add, Int.toNat_natCast]; exact ha); (have hbl : b < (rats w l).length := (List.getElem?_eq_some_iff.1 ha).1); dsimp only [bZ]; rotate_left)
      | (refine WpD.loopAt 75 rfl (fun q : Nat × List Bool => ⟨[(5, .arr 1 0 (rats w l).length), (10, .arr 2 0 (rats w l).length), (11, .v (zV (ys.take q.1).sum)), (12, .v (nV (min (rats w l).length 15))), (13, .v (nV q.1))], [.arr 3 (vrows [w.row]), .arr 1 (vrows ((rats w l).map iV)), .arr 1 (vrows (q.2.map bV))], []⟩) (fun q => seI (rats w l) ys q) (fun q => min (rats w l).length 15 - q.1) ?_ (fun ⟨x, t⟩ hq3 => ?_); rotate_left; (have hx1 := hq3.x); (have ht1 := hq3.t); dsimp only at hx1 ht1; rcases Nat.lt_or_ge x (min (rats w l).length 15) with hlt3 | hge3; (have dx : decide ((x : Int) < ((min (rats w l).length 15 : Nat) : Int)) = true := by { simp; omega }); rotate_left; (have dx : decide ((x : Int) < ((min (rats w l).length 15 : Nat) : Int)) = false := by { simp; omega }); rotate_left)
      | (refine WpD.walk rfl ?_; conv => whnf))
  all_goals ((try simp only [decide_eq_true_eq, decide_eq_false_iff_not, cond_true, cond_false, beq_iff_eq, beq_eq_false_iff_ne, bne_iff_ne, bne_eq_false_iff_eq, ne_eq, Bool.not_eq_true', Bool.not_eq_false', Bool.not_eq_eq_eq_not, Bool.not_true, Bool.not_false, sLe_eq, Bool.and_eq_true, Bool.and_eq_false_iff, List.length_map, List.length_set, List.length_append, List.length_take, List.length_drop, List.length_replicate, List.length_cons, List.length_nil, lenMax, capMax, Int.toNat_natCast, gt_iff_lt, ge_iff_le] at *); (try simp (disch := omega) only [wr, wru, shr1, Int.tdiv_eq_ediv_of_nonneg] at *))
  all_goals first
    | (refine ⟨(0, []), [0, 1], ⟨Nat.zero_le _, by simp [rats]⟩, ⟨by decide, rfl, ?_, ⟨obLe_v rfl, obLe_v rfl, trivial⟩, rfl⟩⟩
       (repeat' first | exact trivial | rfl | apply And.intro | (refine leInt rfl ?_; first | omega | (dsimp only; omega)) | (refine leArr rfl ?_ rfl; (simp; try omega)) | (refine leBool rfl ?_; assumption))
       done)
    | (refine ⟨(0, R0), [0, 1], ⟨Nat.zero_le _, by dsimp only; rw [q2]; simp [fms]⟩, ⟨by decide, rfl, ?_, ⟨obLe_v rfl, obLe_v rfl, trivial⟩, rfl⟩⟩
       (repeat' first | exact trivial | rfl | apply And.intro | (refine leInt rfl ?_; first | omega | (dsimp only; omega)) | (refine leArr rfl ?_ rfl; (simp; try omega)) | (refine leBool rfl ?_; assumption))
       done)
    | (refine ⟨(i + 1, R), [0, 1], ⟨by dsimp only; omega, by dsimp only; rw [fms_next hx, if_neg (by assumption), List.append_nil]; exact p2⟩, ⟨⟨by decide, rfl, ?_, ⟨obLe_v rfl, obLe_v rfl, trivial⟩, rfl⟩, by dsimp only; omega⟩⟩
       (repeat' first | exact trivial | rfl | apply And.intro | (refine leInt rfl ?_; first | omega | (dsimp only; omega)) | (refine leArr rfl ?_ rfl; (simp; try omega)) | (refine leBool rfl ?_; assumption))
       done)
    | (refine ⟨(i + 1, R ++ [rat w x]), [0, 3], ⟨by dsimp only; omega, by dsimp only; rw [fms_next hx, if_pos (by assumption), p2, List.append_assoc]⟩, ⟨⟨by decide, rfl, ?_, ?_, rfl⟩, by dsimp only; omega⟩⟩
       · try dsimp only
         (repeat' first | exact trivial | apply And.intro | (refine leInt rfl ?_; first | omega | (dsimp only; omega)) | rfl | (refine leArr rfl ?_ rfl; (simp; try omega)) | (refine leBool rfl ?_; assumption))
         done
       · refine ⟨obLe_v rfl, obLe_v ?_, trivial⟩
         rw [List.take_of_length_le (by simp)]
         simp [vrows, iV, hval])
    | (refine ⟨(k + 1, R), [0, 1], ⟨by dsimp only; omega, by dsimp only; rw [rats_next hs', ← fms_all how.s, p2, List.take_of_length_le (l := w.l) (by omega)]⟩, ⟨⟨by decide, rfl, ?_, ⟨obLe_v rfl, obLe_v rfl, trivial⟩, rfl⟩, by dsimp only; omega⟩⟩
       (repeat' first | exact trivial | rfl | apply And.intro | (refine leInt rfl ?_; first | omega | (dsimp only; omega)) | (refine leArr rfl ?_ rfl; (simp; try omega)) | (refine leBool rfl ?_; assumption))
       done)
    | (refine ⟨(0, List.replicate (rats w l).length false), [0, 1, 2], ⟨Nat.zero_le _, by simp, by dsimp only; rw [unt_free]; exact he⟩, ⟨by decide, rfl, ?_, ⟨obLe_v rfl, obLe_v rfl, obLe_v (by simp [vrows, bV]), trivial⟩, rfl⟩⟩
       (repeat' first | exact trivial | apply And.intro | (refine leInt rfl ?_; first | omega | (dsimp only; omega)) | rfl | (refine leArr rfl ?_ rfl; (simp; try omega)) | (refine leBool rfl ?_; assumption))
       done)
    | (refine ⟨(0, none), [0, 1, 2], ⟨Nat.zero_le _, fun j h => absurd h (Nat.not_lt_zero _)⟩, ⟨by decide, rfl, ?_, ⟨obLe_v rfl, obLe_v rfl, obLe_v rfl, trivial⟩, rfl⟩⟩
       (repeat' first | exact trivial | rfl | apply And.intro | (refine leInt rfl ?_; first | omega | (dsimp only; omega)) | (refine leArr rfl ?_ rfl; (simp; try omega)) | (refine leBool rfl ?_; assumption))
       done)
    | (refine ⟨(i + 1, some i), [0, 1, 2], ⟨by dsimp only; omega, beI_first u2 hf hv⟩, ⟨⟨by decide, rfl, ?_, ⟨obLe_v rfl, obLe_v rfl, obLe_v rfl, trivial⟩, rfl⟩, by dsimp only; omega⟩⟩
       (repeat' first | exact trivial | rfl | apply And.intro | (refine leInt rfl ?_; first | omega | (dsimp only; omega)) | (refine leArr rfl ?_ rfl; (simp; try omega)) | (refine leBool rfl ?_; assumption))
       done)
    | (refine ⟨(i + 1, o), [0, 1, 2], ⟨by dsimp only; omega, beI_taken u2 hf⟩, ⟨⟨by decide, rfl, ?_, ⟨obLe_v rfl, obLe_v rfl, obLe_v rfl, trivial⟩, rfl⟩, by dsimp only; omega⟩⟩
       (repeat' first | exact trivial | rfl | apply And.intro | (refine leInt rfl ?_; first | omega | (dsimp only; omega)) | (refine leArr rfl ?_ rfl; (simp; try omega)) | (refine leBool rfl ?_; assumption))
       done)
    | (refine ⟨(i + 1, some i), [0, 1, 2], ⟨by dsimp only; omega, beI_more u2 ha hf hv (by unfold kd; assumption)⟩, ⟨⟨by decide, rfl, ?_, ⟨obLe_v rfl, obLe_v rfl, obLe_v rfl, trivial⟩, rfl⟩, by dsimp only; omega⟩⟩
       (repeat' first | exact trivial | rfl | apply And.intro | (refine leInt rfl ?_; first | omega | (dsimp only; omega)) | (refine leArr rfl ?_ rfl; (simp; try omega)) | (refine leBool rfl ?_; assumption))
       done)
    | (refine ⟨(i + 1, some b), [0, 1, 2], ⟨by dsimp only; omega, beI_less u2 ha hv (by unfold kd; assumption)⟩, ⟨⟨by decide, rfl, ?_, ⟨obLe_v rfl, obLe_v rfl, obLe_v rfl, trivial⟩, rfl⟩, by dsimp only; omega⟩⟩
       (repeat' first | exact trivial | rfl | apply And.intro | (refine leInt rfl ?_; first | omega | (dsimp only; omega)) | (refine leArr rfl ?_ rfl; (simp; try omega)) | (refine leBool rfl ?_; assumption))
       done)
    | (obtain ⟨k1, k2⟩ := seI_next (a := a) hd hq3 hlt3 (by rw [← ei]; exact u2) ha
       have hsn := sum_next k1
       have hsb := sum_bd hyb x
       have hab := hrr a (List.mem_of_getElem? ha)
       have hw1 : IntKind.wrap .i64 ((ys.take x).sum + a) = (ys.take x).sum + a := wr (by omega) (by omega)
       refine ⟨(x + 1, t.set b true), [0, 1, 2], k2, ⟨⟨by decide, rfl, ?_, ⟨obLe_v rfl, obLe_v rfl, obLe_v ?_, trivial⟩, rfl⟩, by dsimp only; omega⟩⟩
       · try dsimp only
         (repeat' first | exact trivial | rfl | apply And.intro | (refine leInt rfl ?_; first | (dsimp only; omega) | (rw [hw1, hsn]; done)))
         done
       · rw [Nat.zero_add]; exact vr_setB t b true)
    | (have hy0 : ys = [] := List.eq_nil_of_length_eq_zero (by omega)
       unfold scA
       rw [if_neg (by simp [hc]), if_pos hy0]
       rfl)
    | (have hx' : x = min 15 ys.length := by omega
       have hne : ys ≠ [] := by intro e; rw [e] at hyl; simp at hyl; omega
       have hsb := sum_bd hyb x
       have hpos : (0 : Int) < ((min (rats w l).length 15 : Nat) : Int) := by
         have : ys.length ≠ 0 := fun e => hne (List.eq_nil_of_length_eq_zero e)
         omega
       have hq0 := Int.tdiv_nonneg hsb.1 (Int.le_of_lt hpos)
       have hq1 : (List.take x ys).sum.tdiv ((min (rats w l).length 15 : Nat) : Int) ≤ (List.take x ys).sum := by
         rw [Int.tdiv_eq_ediv_of_nonneg hsb.1]; exact Int.ediv_le_self _ hsb.1
       rw [wr (by omega) (by omega)]
       unfold scA
       rw [if_neg (by simp [hc]), if_neg hne]
       dsimp only
       rw [List.length_take, show ys.take x = ys.take 15 by rw [hx', ← List.take_take, List.take_length], show min (rats w l).length 15 = min 15 ys.length by omega])
    | skip
  all_goals trace_state
end Go.DL
