/- Hosts: a rule's text and its head, with no program in sight. No condition. -/
import Derived.Test.YtacpahgoomdfaaaDoorH10
set_option linter.unusedVariables false
set_option linter.unusedSimpArgs false
set_option maxHeartbeats 1000000
namespace Go.DL
open Go.Proofs

def hd (r k : Int) : ByteArray := sgn r ++ wrd k
theorem preB_iff {p s : ByteArray} : preB p s = true ↔ ∃ u, tl s = tl p ++ u := by
  unfold preB
  simp only [Bool.and_eq_true, decide_eq_true_eq]
  constructor
  · rintro ⟨h1, h2⟩
    refine ⟨(tl s).drop p.size, ?_⟩
    have := congrArg tl h2
    rw [tl_ext, List.drop_zero] at this
    rw [← this, List.take_append_drop]
  · rintro ⟨u, h⟩
    have hl := congrArg List.length h
    rw [List.length_append, tl_len, tl_len] at hl
    refine ⟨by omega, tl_inj ?_⟩
    rw [tl_ext, List.drop_zero, h, ← tl_len p, List.take_left]
def sgb (r : Int) : UInt8 := if r = 1 then 43 else if r = 2 then 45 else if r = 3 then 126 else 63
theorem tl_sgn (r : Int) : tl (sgn r) = [sgb r] := by unfold sgn sgb; (repeat' split) <;> rfl
theorem tl_1 {s : ByteArray} (h : 1 ≤ s.size) : tl s = s.get! 0 :: tl (s.extract 1 s.size) := by
  rw [tl_all _ (Nat.le_refl _)]
  have := get_tl (s := s) (i := 0) (by omega)
  cases hs : tl s with
  | nil => rw [hs] at this; simp at this
  | cons c l => rw [hs] at this; simp at this; rw [this]; rfl
theorem pre_hd {s : ByteArray} {r k : Int} (h : 1 ≤ s.size) (hr : s.get! 0 = sgb r) : preB (hd r k) s = preB (wrd k) (s.extract 1 s.size) := by
  rw [Bool.eq_iff_iff, preB_iff, preB_iff, tl_1 h, hr]
  unfold hd
  rw [tl_app, tl_sgn]
  simp
theorem pre_sz {s : ByteArray} {r k : Int} (h : preB (hd r k) s = true) : 1 ≤ s.size ∧ s.get! 0 = sgb r := by
  obtain ⟨u, hu⟩ := preB_iff.1 h
  unfold hd at hu
  rw [tl_app, tl_sgn] at hu
  have hl := congrArg List.length hu
  rw [tl_len] at hl
  simp at hl
  refine ⟨by omega, ?_⟩
  rw [tl_1 (by omega)] at hu
  simp at hu
  exact hu.1
theorem sAt_0 {s : ByteArray} (h : 1 ≤ s.size) : sAt (s ++ sp) 0 = ((s.get! 0).toNat : Int) := by
  refine sAt_tl ?_
  rw [tl_app, List.getElem?_append_left (by rw [tl_len]; omega)]
  exact get_tl (by omega)
theorem sgI_at {s : ByteArray} {r : Int} (h : 1 ≤ s.size) (hr : 1 ≤ r ∧ r ≤ 4) (he : s.get! 0 = sgb r) : sgI s = r - 1 := by
  unfold sgI
  rw [sAt_0 h, he]
  have : r = 1 ∨ r = 2 ∨ r = 3 ∨ r = 4 := by omega
  rcases this with rfl | rfl | rfl | rfl <;> decide
theorem sgI_inv {s : ByteArray} (h : 0 ≤ sgI s) : 1 ≤ sgI s + 1 ∧ sgI s + 1 ≤ 4 ∧ s.get! 0 = sgb (sgI s + 1) := by
  have h1 := sgI_sz h
  unfold sgI at h ⊢
  rw [sAt_0 h1] at h ⊢
  have hl : tl sgs = [43, 45, 126, 63] := rfl
  rw [hl] at h ⊢
  generalize s.get! 0 = c at *
  have key : ∀ (b : UInt8), ((b.toNat : Int) == (c.toNat : Int)) = (b == c) := fun b => by
    rw [Bool.eq_iff_iff, beq_iff_eq, beq_iff_eq]
    constructor
    · intro e; apply UInt8.toNat_inj.1; omega
    · intro e; rw [e]
  unfold idxB at h ⊢
  simp only [List.findIdx?_cons, List.findIdx?_nil, key] at h ⊢
  cases h1 : ((43 : UInt8) == c)
  · cases h2 : ((45 : UInt8) == c)
    · cases h3 : ((126 : UInt8) == c)
      · cases h4 : ((63 : UInt8) == c)
        · simp [h1, h2, h3, h4] at h
        · simp only [beq_iff_eq] at h4; subst h4; decide
      · simp only [beq_iff_eq] at h3; subst h3; decide
    · simp only [beq_iff_eq] at h2; subst h2; decide
  · simp only [beq_iff_eq] at h1; subst h1; decide
theorem kdF_at {t : ByteArray} {k : Int} (hk : 1 ≤ k ∧ k ≤ 4) (h : preB (wrd k) t = true) (hb : ∀ j : Int, 1 ≤ j → j < k → preB (wrd j) t = false) : kdF t = k := by
  have : k = 1 ∨ k = 2 ∨ k = 3 ∨ k = 4 := by omega
  unfold kdF
  rcases this with rfl | rfl | rfl | rfl
  · simp [h]
  · simp [h, hb 1 (by omega) (by omega)]
  · simp [h, hb 1 (by omega) (by omega), hb 2 (by omega) (by omega)]
  · simp [h, hb 1 (by omega) (by omega), hb 2 (by omega) (by omega), hb 3 (by omega) (by omega)]
theorem hd_rest {s : ByteArray} {r k : Int} : (s.extract 1 s.size).extract (wrd k).size (s.extract 1 s.size).size = s.extract (hd r k).size s.size := by
  apply tl_inj
  rw [tl_all _ (Nat.le_refl _), tl_all _ (Nat.le_refl _), tl_all _ (Nat.le_refl _), List.drop_drop]
  unfold hd
  rw [app_size, sgn_size]
theorem ruleF_at {s : ByteArray} {r k : Int} (hr : 1 ≤ r ∧ r ≤ 4) (hk : 1 ≤ k ∧ k ≤ 4) (h : preB (hd r k) s = true) (hb : ∀ j : Int, 1 ≤ j → j < k → preB (hd r j) s = false) : ruleF s = (⟨r, k, s.extract (hd r k).size s.size⟩, rF ⟨r, k, s.extract (hd r k).size s.size⟩ == 0) := by
  obtain ⟨h1, h2⟩ := pre_sz h
  have e1 := sgI_at h1 hr h2
  rw [pre_hd h1 h2] at h
  have e2 := kdF_at hk h (fun j a b => by rw [← pre_hd h1 h2 (k := j)]; exact hb j a b)
  have e3 : rlOf (r - 1) k (s.extract 1 s.size) = ⟨r, k, s.extract (hd r k).size s.size⟩ := by
    unfold rlOf
    rw [hd_rest (r := r), Int.sub_add_cancel]
  unfold ruleF
  rw [e1, e2, if_neg (by omega), e3]
theorem ruleF_no {s : ByteArray} (hb : ∀ r k : Int, 1 ≤ r → r ≤ 4 → 1 ≤ k → k ≤ 4 → preB (hd r k) s = false) : ruleF s = (rl0, false) := by
  unfold ruleF
  by_cases hi : sgI s < 0
  · rw [if_pos (.inl hi)]
  · obtain ⟨a, b, c⟩ := sgI_inv (s := s) (by omega)
    have h1 := sgI_sz (s := s) (by omega)
    have hk : ∀ k : Int, 1 ≤ k → k ≤ 4 → preB (wrd k) (s.extract 1 s.size) = false := fun k x y => by
      rw [← pre_hd h1 c]; exact hb _ k a b x y
    have : kdF (s.extract 1 s.size) = 0 := by
      unfold kdF
      rw [hk 1 (by omega) (by omega), hk 2 (by omega) (by omega), hk 3 (by omega) (by omega), hk 4 (by omega) (by omega)]
      rfl
    rw [if_pos (.inr this)]
end Go.DL
