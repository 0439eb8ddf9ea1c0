/- Classify: the merge is what is learned, and what is forgotten. Plain. No condition. -/
import Derived.Test.YtdadnjhfennenaaC8
set_option linter.unusedVariables false
set_option linter.unusedSimpArgs false
set_option maxHeartbeats 4000000
namespace Go.DL
open Go.Proofs

def SS (l : List ByteArray) : Prop := l.Pairwise fun a b => sLt a b = true
theorem vfl_SS {l : List ByteArray} (h : tF l = (0, 0)) : SS l ∧ ∀ s ∈ l, fitB s = true := by
  have hl := tF_len h
  unfold tF at h
  rw [if_neg (by omega)] at h
  have hv : vfl tchk 0 none l = (0, 0) := by
    split at h
    · assumption
    · rename_i hne
      exfalso
      simp only [Prod.mk.injEq] at h
      exact hne (vfl_ne _ _ _ h.1)
  have hv' := vfl_ok.1 hv
  have key : ∀ (i : Nat) x, l[i]? = some x → fitB x = true ∧ ∀ y, 0 < i → l[i - 1]? = some y → sLt y x = true := by
    intro i x hx
    have := hv' i x hx
    unfold tchk at this
    split at this
    · simp at this
    · rename_i hf
      refine ⟨by simpa using hf, fun y hi hy => ?_⟩
      rw [if_neg (by omega), hy] at this
      dsimp only at this
      split at this
      · assumption
      · simp at this
  refine ⟨?_, fun s hs => ?_⟩
  · unfold SS
    have adj : ∀ (i : Nat) x y, l[i]? = some x → l[i + 1]? = some y → sLt x y = true := fun i x y hx hy => (key (i + 1) y hy).2 x (by omega) (by simpa using hx)
    clear key hv' hv h hl
    induction l with
    | nil => exact .nil
    | cons x l ih =>
      have ih' := ih (fun i y z hy hz => adj (i + 1) y z (by simpa using hy) (by simpa using hz))
      refine .cons (fun y hy => ?_) ih'
      cases l with
      | nil => cases hy
      | cons z l =>
        have h0 := adj 0 x z rfl rfl
        rcases List.mem_cons.1 hy with rfl | hy
        · exact h0
        · exact sLt_trans h0 ((List.pairwise_cons.1 ih').1 y hy)
  · obtain ⟨i, hi, rfl⟩ := List.mem_iff_getElem.1 hs
    exact (key i _ (List.getElem?_eq_getElem hi)).1
def nz (x : Tk) : Option Tk := if x.g = 0 ∧ x.j = 0 then none else some x
theorem get_keep (x : Tk) (k : ByteArray) (R : List Tk) (h : ∀ y ∈ R, y.s ≠ x.s) : gT k (keepT x ++ R) = if x.s = k then nz x else gT k R := by
  unfold keepT nz
  by_cases hz : x.g = 0 ∧ x.j = 0
  · rw [if_pos hz, if_pos hz, List.nil_append]
    split
    · rename_i e; exact getL_none fun y hy => e ▸ h y hy
    · rfl
  · rw [if_neg hz, if_neg hz]
    rfl
theorem mrg_mem {junk : Bool} {n : Int} : ∀ (R : List Tk) (l : List ByteArray) {y : Tk}, y ∈ mrg junk n R l → (∃ x ∈ R, x.s = y.s) ∨ y.s ∈ l
  | [], [], y, h => by rw [mrg] at h; cases h
  | x :: R, [], y, h => by
    rw [mrg] at h
    rcases List.mem_append.1 h with h | h
    · unfold keepT at h; split at h
      · cases h
      · simp at h; subst h; exact .inl ⟨_, List.mem_cons_self, rfl⟩
    · rcases mrg_mem R [] h with ⟨z, hz, e⟩ | h
      · exact .inl ⟨z, List.mem_cons_of_mem _ hz, e⟩
      · cases h
  | [], s :: l, y, h => by
    rw [mrg] at h
    rcases List.mem_append.1 h with h | h
    · unfold keepT at h; split at h
      · cases h
      · simp at h; subst h; exact .inr (by rw [upT_s]; exact List.mem_cons_self)
    · rcases mrg_mem [] l h with ⟨z, hz, e⟩ | h
      · cases hz
      · exact .inr (List.mem_cons_of_mem _ h)
  | x :: R, s :: l, y, h => by
    rw [mrg] at h
    split at h
    · rcases List.mem_append.1 h with h | h
      · unfold keepT at h; split at h
        · cases h
        · simp at h; subst h; exact .inl ⟨_, List.mem_cons_self, rfl⟩
      · rcases mrg_mem R (s :: l) h with ⟨z, hz, e⟩ | h
        · exact .inl ⟨z, List.mem_cons_of_mem _ hz, e⟩
        · exact .inr h
    · split at h
      · rcases List.mem_append.1 h with h | h
        · unfold keepT at h; split at h
          · cases h
          · simp at h; subst h; exact .inr (by rw [upT_s]; exact List.mem_cons_self)
        · rcases mrg_mem (x :: R) l h with ⟨z, hz, e⟩ | h
          · exact .inl ⟨z, hz, e⟩
          · exact .inr (List.mem_cons_of_mem _ h)
      · rcases List.mem_append.1 h with h | h
        · unfold keepT at h; split at h
          · cases h
          · simp at h; subst h; exact .inl ⟨x, List.mem_cons_self, (upT_s _ _ _).symm⟩
        · rcases mrg_mem R l h with ⟨z, hz, e⟩ | h
          · exact .inl ⟨z, List.mem_cons_of_mem _ hz, e⟩
          · exact .inr (List.mem_cons_of_mem _ h)
termination_by R l => R.length + l.length
theorem sort_keep {x : Tk} {R : List Tk} (hs : ST R) (h : ∀ y ∈ R, sLt x.s y.s = true) : ST (keepT x ++ R) := by
  unfold keepT
  split
  · exact hs
  · exact List.pairwise_cons.2 ⟨h, hs⟩
theorem mrg_sort {junk : Bool} {n : Int} : ∀ (R : List Tk) (l : List ByteArray), ST R → SS l → ST (mrg junk n R l)
  | [], [], _, _ => by rw [mrg]; exact .nil
  | x :: R, [], hR, hl => by
    rw [mrg]
    have hR' := List.pairwise_cons.1 hR
    refine sort_keep (mrg_sort R [] hR'.2 hl) fun y hy => ?_
    rcases mrg_mem R [] hy with ⟨z, hz, e⟩ | h
    · rw [← e]; exact hR'.1 z hz
    · cases h
  | [], s :: l, hR, hl => by
    rw [mrg]
    have hl' := List.pairwise_cons.1 hl
    refine sort_keep (mrg_sort [] l hR hl'.2) fun y hy => ?_
    rw [upT_s]
    rcases mrg_mem [] l hy with ⟨z, hz, e⟩ | h
    · cases hz
    · exact hl'.1 _ h
  | x :: R, s :: l, hR, hl => by
    have hR' := List.pairwise_cons.1 hR
    have hl' := List.pairwise_cons.1 hl
    rw [mrg]
    split
    · rename_i c
      refine sort_keep (mrg_sort R (s :: l) hR'.2 hl) fun y hy => ?_
      rcases mrg_mem R (s :: l) hy with ⟨z, hz, e⟩ | h
      · rw [← e]; exact hR'.1 z hz
      · rcases List.mem_cons.1 h with h | h
        · rw [h]; exact c
        · exact sLt_trans c (hl'.1 _ h)
    · rename_i c
      split
      · rename_i d
        refine sort_keep (mrg_sort (x :: R) l hR hl'.2) fun y hy => ?_
        rw [upT_s]
        rcases mrg_mem (x :: R) l hy with ⟨z, hz, e⟩ | h
        · rcases List.mem_cons.1 hz with rfl | hz
          · rw [← e]; exact d
          · rw [← e]; exact sLt_trans d (hR'.1 z hz)
        · exact hl'.1 _ h
      · rename_i d
        have e : x.s = s := (sLt_tri x.s s).elim (fun h => absurd h c) fun h => h.elim id fun h => absurd h d
        refine sort_keep (mrg_sort R l hR'.2 hl'.2) fun y hy => ?_
        rw [upT_s]
        rcases mrg_mem R l hy with ⟨z, hz, e2⟩ | h
        · rw [← e2]; exact hR'.1 z hz
        · rw [e]; exact hl'.1 _ h
termination_by R l => R.length + l.length
instance memDec (k : ByteArray) (l : List ByteArray) : Decidable (k ∈ l) := decidable_of_iff (l.any (fun s => decide (s = k)) = true) (by simp)
/-- What the merge holds, key by key. -/
def mrgAt (junk : Bool) (n : Int) (R : List Tk) (l : List ByteArray) (k : ByteArray) : Option Tk := if k ∈ l then nz (upT junk n ((gT k R).getD ⟨k, 0, 0⟩)) else (gT k R).bind nz
theorem mrg_get {junk : Bool} {n : Int} : ∀ (R : List Tk) (l : List ByteArray) (k : ByteArray), ST R → SS l → gT k (mrg junk n R l) = mrgAt junk n R l k
  | [], [], k, _, _ => by rw [mrg]; simp [mrgAt, gT, getL]
  | x :: R, [], k, hR, hl => by
    have hR' := List.pairwise_cons.1 hR
    rw [mrg, get_keep, mrg_get R [] k hR'.2 hl]
    · unfold mrgAt gT
      simp only [List.not_mem_nil, if_false, getL]
      split <;> rfl
    · intro y hy
      rcases mrg_mem R [] hy with ⟨z, hz, e⟩ | h
      · rw [← e]; exact (sOrd.ne (hR'.1 z hz)).symm
      · cases h
  | [], s :: l, k, hR, hl => by
    have hl' := List.pairwise_cons.1 hl
    rw [mrg, get_keep, mrg_get [] l k hR hl'.2, upT_s]
    · unfold mrgAt gT
      simp only [getL, List.mem_cons]
      by_cases e : s = k
      · subst e; simp
      · rw [if_neg e]
        by_cases hk : k ∈ l
        · rw [if_pos hk, if_pos (.inr hk)]
        · rw [if_neg hk, if_neg (by rintro (h | h); exact e h.symm; exact hk h)]
    · intro y hy
      rw [upT_s]
      rcases mrg_mem [] l hy with ⟨z, hz, e⟩ | h
      · cases hz
      · exact (sOrd.ne (hl'.1 _ h)).symm
  | x :: R, s :: l, k, hR, hl => by
    have hR' := List.pairwise_cons.1 hR
    have hl' := List.pairwise_cons.1 hl
    rw [mrg]
    split
    · rename_i c
      rw [get_keep, mrg_get R (s :: l) k hR'.2 hl]
      · unfold mrgAt gT
        simp only [getL]
        by_cases e : x.s = k
        · subst e
          have hn : x.s ∉ s :: l := by
            intro h
            rcases List.mem_cons.1 h with h | h
            · exact sOrd.ne c h
            · exact sOrd.ne (sLt_trans c (hl'.1 _ h)) rfl
          simp only [if_true, if_neg hn]; rfl
        · simp only [if_neg e]
      · intro y hy
        rcases mrg_mem R (s :: l) hy with ⟨z, hz, e⟩ | h
        · rw [← e]; exact (sOrd.ne (hR'.1 z hz)).symm
        · rcases List.mem_cons.1 h with h | h
          · rw [h]; exact (sOrd.ne c).symm
          · exact (sOrd.ne (sLt_trans c (hl'.1 _ h))).symm
    · rename_i c
      split
      · rename_i d
        rw [get_keep, mrg_get (x :: R) l k hR hl'.2, upT_s]
        · unfold mrgAt
          by_cases e : s = k
          · subst e
            have hg : gT s (x :: R) = none := getL_none fun y hy => by
              rcases List.mem_cons.1 hy with rfl | hy
              · exact (sOrd.ne d).symm
              · exact (sOrd.ne (sLt_trans d (hR'.1 y hy))).symm
            rw [hg]; simp
          · rw [if_neg e]
            by_cases hk : k ∈ l
            · rw [if_pos hk, if_pos (List.mem_cons_of_mem _ hk)]
            · rw [if_neg hk, if_neg (by intro h; rcases List.mem_cons.1 h with h | h; exact e h.symm; exact hk h)]
        · intro y hy
          rw [upT_s]
          rcases mrg_mem (x :: R) l hy with ⟨z, hz, e⟩ | h
          · rw [← e]
            rcases List.mem_cons.1 hz with rfl | hz
            · exact (sOrd.ne d).symm
            · exact (sOrd.ne (sLt_trans d (hR'.1 z hz))).symm
          · exact (sOrd.ne (hl'.1 _ h)).symm
      · rename_i d
        have e : x.s = s := (sLt_tri x.s s).elim (fun h => absurd h c) fun h => h.elim id fun h => absurd h d
        rw [get_keep, mrg_get R l k hR'.2 hl'.2, upT_s]
        · unfold mrgAt gT
          simp only [getL]
          by_cases ek : x.s = k
          · have hk : k ∈ s :: l := by rw [← ek, e]; exact List.mem_cons_self
            simp [ek, hk]
          · rw [if_neg ek, if_neg ek]
            by_cases hk : k ∈ l
            · rw [if_pos hk, if_pos (List.mem_cons_of_mem _ hk)]
            · rw [if_neg hk, if_neg (by intro h; rcases List.mem_cons.1 h with h | h; exact ek (e.trans h.symm); exact hk h)]
        · intro y hy
          rw [upT_s]
          rcases mrg_mem R l hy with ⟨z, hz, e2⟩ | h
          · rw [← e2]; exact (sOrd.ne (hR'.1 z hz)).symm
          · rw [e]; exact (sOrd.ne (hl'.1 _ h)).symm
termination_by R l => R.length + l.length
/-! ##### key by key: counting a list of tokens up or down by one -/
def upd1 (junk : Bool) (n : Int) (R : List Tk) (s : ByteArray) : List Tk := puT (upT junk n ((gT s R).getD ⟨s, 0, 0⟩)) R
theorem getS_s {R : List Tk} (s : ByteArray) : ((gT s R).getD ⟨s, 0, 0⟩).s = s := by
  cases hg : gT s R with
  | none => rfl
  | some x => exact (getL_mem hg).2
theorem upd_sort {junk : Bool} {n : Int} : ∀ (l : List ByteArray) {R : List Tk}, ST R → ST (l.foldl (upd1 junk n) R)
  | [], R, h => h
  | s :: l, R, h => upd_sort l (sort_putL sOrd _ h)
theorem upd_get {junk : Bool} {n : Int} (k : ByteArray) : ∀ (l : List ByteArray) {R : List Tk}, ST R → SS l → gT k (l.foldl (upd1 junk n) R) = if k ∈ l then some (upT junk n ((gT k R).getD ⟨k, 0, 0⟩)) else gT k R
  | [], R, h, _ => by simp
  | s :: l, R, h, hl => by
    have hl' := List.pairwise_cons.1 hl
    rw [List.foldl_cons, upd_get k l (R := upd1 junk n R s) (sort_putL sOrd _ h) hl'.2]
    have hp : gT k (upd1 junk n R s) = if s = k then some (upT junk n ((gT s R).getD ⟨s, 0, 0⟩)) else gT k R := by
      unfold upd1 gT puT
      rw [getL_putL sOrd _ _ h, upT_s]
      rw [show (getL Tk.s s R).getD ⟨s, 0, 0⟩ = (gT s R).getD ⟨s, 0, 0⟩ from rfl, getS_s]
    rw [hp]
    by_cases e : s = k
    · subst e
      have hn : s ∉ l := fun h => sOrd.ne (hl'.1 _ h) rfl
      rw [if_neg hn, if_pos rfl, if_pos List.mem_cons_self]
    · rw [if_neg e]
      by_cases hk : k ∈ l
      · rw [if_pos hk, if_pos (List.mem_cons_of_mem _ hk)]
      · rw [if_neg hk, if_neg (by intro h; rcases List.mem_cons.1 h with h | h; exact e h.symm; exact hk h)]
theorem lrn_upd (junk : Bool) : lrn junk = upd1 junk 1 := rfl
theorem fgt_upd (junk : Bool) : fgt junk = upd1 junk (-1) := rfl
theorem mrg_upd {junk : Bool} {n : Int} {R : List Tk} {l : List ByteArray} (hR : ST R) (hl : SS l) : mrg junk n R l = (l.foldl (upd1 junk n) R).filter fun x => !decide (x.g = 0 ∧ x.j = 0) := by
  refine ext_getL sOrd (mrg_sort R l hR hl) (sort_filter _ (upd_sort l hR)) fun k => ?_
  have h1 := mrg_get (junk := junk) (n := n) R l k hR hl
  have h2 := upd_get (junk := junk) (n := n) k l hR hl
  have h3 := getL_filter sOrd (fun x : Tk => !decide (x.g = 0 ∧ x.j = 0)) (k := k) (upd_sort (junk := junk) (n := n) l hR)
  rw [show getL Tk.s k (mrg junk n R l) = gT k (mrg junk n R l) from rfl, h1, h3]
  rw [show getL Tk.s k (l.foldl (upd1 junk n) R) = gT k (l.foldl (upd1 junk n) R) from rfl, h2]
  unfold mrgAt
  split
  · simp only [Option.bind_some, nz]
    split <;> simp_all
  · cases gT k R with
    | none => rfl
    | some x => simp only [Option.bind_some, nz]; split <;> simp_all
end Go.DL
