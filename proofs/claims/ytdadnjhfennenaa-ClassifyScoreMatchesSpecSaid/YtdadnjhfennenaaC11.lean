/- Classify: Forget, the reference's Forgotten. No condition. -/
import Derived.Test.YtdadnjhfennenaaC10
set_option linter.unusedVariables false
set_option linter.unusedSimpArgs false
set_option maxHeartbeats 4000000
namespace Go.DL
open Go.Proofs

def hasB (junk : Bool) (R : List Tk) (s : ByteArray) : Bool := match gT s R with | some x => decide (cnt junk x.g x.j ≠ 0) | none => false
theorem hasB_N {junk : Bool} {R : List Tk} {s : ByteArray} : hasB junk R s = true ↔ hasN junk R s := by
  unfold hasB hasN
  cases h : gT s R with
  | none => simp
  | some x => simp
/-- The first token that was not learned so. -/
def nfI (junk : Bool) (R : List Tk) (l : List ByteArray) : Option Nat := l.findIdx? fun s => !hasB junk R s
def fgtL (w : Wd) (l : List ByteArray) (junk : Bool) : List Tk := (l.foldl (fgt junk) w.l).filter fun x => !nilT x
/-- What Forget answers. -/
def fgtA (w : Wd) (l : List ByteArray) (junk : Bool) : Wd × (Int × Int) :=
  if cF w l ≠ (0, 0) then (w00, cF w l) else if cnt junk w.g w.j = 0 then (w00, (8, -4)) else match nfI junk w.l l with
    | some k => (w00, (6, -10 - (k : Int)))
    | none => if (fgtL w l junk).any (ovT (upW w junk (-1)).g (upW w junk (-1)).j) = true then (w00, (8, -4)) else (⟨(upW w junk (-1)).g, (upW w junk (-1)).j, false, fgtL w l junk⟩, (0, 0))
theorem SS_take {l : List ByteArray} (h : SS l) (k : Nat) : SS (l.take k) := List.Pairwise.sublist (List.take_sublist _ _) h
theorem not_mem_take {l : List ByteArray} (h : SS l) {k : Nat} {s : ByteArray} (hs : l[k]? = some s) : s ∉ l.take k := by
  intro hm
  obtain ⟨i, hi, e⟩ := List.mem_iff_getElem.1 hm
  simp only [List.length_take] at hi
  simp only [List.getElem_take] at e
  have := (List.pairwise_iff_getElem.1 h) i k (by omega) (by have := lt_get hs; omega) (by omega)
  rw [e] at this
  have e2 : l[k]'(lt_get hs) = s := by
    have := List.getElem?_eq_getElem (lt_get hs)
    rw [hs] at this; injection this with this; exact this.symm
  rw [e2] at this
  exact sOrd.ne this rfl
theorem fgR_get {w : Wd} {l : List ByteArray} {junk : Bool} (hw : okW w) (hl : SS l) {k : Nat} {s : ByteArray} (hs : l[k]? = some s) : gT s (fgR w l junk k) = gT s w.l := by
  unfold fgR
  rw [fgt_upd, upd_get s (l.take k) hw.s (SS_take hl k), if_neg (not_mem_take hl hs)]
theorem fgR_has {w : Wd} {l : List ByteArray} {junk : Bool} (hw : okW w) (hl : SS l) {k : Nat} {s : ByteArray} (hs : l[k]? = some s) : hasN junk (fgR w l junk k) s ↔ hasB junk w.l s = true := by
  rw [hasB_N]; unfold hasN; rw [fgR_get hw hl hs]
theorem fgtA_bad {w : Wd} {l : List ByteArray} {junk : Bool} (h : cF w l ≠ (0, 0)) : fgtA w l junk = (w00, cF w l) := by unfold fgtA; rw [if_pos h]
theorem fgtA_0 {w : Wd} {l : List ByteArray} {junk : Bool} (h : cF w l = (0, 0)) (hc : cnt junk w.g w.j = 0) : fgtA w l junk = (w00, (8, -4)) := by unfold fgtA; rw [if_neg (by simp [h]), if_pos hc]
theorem fgtA_nf {w : Wd} {l : List ByteArray} {junk : Bool} (h : cF w l = (0, 0)) (hc : cnt junk w.g w.j ≠ 0) {k : Nat} (hk : nfI junk w.l l = some k) : fgtA w l junk = (w00, (6, -10 - (k : Int))) := by unfold fgtA; rw [if_neg (by simp [h]), if_neg hc, hk]
theorem fgtA_ov {w : Wd} {l : List ByteArray} {junk : Bool} (h : cF w l = (0, 0)) (hc : cnt junk w.g w.j ≠ 0) (hk : nfI junk w.l l = none) (ho : (fgtL w l junk).any (ovT (upW w junk (-1)).g (upW w junk (-1)).j) = true) : fgtA w l junk = (w00, (8, -4)) := by unfold fgtA; rw [if_neg (by simp [h]), if_neg hc, hk]; dsimp only; rw [if_pos ho]
theorem fgtA_ok {w : Wd} {l : List ByteArray} {junk : Bool} (h : cF w l = (0, 0)) (hc : cnt junk w.g w.j ≠ 0) (hk : nfI junk w.l l = none) (ho : ¬ (fgtL w l junk).any (ovT (upW w junk (-1)).g (upW w junk (-1)).j) = true) : fgtA w l junk = (⟨(upW w junk (-1)).g, (upW w junk (-1)).j, false, fgtL w l junk⟩, (0, 0)) := by unfold fgtA; rw [if_neg (by simp [h]), if_neg hc, hk]; dsimp only; rw [if_neg ho]
theorem fgR_all {w : Wd} {l : List ByteArray} {junk : Bool} : fgR w l junk l.length = l.foldl (fgt junk) w.l := by unfold fgR; rw [List.take_length]
theorem c_Forget (w : Wd) (z : Bool) (l : List ByteArray) (junk : Bool) : CallV tab 31 [.agg w.row, strs z l, .bool junk] (· = wfV (fgtA w l junk)) := by
  by_cases hc : cF w l = (0, 0)
  · obtain ⟨how, htf⟩ := cF_ok hc
    have hsl := (vfl_SS htf).1
    by_cases hn : cnt junk w.g w.j = 0
    · rw [fgtA_0 hc hn]
      have e : lF w l junk 0 = (8, -4) := by rw [lF_c hc, if_pos hn]
      have := c_Forget_bad w z l junk (by rw [e]; simp)
      rw [e] at this; exact this
    · have e : lF w l junk 0 = (0, 0) := by rw [lF_c hc, if_neg hn]
      cases hk : nfI junk w.l l with
      | some k =>
        rw [fgtA_nf hc hn hk]
        have hk' := hk
        unfold nfI at hk'
        rw [List.findIdx?_eq_some_iff_getElem] at hk'
        obtain ⟨h1, h2, h3⟩ := hk'
        have hs : l[k]? = some l[k] := List.getElem?_eq_getElem h1
        have hno : ¬ hasN junk (fgR w l junk k) l[k] := by rw [fgR_has how hsl hs]; simpa using h2
        have hok : ∀ (k' : Nat) s, k' < k → l[k']? = some s → hasN junk (fgR w l junk k') s := fun k' s hk' hs' => by
          rw [fgR_has how hsl hs']
          have := h3 k' hk'
          obtain ⟨hlt, rfl⟩ := List.getElem?_eq_some_iff.1 hs'
          simpa using this
        cases junk
        · exact c_Forget_nf_false w z l e k _ hs hno hok
        · exact c_Forget_nf_true w z l e k _ hs hno hok
      | none =>
        have hk' := hk
        unfold nfI at hk'
        rw [List.findIdx?_eq_none_iff] at hk'
        have hok : ∀ (k' : Nat) s, l[k']? = some s → hasN junk (fgR w l junk k') s := fun k' s hs' => by
          rw [fgR_has how hsl hs']
          simpa using hk' s (List.mem_of_getElem? hs')
        have e2 : wfV (fgtA w l junk) = if ((fgR w l junk l.length).filter fun x => !nilT x).any (ovT (upW w junk (-1)).g (upW w junk (-1)).j) = true then .tup [.agg w00.row, fv (8, -4)] else .tup [.agg (Wd.row ⟨(upW w junk (-1)).g, (upW w junk (-1)).j, false, (fgR w l junk l.length).filter fun x => !nilT x⟩), fv (0, 0)] := by
          rw [fgR_all, show ((l.foldl (fgt junk) w.l).filter fun x => !nilT x) = fgtL w l junk from rfl]
          by_cases ho : (fgtL w l junk).any (ovT (upW w junk (-1)).g (upW w junk (-1)).j) = true
          · rw [if_pos ho, fgtA_ov hc hn hk ho]; rfl
          · rw [if_neg ho, fgtA_ok hc hn hk ho]; rfl
        rw [e2]
        cases junk
        · exact c_Forget_ok_false w z l e hok
        · exact c_Forget_ok_true w z l e hok
  · rw [fgtA_bad hc]
    have e : lF w l junk 0 = cF w l := by unfold lF; rw [if_pos hc]
    have := c_Forget_bad w z l junk (by rw [e]; exact hc)
    rw [e] at this; exact this
def nfE (junk : Bool) (R : List Tk) (l : List ByteArray) : Int × Int := match nfI junk R l with | some j => (6, -10 - (j : Int)) | none => (0, 0)
def foS (w : Wd) (z : Bool) (l : List ByteArray) (junk : Bool) (e : Int × Int) (k : Nat) : St := ⟨[(1, .v (strs z l)), (2, .v (.bool junk)), (3, .ptr 0 0 0), (6, .ptr 1 0 0), (7, .ptr 2 0 0), (8, .ptr 3 0 0), (9, .v (.int .i64 k))], [.arr 3 (vrows [w.row]), .arr 3 (vrows [[.int .i64 0, .int .i64 0, .sl 3 true []]]), .arr 2 (vrows [[.int .i64 0, .int .i64 0]]), .arr 2 (vrows [[.int .i64 e.1, .int .i64 e.2]])], []⟩
def thP (junk : Bool) (s : ByteArray) (x : Tk) : Bool := decide (x.s = s) && decide (0 < cnt junk x.g x.j)
def fiS (w : Wd) (z : Bool) (l : List ByteArray) (junk : Bool) (s : ByteArray) (k i : Nat) : St := ⟨[(1, .v (strs z l)), (2, .v (.bool junk)), (3, .ptr 0 0 0), (6, .ptr 1 0 0), (7, .ptr 2 0 0), (8, .ptr 3 0 0), (9, .v (.int .i64 k)), (10, .v (.bool ((w.l.take i).any (thP junk s)))), (11, .v (.int .i64 i))], [.arr 3 (vrows [w.row]), .arr 3 (vrows [[.int .i64 0, .int .i64 0, .sl 3 true []]]), .arr 2 (vrows [[.int .i64 0, .int .i64 0]]), .arr 2 (vrows [[.int .i64 0, .int .i64 0]])], []⟩
theorem thP_eq {junk : Bool} {s : ByteArray} {x : Tk} : thP junk s x = (decide (x.s = s) && decide (0 < cnt junk x.g x.j)) := rfl
theorem thP_has {junk : Bool} {w : Wd} (hw : okW w) {s : ByteArray} : w.l.any (thP junk s) = hasB junk w.l s := by
  rw [Bool.eq_iff_iff, List.any_eq_true]
  unfold hasB
  constructor
  · rintro ⟨x, hx, h⟩
    unfold thP at h
    simp only [Bool.and_eq_true, decide_eq_true_eq] at h
    have := getL_is sOrd hw.s hx
    rw [show gT s w.l = getL Tk.s s w.l from rfl, ← h.1, this]
    simp only [decide_eq_true_eq]; omega
  · intro h
    cases hg : gT s w.l with
    | none => rw [hg] at h; simp at h
    | some x =>
      rw [hg] at h
      simp only [decide_eq_true_eq] at h
      obtain ⟨hx, e⟩ := getL_mem hg
      refine ⟨x, hx, ?_⟩
      have := (hw.t x hx).2
      unfold tOk at this
      unfold thP
      simp only [Bool.and_eq_true, decide_eq_true_eq]
      refine ⟨e, ?_⟩
      cases junk <;> (simp only [cnt, Bool.false_eq_true, if_true, if_false] at h ⊢; omega)
theorem any_next {junk : Bool} {s : ByteArray} {R : List Tk} {i : Nat} {x : Tk} (hx : R[i]? = some x) : (R.take (i + 1)).any (thP junk s) = ((R.take i).any (thP junk s) || thP junk s x) := by
  rw [take_get hx, List.any_append]; simp
theorem nfE_yes {junk : Bool} {R : List Tk} {l : List ByteArray} {k : Nat} {s : ByteArray} (hs : l[k]? = some s) (hn : nfI junk R (l.take k) = none) (h : hasB junk R s = true) : nfI junk R (l.take (k + 1)) = none := by
  unfold nfI at hn ⊢
  rw [List.findIdx?_eq_none_iff] at hn ⊢
  intro x hx
  rw [take_get hs] at hx
  rcases List.mem_append.1 hx with hx | hx
  · exact hn x hx
  · simp at hx; subst hx; simp [h]
theorem nfE_no {junk : Bool} {R : List Tk} {l : List ByteArray} {k : Nat} {s : ByteArray} (hs : l[k]? = some s) (hn : nfI junk R (l.take k) = none) (h : hasB junk R s = false) : nfI junk R (l.take (k + 1)) = some k := by
  unfold nfI at hn ⊢
  rw [List.findIdx?_eq_none_iff] at hn
  have hlt := lt_get hs
  refine findIdx?_at (x := s) ?_ (by simp [h]) fun j y hj hy => ?_
  · rw [List.getElem?_take, if_pos (by omega)]; exact hs
  · refine hn y ?_
    rw [List.getElem?_take, if_pos (by omega)] at hy
    exact List.mem_of_getElem? (i := j) (by rw [List.getElem?_take, if_pos hj]; exact hy)
theorem nfI_take {junk : Bool} {R : List Tk} {l : List ByteArray} {k j : Nat} (h : nfI junk R (l.take k) = some j) : nfI junk R l = some j := by
  unfold nfI at h ⊢
  rw [List.findIdx?_eq_some_iff_getElem] at h
  obtain ⟨h1, h2, h3⟩ := h
  simp only [List.length_take] at h1
  simp only [List.getElem_take] at h2 h3
  rw [List.findIdx?_eq_some_iff_getElem]
  exact ⟨by omega, h2, fun i hi => h3 i hi⟩
theorem fgt_mrg {junk : Bool} {w : Wd} {l : List ByteArray} (hw : okW w) (hl : SS l) (hk : nfI junk w.l l = none) : mrg junk (-1) w.l l = fgtL w l junk ∧ ∀ x ∈ l.foldl (fgt junk) w.l, 0 ≤ x.g ∧ 0 ≤ x.j ∧ fitB x.s = true := by
  have hx : ∀ x ∈ l.foldl (fgt junk) w.l, 0 ≤ x.g ∧ 0 ≤ x.j ∧ fitB x.s = true := fun x hx => by
    rw [fgt_upd] at hx
    have hg := getL_is sOrd (upd_sort (junk := junk) (n := -1) l hw.s) hx
    have h2 := upd_get (junk := junk) (n := -1) x.s l hw.s hl
    rw [show gT x.s _ = getL Tk.s x.s _ from rfl, hg] at h2
    split at h2
    · rename_i hm
      injection h2 with h2
      unfold nfI at hk
      rw [List.findIdx?_eq_none_iff] at hk
      have hh := hk _ hm
      simp only [Bool.not_eq_false'] at hh
      unfold hasB at hh
      cases hgx : gT x.s w.l with
      | none => rw [hgx] at hh; simp at hh
      | some y =>
        rw [hgx] at hh h2
        simp only [decide_eq_true_eq] at hh
        have hy := hw.t y (getL_mem hgx).1
        have hy2 := hy.2
        unfold tOk at hy2
        rw [Option.getD_some] at h2
        have e := (getL_mem hgx).2
        refine ⟨?_, ?_, by rw [← e]; exact hy.1⟩
        · rw [h2]; cases junk <;> (simp only [cnt, upT, Bool.false_eq_true, if_true, if_false] at hh ⊢; omega)
        · rw [h2]; cases junk <;> (simp only [cnt, upT, Bool.false_eq_true, if_true, if_false] at hh ⊢; omega)
    · have hy := hw.t x (getL_mem h2.symm).1
      have hy2 := hy.2
      unfold tOk at hy2
      exact ⟨hy2.1, hy2.2.2.1, hy.1⟩
  refine ⟨?_, hx⟩
  rw [mrg_upd hw.s hl, ← fgt_upd]
  unfold fgtL
  refine List.filter_congr fun x h => ?_
  have := hx x h
  unfold nilT
  rw [Bool.eq_iff_iff]; simp; omega
theorem fgt_len {junk : Bool} {w : Wd} {l : List ByteArray} (hw : okW w) (hl : SS l) (hk : nfI junk w.l l = none) : (l.foldl (fgt junk) w.l).length ≤ 2000 := by
  have key : ∀ k, k ≤ l.length → okF (fgR w l junk k) := by
    intro k
    induction k with
    | zero =>
      intro _
      unfold fgR
      rw [List.take_zero]
      exact ⟨hw.s, hw.l, fun x hx => by have := (hw.t x hx).2; have := hw.g; have := hw.j; unfold tOk at *; omega⟩
    | succ k ih =>
      intro hk'
      obtain ⟨s, hs⟩ : ∃ s, l[k]? = some s := ⟨_, List.getElem?_eq_getElem (by omega)⟩
      rw [fgR_next hs]
      refine okF_next (ih (by omega)) ?_
      rw [fgR_has hw hl hs]
      unfold nfI at hk
      rw [List.findIdx?_eq_none_iff] at hk
      simpa using hk s (List.mem_of_getElem? hs)
  have := (key l.length (Nat.le_refl _)).l
  rwa [fgR_all] at this
/-- Is what is left at fault? -/
theorem fgt_fault {junk : Bool} {w : Wd} {l : List ByteArray} {z : Bool} (hw : okW w) (hl : SS l) (hk : nfI junk w.l l = none) (hn : cnt junk w.g w.j ≠ 0) : wF ⟨(upW w junk (-1)).g, (upW w junk (-1)).j, z, fgtL w l junk⟩ = (0, 0) ↔ ¬ (fgtL w l junk).any (ovT (upW w junk (-1)).g (upW w junk (-1)).j) = true := by
  have hb := (fgt_mrg hw hl hk).2
  have hlen := fgt_len hw hl hk
  have hg := hw.g
  have hj := hw.j
  rw [List.any_eq_true]
  constructor
  · rintro h ⟨x, hx, ho⟩
    have := ((wF_ok h).t x hx).2
    unfold tOk at this
    dsimp only at this
    unfold ovT at ho
    simp at ho
    omega
  · intro h
    refine ok_wF ⟨?_, ?_, ?_, fun x hx => ?_, ?_⟩
    · cases junk <;> (simp only [cnt, upW, Bool.false_eq_true, if_true, if_false] at hn ⊢; omega)
    · cases junk <;> (simp only [cnt, upW, Bool.false_eq_true, if_true, if_false] at hn ⊢; omega)
    · exact Nat.le_trans (List.length_filter_le _ _) hlen
    · have hx' := List.mem_filter.1 hx
      have hbx := hb x hx'.1
      refine ⟨hbx.2.2, ?_⟩
      have ho : ¬ (ovT (upW w junk (-1)).g (upW w junk (-1)).j x = true) := fun e => h ⟨x, hx, e⟩
      unfold ovT at ho
      have hnz := hx'.2
      unfold nilT at hnz
      simp at ho hnz
      unfold tOk
      dsimp only
      omega
    · exact sort_filter _ (by rw [fgt_upd]; exact upd_sort l hw.s)
theorem wF_1 {w : Wd} : wF w ≠ (0, 0) ↔ (wF w).1 ≠ 0 := ⟨fun h e => h (wF_0 e), fun h e => h (by rw [e])⟩
theorem c_Forgotten_false (w : Wd) (z : Bool) (l : List ByteArray) : CallV tab 33 [.agg w.row, strs z l, .bool false] (· = wfV (fgtA w l false)) := by
  have h1 := c_LearnFault w z l
  by_cases hc : cF w l = (0, 0)
  · obtain ⟨how, htf⟩ := cF_ok hc
    have hsl := (vfl_SS htf).1
    have hll := tF_len htf
    have hwl := how.l
    have h2 := c_Changed_false w z l (-1) (by omega) (by omega) how (tF_len htf)
    have h3 := c_WordsFault ⟨(upW w false (-1)).g, (upW w false (-1)).j, false, mrg false (-1) w.l l⟩
    rw [hc] at h1
    by_cases hn : cnt false w.g w.j = 0
    · have d0 : (cnt false w.g w.j == 0) = true := by simpa using hn
      simp only [cnt, Bool.false_eq_true, if_true, if_false] at d0
      rw [fgtA_0 hc hn]
      refine callV_of Try.func33 rfl (Nat.le_of_ble_eq_true rfl) (by kernel_rfl) ?_
      repeat' first
        | (apply Br.id; first
      | (apply Br.tt; try conv => whnf)
      | (apply Br.ff; try conv => whnf)
      | (refine Br.of_t (by assumption) ?_; conv => whnf)
      | (refine Br.of_f (by assumption) ?_; conv => whnf)
      | (refine Br.mk (fun _ => ?_) (fun _ => ?_) <;> try conv => whnf))
        | (apply CallOp.id; first
      | (refine call_at rfl rfl rfl rfl rfl ?_)
      | (refine call_rd rfl rfl rfl rfl rfl ?_)
      | (refine CallOp.std ?_; (conv => whnf); fail_if_success refine (?_ : False)))
        | (apply CallDet.id; first
      | (refine call_atD rfl rfl rfl rfl rfl ?_)
      | (refine call_rdD rfl rfl rfl rfl rfl ?_)
      | (refine CallDet.std ?_; (conv => whnf); fail_if_success refine (?_ : False)))
        | (apply CallAt.id; first
      | (apply CallAt.mk1 (h1); conv => whnf)
      | (apply CallAt.mk1 (c_At _ _); conv => whnf))
        | (apply CallRd.id; first
      | (apply CallRd.mk1 (h1); (· rfl); conv => whnf)
      | (apply CallRd.mk1 (c_At _ _); (· rfl); conv => whnf))
        | (refine EndOk.mk (by kernel_rfl) ?_; conv => whnf)
        | (refine And.intro (by (first | decide | exact trivial | omega | exact Nat.le_refl _ | (((try simp only [decide_eq_true_eq, decide_eq_false_iff_not, cond_true, cond_false, beq_iff_eq, beq_eq_false_iff_ne, bne_iff_ne, bne_eq_false_iff_eq, ne_eq, Bool.not_eq_true', Bool.not_eq_false', Bool.not_eq_eq_eq_not, Bool.not_true, Bool.not_false, sLe_eq, Bool.and_eq_true, Bool.and_eq_false_iff, List.length_map, List.length_set, List.length_append, List.length_take, List.length_drop, List.length_replicate, List.length_cons, List.length_nil, lenMax, capMax, Int.toNat_natCast, gt_iff_lt, ge_iff_le] at *); (try simp (disch := omega) only [wr, wru, shr1, Int.tdiv_eq_ediv_of_nonneg] at *)); omega) | (((try simp only [decide_eq_true_eq, decide_eq_false_iff_not, cond_true, cond_false, beq_iff_eq, beq_eq_false_iff_ne, bne_iff_ne, bne_eq_false_iff_eq, ne_eq, Bool.not_eq_true', Bool.not_eq_false', Bool.not_eq_eq_eq_not, Bool.not_true, Bool.not_false, sLe_eq, Bool.and_eq_true, Bool.and_eq_false_iff, List.length_map, List.length_set, List.length_append, List.length_take, List.length_drop, List.length_replicate, List.length_cons, List.length_nil, lenMax, capMax, Int.toNat_natCast, gt_iff_lt, ge_iff_le] at *); (try simp (disch := omega) only [wr, wru, shr1, Int.tdiv_eq_ediv_of_nonneg] at *)); assumption))) ?_; conv => whnf)
        | (refine idxOld (by assumption) ?_; conv => whnf)
        | (refine idxMap (by (first | decide | exact trivial | omega | exact Nat.le_refl _ | (((try simp only [decide_eq_true_eq, decide_eq_false_iff_not, cond_true, cond_false, beq_iff_eq, beq_eq_false_iff_ne, bne_iff_ne, bne_eq_false_iff_eq, ne_eq, Bool.not_eq_true', Bool.not_eq_false', Bool.not_eq_eq_eq_not, Bool.not_true, Bool.not_false, sLe_eq, Bool.and_eq_true, Bool.and_eq_false_iff, List.length_map, List.length_set, List.length_append, List.length_take, List.length_drop, List.length_replicate, List.length_cons, List.length_nil, lenMax, capMax, Int.toNat_natCast, gt_iff_lt, ge_iff_le] at *); (try simp (disch := omega) only [wr, wru, shr1, Int.tdiv_eq_ediv_of_nonneg] at *)); omega) | (((try simp only [decide_eq_true_eq, decide_eq_false_iff_not, cond_true, cond_false, beq_iff_eq, beq_eq_false_iff_ne, bne_iff_ne, bne_eq_false_iff_eq, ne_eq, Bool.not_eq_true', Bool.not_eq_false', Bool.not_eq_eq_eq_not, Bool.not_true, Bool.not_false, sLe_eq, Bool.and_eq_true, Bool.and_eq_false_iff, List.length_map, List.length_set, List.length_append, List.length_take, List.length_drop, List.length_replicate, List.length_cons, List.length_nil, lenMax, capMax, Int.toNat_natCast, gt_iff_lt, ge_iff_le] at *); (try simp (disch := omega) only [wr, wru, shr1, Int.tdiv_eq_ediv_of_nonneg] at *)); assumption))) (fun _ _ => ?_); conv => whnf)
        | refine Exists.intro _ (And.intro (DV_toV rfl) ?_)
        | (refine rowSet (by (first | decide | exact trivial | omega | exact Nat.le_refl _ | (((try simp only [decide_eq_true_eq, decide_eq_false_iff_not, cond_true, cond_false, beq_iff_eq, beq_eq_false_iff_ne, bne_iff_ne, bne_eq_false_iff_eq, ne_eq, Bool.not_eq_true', Bool.not_eq_false', Bool.not_eq_eq_eq_not, Bool.not_true, Bool.not_false, sLe_eq, Bool.and_eq_true, Bool.and_eq_false_iff, List.length_map, List.length_set, List.length_append, List.length_take, List.length_drop, List.length_replicate, List.length_cons, List.length_nil, lenMax, capMax, Int.toNat_natCast, gt_iff_lt, ge_iff_le] at *); (try simp (disch := omega) only [wr, wru, shr1, Int.tdiv_eq_ediv_of_nonneg] at *)); omega) | (((try simp only [decide_eq_true_eq, decide_eq_false_iff_not, cond_true, cond_false, beq_iff_eq, beq_eq_false_iff_ne, bne_iff_ne, bne_eq_false_iff_eq, ne_eq, Bool.not_eq_true', Bool.not_eq_false', Bool.not_eq_eq_eq_not, Bool.not_true, Bool.not_false, sLe_eq, Bool.and_eq_true, Bool.and_eq_false_iff, List.length_map, List.length_set, List.length_append, List.length_take, List.length_drop, List.length_replicate, List.length_cons, List.length_nil, lenMax, capMax, Int.toNat_natCast, gt_iff_lt, ge_iff_le] at *); (try simp (disch := omega) only [wr, wru, shr1, Int.tdiv_eq_ediv_of_nonneg] at *)); assumption))) ?_; conv => whnf)
        | (refine rowOld (by assumption) ?_; conv => whnf)
        | (refine rowNew (by (first | decide | exact trivial | omega | exact Nat.le_refl _ | (((try simp only [decide_eq_true_eq, decide_eq_false_iff_not, cond_true, cond_false, beq_iff_eq, beq_eq_false_iff_ne, bne_iff_ne, bne_eq_false_iff_eq, ne_eq, Bool.not_eq_true', Bool.not_eq_false', Bool.not_eq_eq_eq_not, Bool.not_true, Bool.not_false, sLe_eq, Bool.and_eq_true, Bool.and_eq_false_iff, List.length_map, List.length_set, List.length_append, List.length_take, List.length_drop, List.length_replicate, List.length_cons, List.length_nil, lenMax, capMax, Int.toNat_natCast, gt_iff_lt, ge_iff_le] at *); (try simp (disch := omega) only [wr, wru, shr1, Int.tdiv_eq_ediv_of_nonneg] at *)); omega) | (((try simp only [decide_eq_true_eq, decide_eq_false_iff_not, cond_true, cond_false, beq_iff_eq, beq_eq_false_iff_ne, bne_iff_ne, bne_eq_false_iff_eq, ne_eq, Bool.not_eq_true', Bool.not_eq_false', Bool.not_eq_eq_eq_not, Bool.not_true, Bool.not_false, sLe_eq, Bool.and_eq_true, Bool.and_eq_false_iff, List.length_map, List.length_set, List.length_append, List.length_take, List.length_drop, List.length_replicate, List.length_cons, List.length_nil, lenMax, capMax, Int.toNat_natCast, gt_iff_lt, ge_iff_le] at *); (try simp (disch := omega) only [wr, wru, shr1, Int.tdiv_eq_ediv_of_nonneg] at *)); assumption))) (fun _ _ => ?_); conv => whnf)
        | (apply WpD.id; first
      | (refine WpD.loopAt 38 rfl (foS w z l false (8, -4)) (fun k => k = 0) (fun k => l.length - k) ?_ (fun k hk => ?_); rotate_left; dsimp only [foS])
      | (refine WpD.walk rfl ?_; conv => whnf))
      all_goals clear h1 h2
      all_goals ((try simp only [decide_eq_true_eq, decide_eq_false_iff_not, cond_true, cond_false, beq_iff_eq, beq_eq_false_iff_ne, bne_iff_ne, bne_eq_false_iff_eq, ne_eq, Bool.not_eq_true', Bool.not_eq_false', Bool.not_eq_eq_eq_not, Bool.not_true, Bool.not_false, sLe_eq, Bool.and_eq_true, Bool.and_eq_false_iff, List.length_map, List.length_set, List.length_append, List.length_take, List.length_drop, List.length_replicate, List.length_cons, List.length_nil, lenMax, capMax, Int.toNat_natCast, gt_iff_lt, ge_iff_le] at *); (try simp (disch := omega) only [wr, wru, shr1, Int.tdiv_eq_ediv_of_nonneg] at *))
      all_goals first
        | rfl
        | (exfalso; omega)
        | (refine ⟨0, [0, 1, 2, 3], rfl, ⟨by decide, rfl, ?_, ?_, rfl⟩⟩
           · (repeat' first | exact trivial | rfl | apply And.intro | (refine leInt rfl ?_; first | omega | (dsimp only; omega)) | (refine leArr rfl ?_ rfl; (simp; try omega)) | (refine leBool rfl ?_; assumption))
             done
           · (repeat' first | exact trivial | (refine obLe_v ?_; try dsimp only) | rfl | apply And.intro)
             done)
        | skip
      all_goals skip
    · have d0 : (cnt false w.g w.j == 0) = false := by simpa using hn
      simp only [cnt, Bool.false_eq_true, if_true, if_false] at d0
      refine callV_of Try.func33 rfl (Nat.le_of_ble_eq_true rfl) (by kernel_rfl) ?_
      repeat' first
        | (apply Br.id; first
      | (apply Br.tt; try conv => whnf)
      | (apply Br.ff; try conv => whnf)
      | (refine Br.of_t (by assumption) ?_; conv => whnf)
      | (refine Br.of_f (by assumption) ?_; conv => whnf)
      | (refine Br.mk (fun _ => ?_) (fun _ => ?_) <;> try conv => whnf))
        | (apply CallOp.id; first
      | (refine call_at rfl rfl rfl rfl rfl ?_)
      | (refine call_rd rfl rfl rfl rfl rfl ?_)
      | (refine CallOp.std ?_; (conv => whnf); fail_if_success refine (?_ : False)))
        | (apply CallDet.id; first
      | (refine call_atD rfl rfl rfl rfl rfl ?_)
      | (refine call_rdD rfl rfl rfl rfl rfl ?_)
      | (refine CallDet.std ?_; (conv => whnf); fail_if_success refine (?_ : False)))
        | (apply CallAt.id; first
      | (apply CallAt.mk1 (h1); conv => whnf)
      | (apply CallAt.mk1 (h2); conv => whnf)
      | (apply CallAt.mk1 (c_At _ _); conv => whnf)
      | (apply CallAt.mk1 (h3); conv => whnf))
        | (apply CallRd.id; first
      | (apply CallRd.mk1 (h1); (· rfl); conv => whnf)
      | (apply CallRd.mk1 (h2); (· rfl); conv => whnf)
      | (apply CallRd.mk1 (c_At _ _); (· rfl); conv => whnf)
      | (apply CallRd.mk1 (h3); (· rfl); conv => whnf))
        | (refine EndOk.mk (by kernel_rfl) ?_; conv => whnf)
        | (refine And.intro (by (first | decide | exact trivial | omega | exact Nat.le_refl _ | (((try simp only [decide_eq_true_eq, decide_eq_false_iff_not, cond_true, cond_false, beq_iff_eq, beq_eq_false_iff_ne, bne_iff_ne, bne_eq_false_iff_eq, ne_eq, Bool.not_eq_true', Bool.not_eq_false', Bool.not_eq_eq_eq_not, Bool.not_true, Bool.not_false, sLe_eq, Bool.and_eq_true, Bool.and_eq_false_iff, List.length_map, List.length_set, List.length_append, List.length_take, List.length_drop, List.length_replicate, List.length_cons, List.length_nil, lenMax, capMax, Int.toNat_natCast, gt_iff_lt, ge_iff_le] at *); (try simp (disch := omega) only [wr, wru, shr1, Int.tdiv_eq_ediv_of_nonneg] at *)); omega) | (((try simp only [decide_eq_true_eq, decide_eq_false_iff_not, cond_true, cond_false, beq_iff_eq, beq_eq_false_iff_ne, bne_iff_ne, bne_eq_false_iff_eq, ne_eq, Bool.not_eq_true', Bool.not_eq_false', Bool.not_eq_eq_eq_not, Bool.not_true, Bool.not_false, sLe_eq, Bool.and_eq_true, Bool.and_eq_false_iff, List.length_map, List.length_set, List.length_append, List.length_take, List.length_drop, List.length_replicate, List.length_cons, List.length_nil, lenMax, capMax, Int.toNat_natCast, gt_iff_lt, ge_iff_le] at *); (try simp (disch := omega) only [wr, wru, shr1, Int.tdiv_eq_ediv_of_nonneg] at *)); assumption))) ?_; conv => whnf)
        | (refine idxOld (by assumption) ?_; conv => whnf)
        | (refine idxMap (by (first | decide | exact trivial | omega | exact Nat.le_refl _ | (((try simp only [decide_eq_true_eq, decide_eq_false_iff_not, cond_true, cond_false, beq_iff_eq, beq_eq_false_iff_ne, bne_iff_ne, bne_eq_false_iff_eq, ne_eq, Bool.not_eq_true', Bool.not_eq_false', Bool.not_eq_eq_eq_not, Bool.not_true, Bool.not_false, sLe_eq, Bool.and_eq_true, Bool.and_eq_false_iff, List.length_map, List.length_set, List.length_append, List.length_take, List.length_drop, List.length_replicate, List.length_cons, List.length_nil, lenMax, capMax, Int.toNat_natCast, gt_iff_lt, ge_iff_le] at *); (try simp (disch := omega) only [wr, wru, shr1, Int.tdiv_eq_ediv_of_nonneg] at *)); omega) | (((try simp only [decide_eq_true_eq, decide_eq_false_iff_not, cond_true, cond_false, beq_iff_eq, beq_eq_false_iff_ne, bne_iff_ne, bne_eq_false_iff_eq, ne_eq, Bool.not_eq_true', Bool.not_eq_false', Bool.not_eq_eq_eq_not, Bool.not_true, Bool.not_false, sLe_eq, Bool.and_eq_true, Bool.and_eq_false_iff, List.length_map, List.length_set, List.length_append, List.length_take, List.length_drop, List.length_replicate, List.length_cons, List.length_nil, lenMax, capMax, Int.toNat_natCast, gt_iff_lt, ge_iff_le] at *); (try simp (disch := omega) only [wr, wru, shr1, Int.tdiv_eq_ediv_of_nonneg] at *)); assumption))) (fun _ _ => ?_); conv => whnf)
        | refine Exists.intro _ (And.intro (DV_toV rfl) ?_)
        | (refine rowSet (by (first | decide | exact trivial | omega | exact Nat.le_refl _ | (((try simp only [decide_eq_true_eq, decide_eq_false_iff_not, cond_true, cond_false, beq_iff_eq, beq_eq_false_iff_ne, bne_iff_ne, bne_eq_false_iff_eq, ne_eq, Bool.not_eq_true', Bool.not_eq_false', Bool.not_eq_eq_eq_not, Bool.not_true, Bool.not_false, sLe_eq, Bool.and_eq_true, Bool.and_eq_false_iff, List.length_map, List.length_set, List.length_append, List.length_take, List.length_drop, List.length_replicate, List.length_cons, List.length_nil, lenMax, capMax, Int.toNat_natCast, gt_iff_lt, ge_iff_le] at *); (try simp (disch := omega) only [wr, wru, shr1, Int.tdiv_eq_ediv_of_nonneg] at *)); omega) | (((try simp only [decide_eq_true_eq, decide_eq_false_iff_not, cond_true, cond_false, beq_iff_eq, beq_eq_false_iff_ne, bne_iff_ne, bne_eq_false_iff_eq, ne_eq, Bool.not_eq_true', Bool.not_eq_false', Bool.not_eq_eq_eq_not, Bool.not_true, Bool.not_false, sLe_eq, Bool.and_eq_true, Bool.and_eq_false_iff, List.length_map, List.length_set, List.length_append, List.length_take, List.length_drop, List.length_replicate, List.length_cons, List.length_nil, lenMax, capMax, Int.toNat_natCast, gt_iff_lt, ge_iff_le] at *); (try simp (disch := omega) only [wr, wru, shr1, Int.tdiv_eq_ediv_of_nonneg] at *)); assumption))) ?_; conv => whnf)
        | (refine rowOld (by assumption) ?_; conv => whnf)
        | (refine rowNew (by (first | decide | exact trivial | omega | exact Nat.le_refl _ | (((try simp only [decide_eq_true_eq, decide_eq_false_iff_not, cond_true, cond_false, beq_iff_eq, beq_eq_false_iff_ne, bne_iff_ne, bne_eq_false_iff_eq, ne_eq, Bool.not_eq_true', Bool.not_eq_false', Bool.not_eq_eq_eq_not, Bool.not_true, Bool.not_false, sLe_eq, Bool.and_eq_true, Bool.and_eq_false_iff, List.length_map, List.length_set, List.length_append, List.length_take, List.length_drop, List.length_replicate, List.length_cons, List.length_nil, lenMax, capMax, Int.toNat_natCast, gt_iff_lt, ge_iff_le] at *); (try simp (disch := omega) only [wr, wru, shr1, Int.tdiv_eq_ediv_of_nonneg] at *)); omega) | (((try simp only [decide_eq_true_eq, decide_eq_false_iff_not, cond_true, cond_false, beq_iff_eq, beq_eq_false_iff_ne, bne_iff_ne, bne_eq_false_iff_eq, ne_eq, Bool.not_eq_true', Bool.not_eq_false', Bool.not_eq_eq_eq_not, Bool.not_true, Bool.not_false, sLe_eq, Bool.and_eq_true, Bool.and_eq_false_iff, List.length_map, List.length_set, List.length_append, List.length_take, List.length_drop, List.length_replicate, List.length_cons, List.length_nil, lenMax, capMax, Int.toNat_natCast, gt_iff_lt, ge_iff_le] at *); (try simp (disch := omega) only [wr, wru, shr1, Int.tdiv_eq_ediv_of_nonneg] at *)); assumption))) (fun _ _ => ?_); conv => whnf)
        | (apply WpD.id; first
      | (refine WpD.loopAt 49 rfl (fiS w z l false s k) (fun i => i ≤ w.l.length) (fun i => w.l.length - i) ?_ (fun i hi => ?_); rotate_left; dsimp only [fiS])
      | (refine WpD.loopAt 38 rfl (fun k => foS w z l false (nfE false w.l (l.take k)) k) (fun k => k ≤ l.length) (fun k => l.length - k) ?_ (fun k hk => ?_); rotate_left; rcases hE : nfI false w.l (l.take k) with _ | j; (have he : nfE false w.l (l.take k) = (0, 0) := by unfold nfE; rw [hE]); rcases Nat.lt_or_ge k l.length with hlt | hge; (obtain ⟨s, hs⟩ : ∃ s, l[k]? = some s := ⟨_, List.getElem?_eq_getElem hlt⟩); (have hs0 : l[((k : Nat) : Int).toNat]? = some s := hs); (have dk : decide ((k : Int) < (l.length : Int)) = true := by { simp; omega }); rw [he]; dsimp only [foS]; rotate_left; (have dk : decide ((k : Int) < (l.length : Int)) = false := by { simp; omega }); rw [he]; dsimp only [foS]; rotate_left; (have he : nfE false w.l (l.take k) = (6, -10 - (j : Int)) := by unfold nfE; rw [hE]); rw [he]; dsimp only [foS]; rotate_left)
      | (refine WpD.walk rfl ?_; conv => whnf))
        | (exfalso; simp only [decide_eq_true_eq, decide_eq_false_iff_not] at *; omega)
      all_goals clear h1 h2 h3
      all_goals ((try simp only [decide_eq_true_eq, decide_eq_false_iff_not, cond_true, cond_false, beq_iff_eq, beq_eq_false_iff_ne, bne_iff_ne, bne_eq_false_iff_eq, ne_eq, Bool.not_eq_true', Bool.not_eq_false', Bool.not_eq_eq_eq_not, Bool.not_true, Bool.not_false, sLe_eq, Bool.and_eq_true, Bool.and_eq_false_iff, List.length_map, List.length_set, List.length_append, List.length_take, List.length_drop, List.length_replicate, List.length_cons, List.length_nil, lenMax, capMax, Int.toNat_natCast, gt_iff_lt, ge_iff_le] at *); (try simp (disch := omega) only [wr, wru, shr1, Int.tdiv_eq_ediv_of_nonneg] at *))
      all_goals try rename w.l[_]? = some _ => hx
      all_goals first
        | (refine ⟨0, [0, 1, 2, 3], Nat.zero_le _, ⟨by decide, rfl, ?_, ?_, rfl⟩⟩
           · (repeat' first | exact trivial | rfl | apply And.intro | (refine leInt rfl ?_; first | omega | (dsimp only; omega)) | (refine leArr rfl ?_ rfl; (simp; try omega)) | (refine leBool rfl ?_; assumption))
             done
           · (repeat' first | exact trivial | (refine obLe_v ?_; try dsimp only) | rfl | apply And.intro)
             done)
        | (refine ⟨0, [0, 1, 2, 3], Nat.zero_le _, ⟨by decide, rfl, ?_, ?_, rfl⟩⟩
           · (repeat' first | exact trivial | rfl | apply And.intro | (refine leInt rfl ?_; simp; done) | (refine leBool rfl ?_; simp; done))
             done
           · refine ⟨obLe_v rfl, obLe_v rfl, obLe_v rfl, obLe_v ?_, trivial⟩
             simp [nfE, nfI]
             done)
        | (exfalso; omega)
        | (have hth := any_next (junk := false) (s := s) hx
           refine ⟨i + 1, [0, 1, 2, 3], by omega, ⟨⟨by decide, rfl, ?_, ?_, rfl⟩, by omega⟩⟩
           · (repeat' first | exact trivial | rfl | apply And.intro | (refine leInt rfl ?_; (try dsimp only); omega) | (refine leBool rfl ?_; (try dsimp only); rw [hth, thP_eq]; simp [*, cnt]; done))
             done
           · (repeat' first | exact trivial | (refine obLe_v ?_; try dsimp only) | rfl | apply And.intro)
             done)
        | (have hfin : nfI false w.l l = none := by rw [← hE, List.take_of_length_le (by omega)]
           rename ¬((wF _).fst = 0) => hwf
           rw [(fgt_mrg how hsl hfin).1] at hwf
           have ho : (fgtL w l false).any (ovT (upW w false (-1)).g (upW w false (-1)).j) = true := by
             cases hb : (fgtL w l false).any (ovT (upW w false (-1)).g (upW w false (-1)).j) with
             | true => rfl
             | false => exact absurd ((fgt_fault how hsl hfin hn).2 (by rw [hb]; simp)) (wF_1.2 hwf)
           rw [fgtA_ov hc hn hfin ho]
           rfl)
        | (have hfin : nfI false w.l l = none := by rw [← hE, List.take_of_length_le (by omega)]
           rename (wF _).fst = 0 => hwf
           rw [(fgt_mrg how hsl hfin).1] at hwf ⊢
           rw [fgtA_ok hc hn hfin ((fgt_fault how hsl hfin hn).1 (wF_0 hwf))]
           rfl)
        | (rw [fgtA_nf hc hn (nfI_take hE)]; rfl)
        | (rename (List.take i w.l).any _ = true => ha
           rw [show i = w.l.length by omega, List.take_length, thP_has how] at ha
           have hn' := nfE_yes hs hE ha
           have he' : nfE false w.l (l.take (k + 1)) = (0, 0) := by unfold nfE; rw [hn']
           refine ⟨k + 1, [0, 1, 2, 3], by omega, ⟨⟨by decide, rfl, ?_, ?_, rfl⟩, by omega⟩⟩
           · (repeat' first | exact trivial | rfl | apply And.intro | (refine leInt rfl ?_; first | omega | (dsimp only; omega)) | (refine leArr rfl ?_ rfl; (simp; try omega)) | (refine leBool rfl ?_; assumption))
             done
           · rw [he']
             (repeat' first | exact trivial | (refine obLe_v ?_; try dsimp only) | rfl | apply And.intro)
             done)
        | (rename (List.take i w.l).any _ = false => ha
           rw [show i = w.l.length by omega, List.take_length, thP_has how] at ha
           have hn' := nfE_no hs hE ha
           have he' : nfE false w.l (l.take (k + 1)) = (6, -10 - (k : Int)) := by unfold nfE; rw [hn']
           refine ⟨k + 1, [0, 1, 2, 3], by omega, ⟨⟨by decide, rfl, ?_, ?_, rfl⟩, by omega⟩⟩
           · (repeat' first | exact trivial | rfl | apply And.intro | (refine leInt rfl ?_; first | omega | (dsimp only; omega)) | (refine leArr rfl ?_ rfl; (simp; try omega)) | (refine leBool rfl ?_; assumption))
             done
           · rw [he']
             (repeat' first | exact trivial | (refine obLe_v ?_; try dsimp only) | rfl | apply And.intro)
             done)
        | skip
      all_goals skip
  · have hc1 : (cF w l).1 ≠ 0 := fun e => hc (by
      unfold cF at e ⊢
      split
      · rename_i h; rw [if_pos h] at e; exact absurd (wF_0 e) h
      · rename_i h; rw [if_neg h] at e; exact tF_0 e)
    have d1 : ((cF w l).1 == 0) = false := by simpa using hc1
    rw [fgtA_bad hc]
    refine callV_of Try.func33 rfl (Nat.le_of_ble_eq_true rfl) (by kernel_rfl) ?_
    repeat' first
      | (apply Br.id; first
      | (apply Br.tt; try conv => whnf)
      | (apply Br.ff; try conv => whnf)
      | (refine Br.of_t (by assumption) ?_; conv => whnf)
      | (refine Br.of_f (by assumption) ?_; conv => whnf)
      | (refine Br.mk (fun _ => ?_) (fun _ => ?_) <;> try conv => whnf))
      | (apply CallOp.id; first
      | (refine call_at rfl rfl rfl rfl rfl ?_)
      | (refine call_rd rfl rfl rfl rfl rfl ?_)
      | (refine CallOp.std ?_; (conv => whnf); fail_if_success refine (?_ : False)))
      | (apply CallDet.id; first
      | (refine call_atD rfl rfl rfl rfl rfl ?_)
      | (refine call_rdD rfl rfl rfl rfl rfl ?_)
      | (refine CallDet.std ?_; (conv => whnf); fail_if_success refine (?_ : False)))
      | (apply CallAt.id; first
      | (apply CallAt.mk1 (h1); conv => whnf)
      | (apply CallAt.mk1 (c_At _ _); conv => whnf))
      | (apply CallRd.id; first
      | (apply CallRd.mk1 (h1); (· rfl); conv => whnf)
      | (apply CallRd.mk1 (c_At _ _); (· rfl); conv => whnf))
      | (refine EndOk.mk (by kernel_rfl) ?_; conv => whnf)
      | (refine And.intro (by (first | decide | exact trivial | omega | exact Nat.le_refl _ | (((try simp only [decide_eq_true_eq, decide_eq_false_iff_not, cond_true, cond_false, beq_iff_eq, beq_eq_false_iff_ne, bne_iff_ne, bne_eq_false_iff_eq, ne_eq, Bool.not_eq_true', Bool.not_eq_false', Bool.not_eq_eq_eq_not, Bool.not_true, Bool.not_false, sLe_eq, Bool.and_eq_true, Bool.and_eq_false_iff, List.length_map, List.length_set, List.length_append, List.length_take, List.length_drop, List.length_replicate, List.length_cons, List.length_nil, lenMax, capMax, Int.toNat_natCast, gt_iff_lt, ge_iff_le] at *); (try simp (disch := omega) only [wr, wru, shr1, Int.tdiv_eq_ediv_of_nonneg] at *)); omega) | (((try simp only [decide_eq_true_eq, decide_eq_false_iff_not, cond_true, cond_false, beq_iff_eq, beq_eq_false_iff_ne, bne_iff_ne, bne_eq_false_iff_eq, ne_eq, Bool.not_eq_true', Bool.not_eq_false', Bool.not_eq_eq_eq_not, Bool.not_true, Bool.not_false, sLe_eq, Bool.and_eq_true, Bool.and_eq_false_iff, List.length_map, List.length_set, List.length_append, List.length_take, List.length_drop, List.length_replicate, List.length_cons, List.length_nil, lenMax, capMax, Int.toNat_natCast, gt_iff_lt, ge_iff_le] at *); (try simp (disch := omega) only [wr, wru, shr1, Int.tdiv_eq_ediv_of_nonneg] at *)); assumption))) ?_; conv => whnf)
      | (refine idxOld (by assumption) ?_; conv => whnf)
      | (refine idxMap (by (first | decide | exact trivial | omega | exact Nat.le_refl _ | (((try simp only [decide_eq_true_eq, decide_eq_false_iff_not, cond_true, cond_false, beq_iff_eq, beq_eq_false_iff_ne, bne_iff_ne, bne_eq_false_iff_eq, ne_eq, Bool.not_eq_true', Bool.not_eq_false', Bool.not_eq_eq_eq_not, Bool.not_true, Bool.not_false, sLe_eq, Bool.and_eq_true, Bool.and_eq_false_iff, List.length_map, List.length_set, List.length_append, List.length_take, List.length_drop, List.length_replicate, List.length_cons, List.length_nil, lenMax, capMax, Int.toNat_natCast, gt_iff_lt, ge_iff_le] at *); (try simp (disch := omega) only [wr, wru, shr1, Int.tdiv_eq_ediv_of_nonneg] at *)); omega) | (((try simp only [decide_eq_true_eq, decide_eq_false_iff_not, cond_true, cond_false, beq_iff_eq, beq_eq_false_iff_ne, bne_iff_ne, bne_eq_false_iff_eq, ne_eq, Bool.not_eq_true', Bool.not_eq_false', Bool.not_eq_eq_eq_not, Bool.not_true, Bool.not_false, sLe_eq, Bool.and_eq_true, Bool.and_eq_false_iff, List.length_map, List.length_set, List.length_append, List.length_take, List.length_drop, List.length_replicate, List.length_cons, List.length_nil, lenMax, capMax, Int.toNat_natCast, gt_iff_lt, ge_iff_le] at *); (try simp (disch := omega) only [wr, wru, shr1, Int.tdiv_eq_ediv_of_nonneg] at *)); assumption))) (fun _ _ => ?_); conv => whnf)
      | refine Exists.intro _ (And.intro (DV_toV rfl) ?_)
      | (refine rowSet (by (first | decide | exact trivial | omega | exact Nat.le_refl _ | (((try simp only [decide_eq_true_eq, decide_eq_false_iff_not, cond_true, cond_false, beq_iff_eq, beq_eq_false_iff_ne, bne_iff_ne, bne_eq_false_iff_eq, ne_eq, Bool.not_eq_true', Bool.not_eq_false', Bool.not_eq_eq_eq_not, Bool.not_true, Bool.not_false, sLe_eq, Bool.and_eq_true, Bool.and_eq_false_iff, List.length_map, List.length_set, List.length_append, List.length_take, List.length_drop, List.length_replicate, List.length_cons, List.length_nil, lenMax, capMax, Int.toNat_natCast, gt_iff_lt, ge_iff_le] at *); (try simp (disch := omega) only [wr, wru, shr1, Int.tdiv_eq_ediv_of_nonneg] at *)); omega) | (((try simp only [decide_eq_true_eq, decide_eq_false_iff_not, cond_true, cond_false, beq_iff_eq, beq_eq_false_iff_ne, bne_iff_ne, bne_eq_false_iff_eq, ne_eq, Bool.not_eq_true', Bool.not_eq_false', Bool.not_eq_eq_eq_not, Bool.not_true, Bool.not_false, sLe_eq, Bool.and_eq_true, Bool.and_eq_false_iff, List.length_map, List.length_set, List.length_append, List.length_take, List.length_drop, List.length_replicate, List.length_cons, List.length_nil, lenMax, capMax, Int.toNat_natCast, gt_iff_lt, ge_iff_le] at *); (try simp (disch := omega) only [wr, wru, shr1, Int.tdiv_eq_ediv_of_nonneg] at *)); assumption))) ?_; conv => whnf)
      | (refine rowOld (by assumption) ?_; conv => whnf)
      | (refine rowNew (by (first | decide | exact trivial | omega | exact Nat.le_refl _ | (((try simp only [decide_eq_true_eq, decide_eq_false_iff_not, cond_true, cond_false, beq_iff_eq, beq_eq_false_iff_ne, bne_iff_ne, bne_eq_false_iff_eq, ne_eq, Bool.not_eq_true', Bool.not_eq_false', Bool.not_eq_eq_eq_not, Bool.not_true, Bool.not_false, sLe_eq, Bool.and_eq_true, Bool.and_eq_false_iff, List.length_map, List.length_set, List.length_append, List.length_take, List.length_drop, List.length_replicate, List.length_cons, List.length_nil, lenMax, capMax, Int.toNat_natCast, gt_iff_lt, ge_iff_le] at *); (try simp (disch := omega) only [wr, wru, shr1, Int.tdiv_eq_ediv_of_nonneg] at *)); omega) | (((try simp only [decide_eq_true_eq, decide_eq_false_iff_not, cond_true, cond_false, beq_iff_eq, beq_eq_false_iff_ne, bne_iff_ne, bne_eq_false_iff_eq, ne_eq, Bool.not_eq_true', Bool.not_eq_false', Bool.not_eq_eq_eq_not, Bool.not_true, Bool.not_false, sLe_eq, Bool.and_eq_true, Bool.and_eq_false_iff, List.length_map, List.length_set, List.length_append, List.length_take, List.length_drop, List.length_replicate, List.length_cons, List.length_nil, lenMax, capMax, Int.toNat_natCast, gt_iff_lt, ge_iff_le] at *); (try simp (disch := omega) only [wr, wru, shr1, Int.tdiv_eq_ediv_of_nonneg] at *)); assumption))) (fun _ _ => ?_); conv => whnf)
      | (apply WpD.id; first
      | (refine WpD.loopAt 38 rfl (foS w z l false (cF w l)) (fun k => k = 0) (fun k => l.length - k) ?_ (fun k hk => ?_); rotate_left; dsimp only [foS])
      | (refine WpD.walk rfl ?_; conv => whnf))
    all_goals clear h1
    all_goals ((try simp only [decide_eq_true_eq, decide_eq_false_iff_not, cond_true, cond_false, beq_iff_eq, beq_eq_false_iff_ne, bne_iff_ne, bne_eq_false_iff_eq, ne_eq, Bool.not_eq_true', Bool.not_eq_false', Bool.not_eq_eq_eq_not, Bool.not_true, Bool.not_false, sLe_eq, Bool.and_eq_true, Bool.and_eq_false_iff, List.length_map, List.length_set, List.length_append, List.length_take, List.length_drop, List.length_replicate, List.length_cons, List.length_nil, lenMax, capMax, Int.toNat_natCast, gt_iff_lt, ge_iff_le] at *); (try simp (disch := omega) only [wr, wru, shr1, Int.tdiv_eq_ediv_of_nonneg] at *))
    all_goals first
      | rfl
      | (exfalso; omega)
      | (refine ⟨0, [0, 1, 2, 3], rfl, ⟨by decide, rfl, ?_, ?_, rfl⟩⟩
         · (repeat' first | exact trivial | rfl | apply And.intro | (refine leInt rfl ?_; first | omega | (dsimp only; omega)) | (refine leArr rfl ?_ rfl; (simp; try omega)) | (refine leBool rfl ?_; assumption))
           done
         · (repeat' first | exact trivial | (refine obLe_v ?_; try dsimp only) | rfl | apply And.intro)
           done)
      | skip
    all_goals skip
theorem c_Forgotten_true (w : Wd) (z : Bool) (l : List ByteArray) : CallV tab 33 [.agg w.row, strs z l, .bool true] (· = wfV (fgtA w l true)) := by
  have h1 := c_LearnFault w z l
  by_cases hc : cF w l = (0, 0)
  · obtain ⟨how, htf⟩ := cF_ok hc
    have hsl := (vfl_SS htf).1
    have hll := tF_len htf
    have hwl := how.l
    have h2 := c_Changed_true w z l (-1) (by omega) (by omega) how (tF_len htf)
    have h3 := c_WordsFault ⟨(upW w true (-1)).g, (upW w true (-1)).j, false, mrg true (-1) w.l l⟩
    rw [hc] at h1
    by_cases hn : cnt true w.g w.j = 0
    · have d0 : (cnt true w.g w.j == 0) = true := by simpa using hn
      simp only [cnt, Bool.false_eq_true, if_true, if_false] at d0
      rw [fgtA_0 hc hn]
      refine callV_of Try.func33 rfl (Nat.le_of_ble_eq_true rfl) (by kernel_rfl) ?_
      repeat' first
        | (apply Br.id; first
      | (apply Br.tt; try conv => whnf)
      | (apply Br.ff; try conv => whnf)
      | (refine Br.of_t (by assumption) ?_; conv => whnf)
      | (refine Br.of_f (by assumption) ?_; conv => whnf)
      | (refine Br.mk (fun _ => ?_) (fun _ => ?_) <;> try conv => whnf))
        | (apply CallOp.id; first
      | (refine call_at rfl rfl rfl rfl rfl ?_)
      | (refine call_rd rfl rfl rfl rfl rfl ?_)
      | (refine CallOp.std ?_; (conv => whnf); fail_if_success refine (?_ : False)))
        | (apply CallDet.id; first
      | (refine call_atD rfl rfl rfl rfl rfl ?_)
      | (refine call_rdD rfl rfl rfl rfl rfl ?_)
      | (refine CallDet.std ?_; (conv => whnf); fail_if_success refine (?_ : False)))
        | (apply CallAt.id; first
      | (apply CallAt.mk1 (h1); conv => whnf)
      | (apply CallAt.mk1 (c_At _ _); conv => whnf))
        | (apply CallRd.id; first
      | (apply CallRd.mk1 (h1); (· rfl); conv => whnf)
      | (apply CallRd.mk1 (c_At _ _); (· rfl); conv => whnf))
        | (refine EndOk.mk (by kernel_rfl) ?_; conv => whnf)
        | (refine And.intro (by (first | decide | exact trivial | omega | exact Nat.le_refl _ | (((try simp only [decide_eq_true_eq, decide_eq_false_iff_not, cond_true, cond_false, beq_iff_eq, beq_eq_false_iff_ne, bne_iff_ne, bne_eq_false_iff_eq, ne_eq, Bool.not_eq_true', Bool.not_eq_false', Bool.not_eq_eq_eq_not, Bool.not_true, Bool.not_false, sLe_eq, Bool.and_eq_true, Bool.and_eq_false_iff, List.length_map, List.length_set, List.length_append, List.length_take, List.length_drop, List.length_replicate, List.length_cons, List.length_nil, lenMax, capMax, Int.toNat_natCast, gt_iff_lt, ge_iff_le] at *); (try simp (disch := omega) only [wr, wru, shr1, Int.tdiv_eq_ediv_of_nonneg] at *)); omega) | (((try simp only [decide_eq_true_eq, decide_eq_false_iff_not, cond_true, cond_false, beq_iff_eq, beq_eq_false_iff_ne, bne_iff_ne, bne_eq_false_iff_eq, ne_eq, Bool.not_eq_true', Bool.not_eq_false', Bool.not_eq_eq_eq_not, Bool.not_true, Bool.not_false, sLe_eq, Bool.and_eq_true, Bool.and_eq_false_iff, List.length_map, List.length_set, List.length_append, List.length_take, List.length_drop, List.length_replicate, List.length_cons, List.length_nil, lenMax, capMax, Int.toNat_natCast, gt_iff_lt, ge_iff_le] at *); (try simp (disch := omega) only [wr, wru, shr1, Int.tdiv_eq_ediv_of_nonneg] at *)); assumption))) ?_; conv => whnf)
        | (refine idxOld (by assumption) ?_; conv => whnf)
        | (refine idxMap (by (first | decide | exact trivial | omega | exact Nat.le_refl _ | (((try simp only [decide_eq_true_eq, decide_eq_false_iff_not, cond_true, cond_false, beq_iff_eq, beq_eq_false_iff_ne, bne_iff_ne, bne_eq_false_iff_eq, ne_eq, Bool.not_eq_true', Bool.not_eq_false', Bool.not_eq_eq_eq_not, Bool.not_true, Bool.not_false, sLe_eq, Bool.and_eq_true, Bool.and_eq_false_iff, List.length_map, List.length_set, List.length_append, List.length_take, List.length_drop, List.length_replicate, List.length_cons, List.length_nil, lenMax, capMax, Int.toNat_natCast, gt_iff_lt, ge_iff_le] at *); (try simp (disch := omega) only [wr, wru, shr1, Int.tdiv_eq_ediv_of_nonneg] at *)); omega) | (((try simp only [decide_eq_true_eq, decide_eq_false_iff_not, cond_true, cond_false, beq_iff_eq, beq_eq_false_iff_ne, bne_iff_ne, bne_eq_false_iff_eq, ne_eq, Bool.not_eq_true', Bool.not_eq_false', Bool.not_eq_eq_eq_not, Bool.not_true, Bool.not_false, sLe_eq, Bool.and_eq_true, Bool.and_eq_false_iff, List.length_map, List.length_set, List.length_append, List.length_take, List.length_drop, List.length_replicate, List.length_cons, List.length_nil, lenMax, capMax, Int.toNat_natCast, gt_iff_lt, ge_iff_le] at *); (try simp (disch := omega) only [wr, wru, shr1, Int.tdiv_eq_ediv_of_nonneg] at *)); assumption))) (fun _ _ => ?_); conv => whnf)
        | refine Exists.intro _ (And.intro (DV_toV rfl) ?_)
        | (refine rowSet (by (first | decide | exact trivial | omega | exact Nat.le_refl _ | (((try simp only [decide_eq_true_eq, decide_eq_false_iff_not, cond_true, cond_false, beq_iff_eq, beq_eq_false_iff_ne, bne_iff_ne, bne_eq_false_iff_eq, ne_eq, Bool.not_eq_true', Bool.not_eq_false', Bool.not_eq_eq_eq_not, Bool.not_true, Bool.not_false, sLe_eq, Bool.and_eq_true, Bool.and_eq_false_iff, List.length_map, List.length_set, List.length_append, List.length_take, List.length_drop, List.length_replicate, List.length_cons, List.length_nil, lenMax, capMax, Int.toNat_natCast, gt_iff_lt, ge_iff_le] at *); (try simp (disch := omega) only [wr, wru, shr1, Int.tdiv_eq_ediv_of_nonneg] at *)); omega) | (((try simp only [decide_eq_true_eq, decide_eq_false_iff_not, cond_true, cond_false, beq_iff_eq, beq_eq_false_iff_ne, bne_iff_ne, bne_eq_false_iff_eq, ne_eq, Bool.not_eq_true', Bool.not_eq_false', Bool.not_eq_eq_eq_not, Bool.not_true, Bool.not_false, sLe_eq, Bool.and_eq_true, Bool.and_eq_false_iff, List.length_map, List.length_set, List.length_append, List.length_take, List.length_drop, List.length_replicate, List.length_cons, List.length_nil, lenMax, capMax, Int.toNat_natCast, gt_iff_lt, ge_iff_le] at *); (try simp (disch := omega) only [wr, wru, shr1, Int.tdiv_eq_ediv_of_nonneg] at *)); assumption))) ?_; conv => whnf)
        | (refine rowOld (by assumption) ?_; conv => whnf)
        | (refine rowNew (by (first | decide | exact trivial | omega | exact Nat.le_refl _ | (((try simp only [decide_eq_true_eq, decide_eq_false_iff_not, cond_true, cond_false, beq_iff_eq, beq_eq_false_iff_ne, bne_iff_ne, bne_eq_false_iff_eq, ne_eq, Bool.not_eq_true', Bool.not_eq_false', Bool.not_eq_eq_eq_not, Bool.not_true, Bool.not_false, sLe_eq, Bool.and_eq_true, Bool.and_eq_false_iff, List.length_map, List.length_set, List.length_append, List.length_take, List.length_drop, List.length_replicate, List.length_cons, List.length_nil, lenMax, capMax, Int.toNat_natCast, gt_iff_lt, ge_iff_le] at *); (try simp (disch := omega) only [wr, wru, shr1, Int.tdiv_eq_ediv_of_nonneg] at *)); omega) | (((try simp only [decide_eq_true_eq, decide_eq_false_iff_not, cond_true, cond_false, beq_iff_eq, beq_eq_false_iff_ne, bne_iff_ne, bne_eq_false_iff_eq, ne_eq, Bool.not_eq_true', Bool.not_eq_false', Bool.not_eq_eq_eq_not, Bool.not_true, Bool.not_false, sLe_eq, Bool.and_eq_true, Bool.and_eq_false_iff, List.length_map, List.length_set, List.length_append, List.length_take, List.length_drop, List.length_replicate, List.length_cons, List.length_nil, lenMax, capMax, Int.toNat_natCast, gt_iff_lt, ge_iff_le] at *); (try simp (disch := omega) only [wr, wru, shr1, Int.tdiv_eq_ediv_of_nonneg] at *)); assumption))) (fun _ _ => ?_); conv => whnf)
        | (apply WpD.id; first
      | (refine WpD.loopAt 38 rfl (foS w z l true (8, -4)) (fun k => k = 0) (fun k => l.length - k) ?_ (fun k hk => ?_); rotate_left; dsimp only [foS])
      | (refine WpD.walk rfl ?_; conv => whnf))
      all_goals clear h1 h2
      all_goals ((try simp only [decide_eq_true_eq, decide_eq_false_iff_not, cond_true, cond_false, beq_iff_eq, beq_eq_false_iff_ne, bne_iff_ne, bne_eq_false_iff_eq, ne_eq, Bool.not_eq_true', Bool.not_eq_false', Bool.not_eq_eq_eq_not, Bool.not_true, Bool.not_false, sLe_eq, Bool.and_eq_true, Bool.and_eq_false_iff, List.length_map, List.length_set, List.length_append, List.length_take, List.length_drop, List.length_replicate, List.length_cons, List.length_nil, lenMax, capMax, Int.toNat_natCast, gt_iff_lt, ge_iff_le] at *); (try simp (disch := omega) only [wr, wru, shr1, Int.tdiv_eq_ediv_of_nonneg] at *))
      all_goals first
        | rfl
        | (exfalso; omega)
        | (refine ⟨0, [0, 1, 2, 3], rfl, ⟨by decide, rfl, ?_, ?_, rfl⟩⟩
           · (repeat' first | exact trivial | rfl | apply And.intro | (refine leInt rfl ?_; first | omega | (dsimp only; omega)) | (refine leArr rfl ?_ rfl; (simp; try omega)) | (refine leBool rfl ?_; assumption))
             done
           · (repeat' first | exact trivial | (refine obLe_v ?_; try dsimp only) | rfl | apply And.intro)
             done)
        | skip
      all_goals skip
    · have d0 : (cnt true w.g w.j == 0) = false := by simpa using hn
      simp only [cnt, Bool.false_eq_true, if_true, if_false] at d0
      refine callV_of Try.func33 rfl (Nat.le_of_ble_eq_true rfl) (by kernel_rfl) ?_
      repeat' first
        | (apply Br.id; first
      | (apply Br.tt; try conv => whnf)
      | (apply Br.ff; try conv => whnf)
      | (refine Br.of_t (by assumption) ?_; conv => whnf)
      | (refine Br.of_f (by assumption) ?_; conv => whnf)
      | (refine Br.mk (fun _ => ?_) (fun _ => ?_) <;> try conv => whnf))
        | (apply CallOp.id; first
      | (refine call_at rfl rfl rfl rfl rfl ?_)
      | (refine call_rd rfl rfl rfl rfl rfl ?_)
      | (refine CallOp.std ?_; (conv => whnf); fail_if_success refine (?_ : False)))
        | (apply CallDet.id; first
      | (refine call_atD rfl rfl rfl rfl rfl ?_)
      | (refine call_rdD rfl rfl rfl rfl rfl ?_)
      | (refine CallDet.std ?_; (conv => whnf); fail_if_success refine (?_ : False)))
        | (apply CallAt.id; first
      | (apply CallAt.mk1 (h1); conv => whnf)
      | (apply CallAt.mk1 (h2); conv => whnf)
      | (apply CallAt.mk1 (c_At _ _); conv => whnf)
      | (apply CallAt.mk1 (h3); conv => whnf))
        | (apply CallRd.id; first
      | (apply CallRd.mk1 (h1); (· rfl); conv => whnf)
      | (apply CallRd.mk1 (h2); (· rfl); conv => whnf)
      | (apply CallRd.mk1 (c_At _ _); (· rfl); conv => whnf)
      | (apply CallRd.mk1 (h3); (· rfl); conv => whnf))
        | (refine EndOk.mk (by kernel_rfl) ?_; conv => whnf)
        | (refine And.intro (by (first | decide | exact trivial | omega | exact Nat.le_refl _ | (((try simp only [decide_eq_true_eq, decide_eq_false_iff_not, cond_true, cond_false, beq_iff_eq, beq_eq_false_iff_ne, bne_iff_ne, bne_eq_false_iff_eq, ne_eq, Bool.not_eq_true', Bool.not_eq_false', Bool.not_eq_eq_eq_not, Bool.not_true, Bool.not_false, sLe_eq, Bool.and_eq_true, Bool.and_eq_false_iff, List.length_map, List.length_set, List.length_append, List.length_take, List.length_drop, List.length_replicate, List.length_cons, List.length_nil, lenMax, capMax, Int.toNat_natCast, gt_iff_lt, ge_iff_le] at *); (try simp (disch := omega) only [wr, wru, shr1, Int.tdiv_eq_ediv_of_nonneg] at *)); omega) | (((try simp only [decide_eq_true_eq, decide_eq_false_iff_not, cond_true, cond_false, beq_iff_eq, beq_eq_false_iff_ne, bne_iff_ne, bne_eq_false_iff_eq, ne_eq, Bool.not_eq_true', Bool.not_eq_false', Bool.not_eq_eq_eq_not, Bool.not_true, Bool.not_false, sLe_eq, Bool.and_eq_true, Bool.and_eq_false_iff, List.length_map, List.length_set, List.length_append, List.length_take, List.length_drop, List.length_replicate, List.length_cons, List.length_nil, lenMax, capMax, Int.toNat_natCast, gt_iff_lt, ge_iff_le] at *); (try simp (disch := omega) only [wr, wru, shr1, Int.tdiv_eq_ediv_of_nonneg] at *)); assumption))) ?_; conv => whnf)
        | (refine idxOld (by assumption) ?_; conv => whnf)
        | (refine idxMap (by (first | decide | exact trivial | omega | exact Nat.le_refl _ | (((try simp only [decide_eq_true_eq, decide_eq_false_iff_not, cond_true, cond_false, beq_iff_eq, beq_eq_false_iff_ne, bne_iff_ne, bne_eq_false_iff_eq, ne_eq, Bool.not_eq_true', Bool.not_eq_false', Bool.not_eq_eq_eq_not, Bool.not_true, Bool.not_false, sLe_eq, Bool.and_eq_true, Bool.and_eq_false_iff, List.length_map, List.length_set, List.length_append, List.length_take, List.length_drop, List.length_replicate, List.length_cons, List.length_nil, lenMax, capMax, Int.toNat_natCast, gt_iff_lt, ge_iff_le] at *); (try simp (disch := omega) only [wr, wru, shr1, Int.tdiv_eq_ediv_of_nonneg] at *)); omega) | (((try simp only [decide_eq_true_eq, decide_eq_false_iff_not, cond_true, cond_false, beq_iff_eq, beq_eq_false_iff_ne, bne_iff_ne, bne_eq_false_iff_eq, ne_eq, Bool.not_eq_true', Bool.not_eq_false', Bool.not_eq_eq_eq_not, Bool.not_true, Bool.not_false, sLe_eq, Bool.and_eq_true, Bool.and_eq_false_iff, List.length_map, List.length_set, List.length_append, List.length_take, List.length_drop, List.length_replicate, List.length_cons, List.length_nil, lenMax, capMax, Int.toNat_natCast, gt_iff_lt, ge_iff_le] at *); (try simp (disch := omega) only [wr, wru, shr1, Int.tdiv_eq_ediv_of_nonneg] at *)); assumption))) (fun _ _ => ?_); conv => whnf)
        | refine Exists.intro _ (And.intro (DV_toV rfl) ?_)
        | (refine rowSet (by (first | decide | exact trivial | omega | exact Nat.le_refl _ | (((try simp only [decide_eq_true_eq, decide_eq_false_iff_not, cond_true, cond_false, beq_iff_eq, beq_eq_false_iff_ne, bne_iff_ne, bne_eq_false_iff_eq, ne_eq, Bool.not_eq_true', Bool.not_eq_false', Bool.not_eq_eq_eq_not, Bool.not_true, Bool.not_false, sLe_eq, Bool.and_eq_true, Bool.and_eq_false_iff, List.length_map, List.length_set, List.length_append, List.length_take, List.length_drop, List.length_replicate, List.length_cons, List.length_nil, lenMax, capMax, Int.toNat_natCast, gt_iff_lt, ge_iff_le] at *); (try simp (disch := omega) only [wr, wru, shr1, Int.tdiv_eq_ediv_of_nonneg] at *)); omega) | (((try simp only [decide_eq_true_eq, decide_eq_false_iff_not, cond_true, cond_false, beq_iff_eq, beq_eq_false_iff_ne, bne_iff_ne, bne_eq_false_iff_eq, ne_eq, Bool.not_eq_true', Bool.not_eq_false', Bool.not_eq_eq_eq_not, Bool.not_true, Bool.not_false, sLe_eq, Bool.and_eq_true, Bool.and_eq_false_iff, List.length_map, List.length_set, List.length_append, List.length_take, List.length_drop, List.length_replicate, List.length_cons, List.length_nil, lenMax, capMax, Int.toNat_natCast, gt_iff_lt, ge_iff_le] at *); (try simp (disch := omega) only [wr, wru, shr1, Int.tdiv_eq_ediv_of_nonneg] at *)); assumption))) ?_; conv => whnf)
        | (refine rowOld (by assumption) ?_; conv => whnf)
        | (refine rowNew (by (first | decide | exact trivial | omega | exact Nat.le_refl _ | (((try simp only [decide_eq_true_eq, decide_eq_false_iff_not, cond_true, cond_false, beq_iff_eq, beq_eq_false_iff_ne, bne_iff_ne, bne_eq_false_iff_eq, ne_eq, Bool.not_eq_true', Bool.not_eq_false', Bool.not_eq_eq_eq_not, Bool.not_true, Bool.not_false, sLe_eq, Bool.and_eq_true, Bool.and_eq_false_iff, List.length_map, List.length_set, List.length_append, List.length_take, List.length_drop, List.length_replicate, List.length_cons, List.length_nil, lenMax, capMax, Int.toNat_natCast, gt_iff_lt, ge_iff_le] at *); (try simp (disch := omega) only [wr, wru, shr1, Int.tdiv_eq_ediv_of_nonneg] at *)); omega) | (((try simp only [decide_eq_true_eq, decide_eq_false_iff_not, cond_true, cond_false, beq_iff_eq, beq_eq_false_iff_ne, bne_iff_ne, bne_eq_false_iff_eq, ne_eq, Bool.not_eq_true', Bool.not_eq_false', Bool.not_eq_eq_eq_not, Bool.not_true, Bool.not_false, sLe_eq, Bool.and_eq_true, Bool.and_eq_false_iff, List.length_map, List.length_set, List.length_append, List.length_take, List.length_drop, List.length_replicate, List.length_cons, List.length_nil, lenMax, capMax, Int.toNat_natCast, gt_iff_lt, ge_iff_le] at *); (try simp (disch := omega) only [wr, wru, shr1, Int.tdiv_eq_ediv_of_nonneg] at *)); assumption))) (fun _ _ => ?_); conv => whnf)
        | (apply WpD.id; first
      | (refine WpD.loopAt 49 rfl (fiS w z l true s k) (fun i => i ≤ w.l.length) (fun i => w.l.length - i) ?_ (fun i hi => ?_); rotate_left; dsimp only [fiS])
      | (refine WpD.loopAt 38 rfl (fun k => foS w z l true (nfE true w.l (l.take k)) k) (fun k => k ≤ l.length) (fun k => l.length - k) ?_ (fun k hk => ?_); rotate_left; rcases hE : nfI true w.l (l.take k) with _ | j; (have he : nfE true w.l (l.take k) = (0, 0) := by unfold nfE; rw [hE]); rcases Nat.lt_or_ge k l.length with hlt | hge; (obtain ⟨s, hs⟩ : ∃ s, l[k]? = some s := ⟨_, List.getElem?_eq_getElem hlt⟩); (have hs0 : l[((k : Nat) : Int).toNat]? = some s := hs); (have dk : decide ((k : Int) < (l.length : Int)) = true := by { simp; omega }); rw [he]; dsimp only [foS]; rotate_left; (have dk : decide ((k : Int) < (l.length : Int)) = false := by { simp; omega }); rw [he]; dsimp only [foS]; rotate_left; (have he : nfE true w.l (l.take k) = (6, -10 - (j : Int)) := by unfold nfE; rw [hE]); rw [he]; dsimp only [foS]; rotate_left)
      | (refine WpD.walk rfl ?_; conv => whnf))
        | (exfalso; simp only [decide_eq_true_eq, decide_eq_false_iff_not] at *; omega)
      all_goals clear h1 h2 h3
      all_goals ((try simp only [decide_eq_true_eq, decide_eq_false_iff_not, cond_true, cond_false, beq_iff_eq, beq_eq_false_iff_ne, bne_iff_ne, bne_eq_false_iff_eq, ne_eq, Bool.not_eq_true', Bool.not_eq_false', Bool.not_eq_eq_eq_not, Bool.not_true, Bool.not_false, sLe_eq, Bool.and_eq_true, Bool.and_eq_false_iff, List.length_map, List.length_set, List.length_append, List.length_take, List.length_drop, List.length_replicate, List.length_cons, List.length_nil, lenMax, capMax, Int.toNat_natCast, gt_iff_lt, ge_iff_le] at *); (try simp (disch := omega) only [wr, wru, shr1, Int.tdiv_eq_ediv_of_nonneg] at *))
      all_goals try rename w.l[_]? = some _ => hx
      all_goals first
        | (refine ⟨0, [0, 1, 2, 3], Nat.zero_le _, ⟨by decide, rfl, ?_, ?_, rfl⟩⟩
           · (repeat' first | exact trivial | rfl | apply And.intro | (refine leInt rfl ?_; first | omega | (dsimp only; omega)) | (refine leArr rfl ?_ rfl; (simp; try omega)) | (refine leBool rfl ?_; assumption))
             done
           · (repeat' first | exact trivial | (refine obLe_v ?_; try dsimp only) | rfl | apply And.intro)
             done)
        | (refine ⟨0, [0, 1, 2, 3], Nat.zero_le _, ⟨by decide, rfl, ?_, ?_, rfl⟩⟩
           · (repeat' first | exact trivial | rfl | apply And.intro | (refine leInt rfl ?_; simp; done) | (refine leBool rfl ?_; simp; done))
             done
           · refine ⟨obLe_v rfl, obLe_v rfl, obLe_v rfl, obLe_v ?_, trivial⟩
             simp [nfE, nfI]
             done)
        | (exfalso; omega)
        | (have hth := any_next (junk := true) (s := s) hx
           refine ⟨i + 1, [0, 1, 2, 3], by omega, ⟨⟨by decide, rfl, ?_, ?_, rfl⟩, by omega⟩⟩
           · (repeat' first | exact trivial | rfl | apply And.intro | (refine leInt rfl ?_; (try dsimp only); omega) | (refine leBool rfl ?_; (try dsimp only); rw [hth, thP_eq]; simp [*, cnt]; done))
             done
           · (repeat' first | exact trivial | (refine obLe_v ?_; try dsimp only) | rfl | apply And.intro)
             done)
        | (have hfin : nfI true w.l l = none := by rw [← hE, List.take_of_length_le (by omega)]
           rename ¬((wF _).fst = 0) => hwf
           rw [(fgt_mrg how hsl hfin).1] at hwf
           have ho : (fgtL w l true).any (ovT (upW w true (-1)).g (upW w true (-1)).j) = true := by
             cases hb : (fgtL w l true).any (ovT (upW w true (-1)).g (upW w true (-1)).j) with
             | true => rfl
             | false => exact absurd ((fgt_fault how hsl hfin hn).2 (by rw [hb]; simp)) (wF_1.2 hwf)
           rw [fgtA_ov hc hn hfin ho]
           rfl)
        | (have hfin : nfI true w.l l = none := by rw [← hE, List.take_of_length_le (by omega)]
           rename (wF _).fst = 0 => hwf
           rw [(fgt_mrg how hsl hfin).1] at hwf ⊢
           rw [fgtA_ok hc hn hfin ((fgt_fault how hsl hfin hn).1 (wF_0 hwf))]
           rfl)
        | (rw [fgtA_nf hc hn (nfI_take hE)]; rfl)
        | (rename (List.take i w.l).any _ = true => ha
           rw [show i = w.l.length by omega, List.take_length, thP_has how] at ha
           have hn' := nfE_yes hs hE ha
           have he' : nfE true w.l (l.take (k + 1)) = (0, 0) := by unfold nfE; rw [hn']
           refine ⟨k + 1, [0, 1, 2, 3], by omega, ⟨⟨by decide, rfl, ?_, ?_, rfl⟩, by omega⟩⟩
           · (repeat' first | exact trivial | rfl | apply And.intro | (refine leInt rfl ?_; first | omega | (dsimp only; omega)) | (refine leArr rfl ?_ rfl; (simp; try omega)) | (refine leBool rfl ?_; assumption))
             done
           · rw [he']
             (repeat' first | exact trivial | (refine obLe_v ?_; try dsimp only) | rfl | apply And.intro)
             done)
        | (rename (List.take i w.l).any _ = false => ha
           rw [show i = w.l.length by omega, List.take_length, thP_has how] at ha
           have hn' := nfE_no hs hE ha
           have he' : nfE true w.l (l.take (k + 1)) = (6, -10 - (k : Int)) := by unfold nfE; rw [hn']
           refine ⟨k + 1, [0, 1, 2, 3], by omega, ⟨⟨by decide, rfl, ?_, ?_, rfl⟩, by omega⟩⟩
           · (repeat' first | exact trivial | rfl | apply And.intro | (refine leInt rfl ?_; first | omega | (dsimp only; omega)) | (refine leArr rfl ?_ rfl; (simp; try omega)) | (refine leBool rfl ?_; assumption))
             done
           · rw [he']
             (repeat' first | exact trivial | (refine obLe_v ?_; try dsimp only) | rfl | apply And.intro)
             done)
        | skip
      all_goals skip
  · have hc1 : (cF w l).1 ≠ 0 := fun e => hc (by
      unfold cF at e ⊢
      split
      · rename_i h; rw [if_pos h] at e; exact absurd (wF_0 e) h
      · rename_i h; rw [if_neg h] at e; exact tF_0 e)
    have d1 : ((cF w l).1 == 0) = false := by simpa using hc1
    rw [fgtA_bad hc]
    refine callV_of Try.func33 rfl (Nat.le_of_ble_eq_true rfl) (by kernel_rfl) ?_
    repeat' first
      | (apply Br.id; first
      | (apply Br.tt; try conv => whnf)
      | (apply Br.ff; try conv => whnf)
      | (refine Br.of_t (by assumption) ?_; conv => whnf)
      | (refine Br.of_f (by assumption) ?_; conv => whnf)
      | (refine Br.mk (fun _ => ?_) (fun _ => ?_) <;> try conv => whnf))
      | (apply CallOp.id; first
      | (refine call_at rfl rfl rfl rfl rfl ?_)
      | (refine call_rd rfl rfl rfl rfl rfl ?_)
      | (refine CallOp.std ?_; (conv => whnf); fail_if_success refine (?_ : False)))
      | (apply CallDet.id; first
      | (refine call_atD rfl rfl rfl rfl rfl ?_)
      | (refine call_rdD rfl rfl rfl rfl rfl ?_)
      | (refine CallDet.std ?_; (conv => whnf); fail_if_success refine (?_ : False)))
      | (apply CallAt.id; first
      | (apply CallAt.mk1 (h1); conv => whnf)
      | (apply CallAt.mk1 (c_At _ _); conv => whnf))
      | (apply CallRd.id; first
      | (apply CallRd.mk1 (h1); (· rfl); conv => whnf)
      | (apply CallRd.mk1 (c_At _ _); (· rfl); conv => whnf))
      | (refine EndOk.mk (by kernel_rfl) ?_; conv => whnf)
      | (refine And.intro (by (first | decide | exact trivial | omega | exact Nat.le_refl _ | (((try simp only [decide_eq_true_eq, decide_eq_false_iff_not, cond_true, cond_false, beq_iff_eq, beq_eq_false_iff_ne, bne_iff_ne, bne_eq_false_iff_eq, ne_eq, Bool.not_eq_true', Bool.not_eq_false', Bool.not_eq_eq_eq_not, Bool.not_true, Bool.not_false, sLe_eq, Bool.and_eq_true, Bool.and_eq_false_iff, List.length_map, List.length_set, List.length_append, List.length_take, List.length_drop, List.length_replicate, List.length_cons, List.length_nil, lenMax, capMax, Int.toNat_natCast, gt_iff_lt, ge_iff_le] at *); (try simp (disch := omega) only [wr, wru, shr1, Int.tdiv_eq_ediv_of_nonneg] at *)); omega) | (((try simp only [decide_eq_true_eq, decide_eq_false_iff_not, cond_true, cond_false, beq_iff_eq, beq_eq_false_iff_ne, bne_iff_ne, bne_eq_false_iff_eq, ne_eq, Bool.not_eq_true', Bool.not_eq_false', Bool.not_eq_eq_eq_not, Bool.not_true, Bool.not_false, sLe_eq, Bool.and_eq_true, Bool.and_eq_false_iff, List.length_map, List.length_set, List.length_append, List.length_take, List.length_drop, List.length_replicate, List.length_cons, List.length_nil, lenMax, capMax, Int.toNat_natCast, gt_iff_lt, ge_iff_le] at *); (try simp (disch := omega) only [wr, wru, shr1, Int.tdiv_eq_ediv_of_nonneg] at *)); assumption))) ?_; conv => whnf)
      | (refine idxOld (by assumption) ?_; conv => whnf)
      | (refine idxMap (by (first | decide | exact trivial | omega | exact Nat.le_refl _ | (((try simp only [decide_eq_true_eq, decide_eq_false_iff_not, cond_true, cond_false, beq_iff_eq, beq_eq_false_iff_ne, bne_iff_ne, bne_eq_false_iff_eq, ne_eq, Bool.not_eq_true', Bool.not_eq_false', Bool.not_eq_eq_eq_not, Bool.not_true, Bool.not_false, sLe_eq, Bool.and_eq_true, Bool.and_eq_false_iff, List.length_map, List.length_set, List.length_append, List.length_take, List.length_drop, List.length_replicate, List.length_cons, List.length_nil, lenMax, capMax, Int.toNat_natCast, gt_iff_lt, ge_iff_le] at *); (try simp (disch := omega) only [wr, wru, shr1, Int.tdiv_eq_ediv_of_nonneg] at *)); omega) | (((try simp only [decide_eq_true_eq, decide_eq_false_iff_not, cond_true, cond_false, beq_iff_eq, beq_eq_false_iff_ne, bne_iff_ne, bne_eq_false_iff_eq, ne_eq, Bool.not_eq_true', Bool.not_eq_false', Bool.not_eq_eq_eq_not, Bool.not_true, Bool.not_false, sLe_eq, Bool.and_eq_true, Bool.and_eq_false_iff, List.length_map, List.length_set, List.length_append, List.length_take, List.length_drop, List.length_replicate, List.length_cons, List.length_nil, lenMax, capMax, Int.toNat_natCast, gt_iff_lt, ge_iff_le] at *); (try simp (disch := omega) only [wr, wru, shr1, Int.tdiv_eq_ediv_of_nonneg] at *)); assumption))) (fun _ _ => ?_); conv => whnf)
      | refine Exists.intro _ (And.intro (DV_toV rfl) ?_)
      | (refine rowSet (by (first | decide | exact trivial | omega | exact Nat.le_refl _ | (((try simp only [decide_eq_true_eq, decide_eq_false_iff_not, cond_true, cond_false, beq_iff_eq, beq_eq_false_iff_ne, bne_iff_ne, bne_eq_false_iff_eq, ne_eq, Bool.not_eq_true', Bool.not_eq_false', Bool.not_eq_eq_eq_not, Bool.not_true, Bool.not_false, sLe_eq, Bool.and_eq_true, Bool.and_eq_false_iff, List.length_map, List.length_set, List.length_append, List.length_take, List.length_drop, List.length_replicate, List.length_cons, List.length_nil, lenMax, capMax, Int.toNat_natCast, gt_iff_lt, ge_iff_le] at *); (try simp (disch := omega) only [wr, wru, shr1, Int.tdiv_eq_ediv_of_nonneg] at *)); omega) | (((try simp only [decide_eq_true_eq, decide_eq_false_iff_not, cond_true, cond_false, beq_iff_eq, beq_eq_false_iff_ne, bne_iff_ne, bne_eq_false_iff_eq, ne_eq, Bool.not_eq_true', Bool.not_eq_false', Bool.not_eq_eq_eq_not, Bool.not_true, Bool.not_false, sLe_eq, Bool.and_eq_true, Bool.and_eq_false_iff, List.length_map, List.length_set, List.length_append, List.length_take, List.length_drop, List.length_replicate, List.length_cons, List.length_nil, lenMax, capMax, Int.toNat_natCast, gt_iff_lt, ge_iff_le] at *); (try simp (disch := omega) only [wr, wru, shr1, Int.tdiv_eq_ediv_of_nonneg] at *)); assumption))) ?_; conv => whnf)
      | (refine rowOld (by assumption) ?_; conv => whnf)
      | (refine rowNew (by (first | decide | exact trivial | omega | exact Nat.le_refl _ | (((try simp only [decide_eq_true_eq, decide_eq_false_iff_not, cond_true, cond_false, beq_iff_eq, beq_eq_false_iff_ne, bne_iff_ne, bne_eq_false_iff_eq, ne_eq, Bool.not_eq_true', Bool.not_eq_false', Bool.not_eq_eq_eq_not, Bool.not_true, Bool.not_false, sLe_eq, Bool.and_eq_true, Bool.and_eq_false_iff, List.length_map, List.length_set, List.length_append, List.length_take, List.length_drop, List.length_replicate, List.length_cons, List.length_nil, lenMax, capMax, Int.toNat_natCast, gt_iff_lt, ge_iff_le] at *); (try simp (disch := omega) only [wr, wru, shr1, Int.tdiv_eq_ediv_of_nonneg] at *)); omega) | (((try simp only [decide_eq_true_eq, decide_eq_false_iff_not, cond_true, cond_false, beq_iff_eq, beq_eq_false_iff_ne, bne_iff_ne, bne_eq_false_iff_eq, ne_eq, Bool.not_eq_true', Bool.not_eq_false', Bool.not_eq_eq_eq_not, Bool.not_true, Bool.not_false, sLe_eq, Bool.and_eq_true, Bool.and_eq_false_iff, List.length_map, List.length_set, List.length_append, List.length_take, List.length_drop, List.length_replicate, List.length_cons, List.length_nil, lenMax, capMax, Int.toNat_natCast, gt_iff_lt, ge_iff_le] at *); (try simp (disch := omega) only [wr, wru, shr1, Int.tdiv_eq_ediv_of_nonneg] at *)); assumption))) (fun _ _ => ?_); conv => whnf)
      | (apply WpD.id; first
      | (refine WpD.loopAt 38 rfl (foS w z l true (cF w l)) (fun k => k = 0) (fun k => l.length - k) ?_ (fun k hk => ?_); rotate_left; dsimp only [foS])
      | (refine WpD.walk rfl ?_; conv => whnf))
    all_goals clear h1
    all_goals ((try simp only [decide_eq_true_eq, decide_eq_false_iff_not, cond_true, cond_false, beq_iff_eq, beq_eq_false_iff_ne, bne_iff_ne, bne_eq_false_iff_eq, ne_eq, Bool.not_eq_true', Bool.not_eq_false', Bool.not_eq_eq_eq_not, Bool.not_true, Bool.not_false, sLe_eq, Bool.and_eq_true, Bool.and_eq_false_iff, List.length_map, List.length_set, List.length_append, List.length_take, List.length_drop, List.length_replicate, List.length_cons, List.length_nil, lenMax, capMax, Int.toNat_natCast, gt_iff_lt, ge_iff_le] at *); (try simp (disch := omega) only [wr, wru, shr1, Int.tdiv_eq_ediv_of_nonneg] at *))
    all_goals first
      | rfl
      | (exfalso; omega)
      | (refine ⟨0, [0, 1, 2, 3], rfl, ⟨by decide, rfl, ?_, ?_, rfl⟩⟩
         · (repeat' first | exact trivial | rfl | apply And.intro | (refine leInt rfl ?_; first | omega | (dsimp only; omega)) | (refine leArr rfl ?_ rfl; (simp; try omega)) | (refine leBool rfl ?_; assumption))
           done
         · (repeat' first | exact trivial | (refine obLe_v ?_; try dsimp only) | rfl | apply And.intro)
           done)
      | skip
    all_goals skip
end Go.DL
