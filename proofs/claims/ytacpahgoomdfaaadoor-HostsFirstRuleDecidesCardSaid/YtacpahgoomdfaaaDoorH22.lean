/- Hosts: reading what is written, with no program in sight. No condition. -/
import Derived.Test.YtacpahgoomdfaaaDoorH20
set_option linter.unusedVariables false
set_option linter.unusedSimpArgs false
set_option maxHeartbeats 1000000
namespace Go.DL
open Go.Proofs

def rT (x : Rl) : List UInt8 := sgb x.r :: (tl (wrd x.k) ++ tl x.n)
theorem tl_addR (out : ByteArray) (x : Rl) : tl (addR out x) = tl out ++ 32 :: rT x := by
  unfold addR rT
  rw [tl_app, tl_app, tl_app, tl_app, tl_sgn]
  simp [show tl sp = [32] from rfl]
theorem tl_fold : ∀ (l : List Rl) (d : ByteArray), tl (l.foldl addR d) = tl d ++ l.flatMap (fun x => 32 :: rT x)
  | [], d => by simp
  | x :: l, d => by
    rw [List.foldl_cons, tl_fold l, tl_addR]
    simp
theorem nmB_no {s : ByteArray} (h : nmB s = true) : ∀ c ∈ tl s, c ≠ 32 := by
  intro c hc e
  subst e
  unfold nmB at h
  simp only [Bool.and_eq_true, List.all_eq_true] at h
  have := h.2 32 hc
  exact absurd this (by decide)
theorem wrd_no {k : Int} : ∀ c ∈ tl (wrd k), c ≠ 32 := by
  unfold wrd
  (repeat' split) <;> decide
theorem sgb_no (r : Int) : sgb r ≠ 32 := by
  unfold sgb
  (repeat' split) <;> decide
structure rOK (x : Rl) : Prop where
  r : 1 ≤ x.r ∧ x.r ≤ 4
  k : 1 ≤ x.k ∧ x.k ≤ 4
  n : ∀ c ∈ tl x.n, c ≠ 32
theorem rF_rOK {x : Rl} (h : rF x = 0) : rOK x := by
  unfold rF at h
  split at h
  · simp at h
  · rename_i h1
    split at h
    · simp at h
    · rename_i h2
      refine ⟨by omega, by omega, ?_⟩
      split at h
      · split at h
        · rename_i h3; rw [h3]; intro c hc; exact absurd hc (by simp [show tl e0 = [] from rfl])
        · simp at h
      · split at h
        · rename_i h3; exact nmB_no h3
        · simp at h
theorem rT_no {x : Rl} (h : rF x = 0) : ∀ c ∈ rT x, c ≠ 32 := by
  intro c hc
  unfold rT at hc
  rcases List.mem_cons.1 hc with rfl | hc
  · exact sgb_no _
  · rcases List.mem_append.1 hc with hc | hc
    · exact wrd_no c hc
    · exact (rF_rOK h).n c hc
theorem spl_join : ∀ (l : List Rl) (u : List UInt8), (∀ x ∈ l, rF x = 0) → (∀ c ∈ u, c ≠ 32) → spl (u ++ l.flatMap (fun x => 32 :: rT x)) = u :: l.map rT
  | [], u, _, hu => by simp [spl_no hu]
  | x :: l, u, hl, hu => by
    rw [List.flatMap_cons, List.cons_append, spl_at hu, spl_join l (rT x) (fun y hy => hl y (List.mem_cons_of_mem _ hy)) (rT_no (hl x List.mem_cons_self))]
    rfl
theorem tl_hd (r k : Int) : tl (hd r k) = sgb r :: tl (wrd k) := by
  unfold hd; rw [tl_app, tl_sgn]; rfl
theorem rule_txt {x : Rl} (h : rF x = 0) : ruleF (ofL (rT x)) = (x, true) := by
  have ho := rF_rOK h
  have hp : preB (hd x.r x.k) (ofL (rT x)) = true := preB_iff.2 ⟨tl x.n, by rw [tl_ofL, tl_hd]; rfl⟩
  have hn : ∀ j : Int, 1 ≤ j → j < x.k → preB (hd x.r j) (ofL (rT x)) = false := by
    intro j hj1 hj2
    cases hc : preB (hd x.r j) (ofL (rT x)) with
    | false => rfl
    | true =>
      exfalso
      obtain ⟨u, hu⟩ := preB_iff.1 hc
      rw [tl_ofL, tl_hd] at hu
      unfold rT at hu
      have hk := ho.k
      rw [List.cons_append] at hu
      injection hu with _ hu
      have hx : x.k = 2 ∨ x.k = 3 ∨ x.k = 4 := by omega
      have hj : j = 1 ∨ j = 2 ∨ j = 3 := by omega
      have w1 : tl (wrd 1) = [97, 108, 108] := rfl
      have w2 : tl (wrd 2) = [105, 115, 58] := rfl
      have w3 : tl (wrd 3) = [117, 110, 100, 101, 114, 58] := rfl
      have w4 : tl (wrd 4) = [105, 110, 99, 108, 117, 100, 101, 58] := rfl
      rcases hx with e | e | e <;> rw [e] at hu hj2 <;> rcases hj with rfl | rfl | rfl <;> first | omega | (simp [w1, w2, w3, w4] at hu)
  have e : (ofL (rT x)).extract (hd x.r x.k).size (ofL (rT x)).size = x.n := by
    apply tl_inj
    rw [tl_all _ (Nat.le_refl _), tl_ofL, ← tl_len (hd x.r x.k), tl_hd]
    unfold rT
    rw [← List.cons_append, List.drop_left]
  have := ruleF_at ho.r ho.k hp hn
  rw [e] at this
  rw [this]
  have hx : (⟨x.r, x.k, x.n⟩ : Rl) = x := rfl
  rw [hx, h]
  rfl
theorem pF_all {p : Pl} (h : pF p = (0, 0)) : nmB p.d = true ∧ p.l.length ≤ 60 ∧ ∀ x ∈ p.l, rF x = 0 := by
  unfold pF at h
  split at h
  · simp at h
  · rename_i h1
    split at h
    · simp at h
    · rename_i h2
      rw [vfl_ok] at h
      refine ⟨by simpa using h1, by omega, fun x hx => ?_⟩
      obtain ⟨i, hi, e⟩ := List.mem_iff_getElem.1 hx
      exact h i x (by rw [List.getElem?_eq_getElem hi, e])
theorem cut_txt {p : Pl} (h : pF p = (0, 0)) : cutS (pText p) = p.d :: p.l.map fun x => ofL (rT x) := by
  obtain ⟨h1, h2, h3⟩ := pF_all h
  unfold cutS pText
  rw [tl_fold, spl_join _ _ h3 (nmB_no h1)]
  simp [ofL_tl]
theorem par_txt {p : Pl} (h : pF p = (0, 0)) (hs : ¬ 4000 < (pText p).size) : parF (pText p) = (⟨p.d, false, p.l⟩, (0, 0)) := by
  obtain ⟨h1, h2, h3⟩ := pF_all h
  unfold parF
  rw [if_neg hs, cut_txt h]
  dsimp only
  rw [parT_ok h1, if_neg (by rw [List.length_map]; omega)]
  · have : rls (p.l.map fun x => ofL (rT x)) = p.l := by
      unfold rls
      rw [List.map_map]
      conv => rhs; rw [← List.map_id p.l]
      apply List.map_congr_left
      intro x hx
      simp [rule_txt (h3 x hx)]
    rw [this]
  · intro j u _ hu
    rw [List.getElem?_map] at hu
    cases hx : p.l[j]? with
    | none => rw [hx] at hu; simp at hu
    | some x =>
      rw [hx] at hu
      simp at hu
      rw [← hu]
      unfold badR
      rw [rule_txt (h3 x (List.mem_of_getElem? hx))]; rfl
theorem spl_inv : ∀ {l u : List UInt8} {v : List (List UInt8)}, spl l = u :: v → l = u ++ v.flatMap (fun x => 32 :: x)
  | [], u, v, h => by simp [spl] at h; obtain ⟨rfl, rfl⟩ := h; rfl
  | c :: l, u, v, h => by
    unfold spl at h
    split at h
    · rename_i hc
      injection h with h1 h2
      subst h1 h2 hc
      cases hs : spl l with
      | nil => exact absurd hs (spl_ne l)
      | cons a b =>
        have := spl_inv hs
        rw [List.flatMap_cons, ← List.append_assoc] at *
        simp [← this]
    · split at h
      · rename_i hs; exact absurd hs (spl_ne l)
      · rename_i a b hs
        injection h with h1 h2
        subst h1 h2
        have := spl_inv hs
        rw [List.cons_append, ← this]
theorem rule_inv {u : ByteArray} (h : badR u = false) : rT (ruleF u).1 = tl u := by
  unfold badR at h
  have h2 : (ruleF u).2 = true := by simpa using h
  unfold ruleF at h2 ⊢
  split at h2
  · simp at h2
  · rename_i hn
    rw [if_neg hn]
    have hs : 0 ≤ sgI u := by omega
    obtain ⟨a, b, c⟩ := sgI_inv hs
    have h1 := sgI_sz hs
    unfold rT rlOf
    dsimp only
    rw [tl_1 h1, c]
    congr 1
    have hk : preB (wrd (kdF (u.extract 1 u.size))) (u.extract 1 u.size) = true := by
      have hk0 : kdF (u.extract 1 u.size) ≠ 0 := fun e => hn (.inr e)
      generalize u.extract 1 u.size = s at hk0 ⊢
      unfold kdF at hk0 ⊢
      split
      · assumption
      · split
        · assumption
        · split
          · assumption
          · split
            · assumption
            · simp_all
    obtain ⟨v, hv⟩ := preB_iff.1 hk
    rw [tl_all _ (Nat.le_refl _), hv, ← tl_len (wrd _), List.drop_left]
theorem print_par {t : ByteArray} (h : (parF t).2.1 = 0) : prA (parF t).1 = (t, (0, 0)) := by
  unfold parF at h ⊢
  split at h
  · simp at h
  · rename_i ht
    rw [if_neg ht]
    obtain ⟨d, rs, hc⟩ := cut_cons t
    rw [hc] at h ⊢
    dsimp only at h ⊢
    have hd : nmB d = true := by
      cases e : nmB d with
      | true => rfl
      | false => unfold parT at h; rw [if_pos e] at h; simp at h
    have hb : ∀ u ∈ rs, badR u = false := by
      cases e : rs.findIdx? badR with
      | some i => unfold parT at h; rw [if_neg (by simp [hd]), e] at h; simp at h
      | none => rw [List.findIdx?_eq_none_iff] at e; intro u hu; simpa using e u hu
    have hb2 : ∀ j u, j < rs.length → rs[j]? = some u → badR u = false := fun j u _ hu => hb u (List.mem_of_getElem? hu)
    rw [parT_ok hd hb2] at h ⊢
    have hl : ¬ 60 < rs.length := by
      intro hl
      rw [if_pos hl] at h; simp at h
    rw [if_neg hl]
    dsimp only
    have e := pF_par (z := false) hd hb
    rw [if_neg hl] at e
    have hp : pText ⟨d, false, rls rs⟩ = t := by
      apply tl_inj
      unfold pText
      dsimp only
      rw [tl_fold]
      unfold cutS at hc
      cases hs : spl (tl t) with
      | nil => exact absurd hs (spl_ne _)
      | cons a b =>
        rw [hs] at hc
        injection hc with hc1 hc2
        rw [spl_inv hs, ← hc1, tl_ofL]
        congr 1
        have : b = rs.map tl := by rw [← hc2, List.map_map]; conv => lhs; rw [← List.map_id b]
                                   apply List.map_congr_left; intro x _; simp [tl_ofL]
        rw [this, List.flatMap_map]
        unfold rls
        rw [List.flatMap_map]
        have : ∀ l : List ByteArray, (∀ u ∈ l, badR u = false) → l.flatMap (fun a => 32 :: rT (ruleF a).1) = l.flatMap (fun a => 32 :: tl a) := by
          intro l hl
          induction l with
          | nil => rfl
          | cons u l ih =>
            rw [List.flatMap_cons, List.flatMap_cons, rule_inv (hl u List.mem_cons_self), ih fun x hx => hl x (List.mem_cons_of_mem _ hx)]
        exact this rs hb
    unfold prA
    rw [if_neg (by simp [e]), hp, if_neg ht]
end Go.DL
