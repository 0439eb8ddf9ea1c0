/- Hosts: a rule at the front of a policy, with no program in sight. No condition. -/
import Derived.Test.YtacpahgoomdfaaaDoorH24
import Derived.Test.YtacpahgoomdfaaaDoorH22
set_option linter.unusedVariables false
set_option linter.unusedSimpArgs false
set_option maxHeartbeats 1000000
namespace Go.DL
open Go.Proofs

theorem psG_any {pre r : List Pl} {p : Pl} (h : psG pre (p :: r) = (0, 0)) : pF p = (0, 0) ∧ pre.any (isD p.d) = false ∧ psG (pre ++ [p]) r = (0, 0) := by
  unfold psG at h
  split at h
  · rename_i h1
    injection h with h2
    exact absurd (pF_0 h2) h1
  · rename_i h1
    split at h
    · simp at h
    · rename_i h2
      exact ⟨by simpa using h1, by simpa using h2, h⟩
theorem psG_mk {pre r : List Pl} {p : Pl} (h1 : pF p = (0, 0)) (h2 : pre.any (isD p.d) = false) (h3 : psG (pre ++ [p]) r = (0, 0)) : psG pre (p :: r) = (0, 0) := by
  unfold psG
  rw [if_neg (by simp [h1]), if_neg (by simp [h2])]; exact h3
theorem any_d {pre pre' : List Pl} (h : pre.map Pl.d = pre'.map Pl.d) (d : ByteArray) : pre.any (isD d) = pre'.any (isD d) := by
  have key : ∀ l : List Pl, l.any (isD d) = (l.map Pl.d).any (fun x => decide (x = d)) := by
    intro l; rw [List.any_map]; rfl
  rw [key, key, h]
theorem psG_d : ∀ {r pre pre' : List Pl}, pre.map Pl.d = pre'.map Pl.d → psG pre r = (0, 0) → psG pre' r = (0, 0)
  | [], _, _, _, _ => rfl
  | p :: r, pre, pre', h, hp => by
    obtain ⟨h1, h2, h3⟩ := psG_any hp
    exact psG_mk h1 (by rw [← any_d h]; exact h2) (psG_d (by simp [h]) h3)
theorem psG_swap {p p' : Pl} (hd : p'.d = p.d) (hp' : pF p' = (0, 0)) : ∀ {l1 l2 pre : List Pl}, psG pre (l1 ++ p :: l2) = (0, 0) → psG pre (l1 ++ p' :: l2) = (0, 0)
  | [], l2, pre, h => by
    obtain ⟨h1, h2, h3⟩ := psG_any h
    exact psG_mk hp' (by rw [hd]; exact h2) (psG_d (by simp [hd]) h3)
  | a :: l1, l2, pre, h => by
    obtain ⟨h1, h2, h3⟩ := psG_any h
    exact psG_mk h1 h2 (psG_swap hd hp' h3)
theorem psG_front {p : Pl} : ∀ {l1 l2 pre : List Pl}, psG pre (l1 ++ p :: l2) = (0, 0) → l1.any (isD p.d) = false
  | [], _, _, _ => rfl
  | a :: l1, l2, pre, h => by
    obtain ⟨h1, h2, h3⟩ := psG_any h
    have key : ∀ {l : List Pl} {pre : List Pl}, psG pre (l ++ p :: l2) = (0, 0) → pre.any (isD p.d) = false := by
      intro l
      induction l with
      | nil => intro pre h; exact (psG_any h).2.1
      | cons b l ih =>
        intro pre h
        have := ih (psG_any h).2.2
        rw [List.any_append] at this
        simp only [Bool.or_eq_false_iff] at this
        exact this.1
    have h4 := key (l := l1) h3
    rw [List.any_append] at h4
    simp only [Bool.or_eq_false_iff] at h4
    have h5 := psG_front h3
    rw [List.any_cons, h5]
    have := h4.2
    simp only [List.any_cons, List.any_nil, Bool.or_false] at this
    rw [this]; rfl
theorem find_swap {p p' : Pl} {l1 l2 : List Pl} (hd : p'.d = p.d) (hf : l1.any (isD p.d) = false) (dom : ByteArray) :
    (l1 ++ p' :: l2).find? (isD dom) = ((l1 ++ p :: l2).find? (isD dom)).map (fun q => if q.d = p.d then p' else q) := by
  induction l1 with
  | nil =>
    simp only [List.nil_append, List.find?_cons]
    have e : isD dom p' = isD dom p := by unfold isD; rw [hd]
    rw [e]
    cases h : isD dom p with
    | true => simp
    | false =>
      cases hx : l2.find? (isD dom) with
      | none => rfl
      | some q =>
        have h1 := List.find?_some hx
        unfold isD at h h1
        simp only [decide_eq_true_eq, decide_eq_false_iff_not] at h h1
        simp only [Option.map_some]
        rw [if_neg (by rw [h1]; exact fun e => h e.symm)]
  | cons a l1 ih =>
    rw [List.any_cons] at hf
    simp only [Bool.or_eq_false_iff] at hf
    simp only [List.cons_append, List.find?_cons]
    cases h : isD dom a with
    | true =>
      have := hf.1
      unfold isD at this
      simp only [decide_eq_false_iff_not] at this
      simp [this]
    | false => exact ih hf.2
theorem find_at {p : Pl} {l1 l2 : List Pl} (hf : l1.any (isD p.d) = false) : (l1 ++ p :: l2).find? (isD p.d) = some p := by
  rw [List.find?_append]
  rw [List.find?_eq_none.2 (fun q hq => by have := List.any_eq_false.1 hf q hq; simpa using this)]
  have : isD p.d p = true := by unfold isD; simp
  simp [List.find?_cons, this]
def frontP (p : Pl) (res : Int) (name : ByteArray) : Pl := ⟨p.d, false, ⟨res, 2, name⟩ :: p.l⟩
theorem front_pF {p : Pl} {res : Int} {name : ByteArray} (h : pF p = (0, 0)) (hl : p.l.length < 60) (hr : 1 ≤ res ∧ res ≤ 4) (hn : nmB name = true) : pF (frontP p res name) = (0, 0) := by
  obtain ⟨h1, h2, h3⟩ := pF_all h
  have hf : ∀ x ∈ (frontP p res name).l, rF x = 0 := by
    intro x hx
    rcases List.mem_cons.1 hx with rfl | hx
    · unfold rF
      simp [hn, hr.1, hr.2]
    · exact h3 x hx
  unfold pF
  have e1 : nmB (frontP p res name).d = true := h1
  have e2 : (frontP p res name).l.length = p.l.length + 1 := rfl
  rw [if_neg (by simp [e1]), if_neg (by omega), vfl_ok]
  intro i x hx
  exact hf x (List.mem_of_getElem? hx)
theorem rlF_skip {host name : ByteArray} {g : ByteArray → Int → Int × Int} {res lk : Int} {r : List Rl} (h : ¬ name = host) : rlF host g (⟨res, 2, name⟩ :: r) lk = rlF host g r lk := by
  conv => lhs; unfold rlF
  have e : hitB host ⟨res, 2, name⟩ = false := by
    unfold hitB
    simp
    exact fun e => h e.symm
  rw [if_neg (by simp), if_neg (by simp [e])]
theorem hres_swap {l1 l2 : List Pl} {p : Pl} {res : Int} {name host : ByteArray} (hf : l1.any (isD p.d) = false) (hn : ¬ name = host) (hu : ∀ q ∈ l1 ++ p :: l2, q.d = p.d → q = p) : ∀ (n : Nat) (dom : ByteArray) (lk : Int), hresF (l1 ++ frontP p res name :: l2) host n dom lk = hresF (l1 ++ p :: l2) host n dom lk
  | 0, _, _ => rfl
  | n + 1, dom, lk => by
    unfold hresF
    have e : hresF (l1 ++ frontP p res name :: l2) host n = hresF (l1 ++ p :: l2) host n := by
      funext d k; exact hres_swap hf hn hu n d k
    rw [e]
    split
    · rfl
    · rw [find_swap (p := p) (p' := frontP p res name) rfl hf dom]
      cases hx : (l1 ++ p :: l2).find? (isD dom) with
      | none => rfl
      | some q =>
        simp only [Option.map_some]
        split
        · rename_i hq
          have := hu q (List.mem_of_find?_eq_some hx) hq
          subst this
          exact rlF_skip hn
        · rfl
theorem uniq_of {p : Pl} {l1 l2 : List Pl} (h : psG [] (l1 ++ p :: l2) = (0, 0)) : ∀ q ∈ l1 ++ p :: l2, q.d = p.d → q = p := by
  intro q hq hd
  rcases List.mem_append.1 hq with hq | hq
  · have := List.any_eq_false.1 (psG_front h) q hq
    unfold isD at this
    simp at this
    exact absurd hd this
  · rcases List.mem_cons.1 hq with rfl | hq
    · rfl
    · obtain ⟨a, b, rfl⟩ := List.append_of_mem hq
      have h2 : psG [] ((l1 ++ p :: a) ++ q :: b) = (0, 0) := by simpa using h
      have := List.any_eq_false.1 (psG_front h2) p (by simp)
      unfold isD at this
      simp at this
      exact absurd hd.symm this
theorem set_at {l : List Pl} {i : Nat} {p p' : Pl} (h : l[i]? = some p) : l = l.take i ++ p :: l.drop (i + 1) ∧ l.set i p' = l.take i ++ p' :: l.drop (i + 1) := by
  have hi := lt_get h
  refine ⟨?_, ?_⟩
  · conv => lhs; rw [← List.take_append_drop i l]
    rw [drop_get' h]
  · rw [List.set_eq_take_append_cons_drop, if_pos hi]
/-- What Check answers after a rule was put in front. -/
theorem chk_front {l : List Pl} {i : Nat} {p : Pl} {a host name : ByteArray} {res : Int} (hp : psF l a host = (0, 0)) (hi : l[i]? = some p) (hl : p.l.length < 60) (hr : 1 ≤ res ∧ res ≤ 4) (hn : nmB name = true) :
    chkA l p.d host = ((hresF l host 10 p.d 0).1, (0, 0)) ∧ chkA (l.set i (frontP p res name)) p.d host = (if name = host then res else (hresF l host 10 p.d 0).1, (0, 0)) := by
  have hlen : ¬ 60 < l.length := by
    intro h; rw [psF_many h] at hp; simp at hp
  have hg : psG [] l = (0, 0) := by
    rcases Decidable.em (psG [] l = (0, 0)) with h | h
    · exact h
    · rw [psF_bad hlen h] at hp; exact hp
  have hd : nmB p.d = true := (pF_all (psG_ok hg p (List.mem_of_getElem? hi))).1
  have hh : nmB host = true := by
    cases e : nmB host with
    | true => rfl
    | false =>
      cases ea : nmB a with
      | false => rw [psF_dom hlen hg ea] at hp; simp at hp
      | true => rw [psF_host hlen hg ea e] at hp; simp at hp
  obtain ⟨s1, s2⟩ := set_at (p' := frontP p res name) hi
  have hg' := hg
  rw [s1] at hg'
  have hg2 : psG [] (l.set i (frontP p res name)) = (0, 0) := by
    rw [s2]
    exact psG_swap (p := p) (p' := frontP p res name) rfl (front_pF (psG_ok hg p (List.mem_of_getElem? hi)) hl hr hn) hg'
  have e1 := psF_ok (dom := p.d) (host := host) hlen hg hd hh
  have e2 := psF_ok (l := l.set i (frontP p res name)) (dom := p.d) (host := host) (by rw [List.length_set]; exact hlen) hg2 hd hh
  refine ⟨by unfold chkA; rw [if_neg (by simp [e1])], ?_⟩
  unfold chkA
  rw [if_neg (by simp [e2])]
  congr 1
  split
  · rename_i hnh
    rw [s2]
    unfold hresF
    rw [if_neg (by omega)]
    have hf : (l.take i ++ frontP p res name :: l.drop (i + 1)).find? (isD p.d) = some (frontP p res name) := find_at (p := frontP p res name) (psG_front (p := p) hg')
    rw [hf]
    show (rlF host _ (⟨res, 2, name⟩ :: p.l) _).1 = res
    unfold rlF
    rw [if_neg (by simp), if_pos (by unfold hitB; simp [hnh])]
  · rename_i hnh
    rw [s2, hres_swap (psG_front hg') hnh (uniq_of hg') 10 p.d 0, ← s1]
end Go.DL
