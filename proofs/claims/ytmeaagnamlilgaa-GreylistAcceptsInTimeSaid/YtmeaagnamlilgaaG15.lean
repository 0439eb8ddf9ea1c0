/- The plain laws of the greylist. No condition. -/
import Derived.Test.YtmeaagnamlilgaaG13
set_option linter.unusedVariables false
set_option linter.unusedSimpArgs false
set_option maxHeartbeats 4000000
namespace Go.DL
open Go.Proofs

/-- A right greylist. -/
def GOk (l : List Ge) : Prop := l.length ≤ 300 ∧ (∀ x ∈ l, nmOk x = true ∧ gOk x) ∧ SG l
theorem gF_mk {l : List Ge} (h : GOk l) : gFault l = (0, 0) := by
  obtain ⟨h0, h1, h2⟩ := h
  unfold gFault
  rw [if_neg (by omega), vfl_ok]
  intro i x hx
  have a := h1 x (List.mem_of_getElem? hx)
  cases i with
  | zero => exact gchk_0 a.1 a.2
  | succ i =>
    rw [if_neg (by omega)]
    have hi : i < l.length := by have := lt_get hx; omega
    rw [show i + 1 - 1 = i from by omega, List.getElem?_eq_getElem hi]
    exact gchk_1 a.1 a.2 (sort_get h2 (Nat.lt_succ_self i) (List.getElem?_eq_getElem hi) hx)
theorem gF_iff {l : List Ge} : gFault l = (0, 0) ↔ GOk l := ⟨gchk_ok, gF_mk⟩
theorem nm_key {x y : Ge} (h : x.key = y.key) : nmOk x = nmOk y := by
  unfold Ge.key at h
  injection h with h1 h2
  injection h2 with h2 h3
  unfold nmOk; rw [h1, h2, h3]
theorem pu_ok {l : List Ge} {y : Ge} (hl : GOk l) (hn : nmOk y = true) (hg : gOk y) (hlen : gG y.key l = none → l.length < 300) : GOk (puG y l) := by
  obtain ⟨h0, h1, h2⟩ := hl
  refine ⟨?_, ?_, sort_putL ord3 y h2⟩
  · have := length_putL ord3 y h2
    unfold puG
    rw [this]
    cases hgg : getL Ge.key y.key l with
    | some x => simpa using h0
    | none => have := hlen hgg; simp; omega
  · intro x hx
    rcases mem_putL hx with rfl | hx
    · exact ⟨hn, hg⟩
    · exact h1 x hx
theorem get_pu {l : List Ge} {y : Ge} (hs : SG l) (k : K3) : gG k (puG y l) = if y.key = k then some y else gG k l := getL_putL ord3 y k hs
theorem live_ok {l : List Ge} {now : Int} (hl : GOk l) : GOk (live' now l) := by
  obtain ⟨h0, h1, h2⟩ := hl
  refine ⟨by have := live_len now l; omega, fun x hx => h1 x (List.mem_filter.1 hx).1, sort_filter _ h2⟩
theorem get_live {l : List Ge} {now : Int} (hs : SG l) (k : K3) : gG k (live' now l) = (gG k l).bind fun x => if !exp' x now then some x else none := getL_filter ord3 _ hs
/-- What an attempt does, told by what is found. -/
theorem try_cases {l : List Ge} {e : Ge} {now : Int} (he : e.a = now ∧ e.b = now ∧ e.k = false) (hf : (tryF l e now).2 = (0, 0)) :
    GOk l ∧ nmOk e = true ∧ rg now ∧ GOk (tryF l e now).1.1 ∧
    ((∃ x, gG e.key l = some x ∧ x.b ≤ now ∧ exp' x now = false ∧ (tryF l e now).1 = (puG (upG x now) l, (upG x now).k)) ∨
     ((∀ x, gG e.key l = some x → x.b ≤ now ∧ exp' x now = true) ∧ (live' now l).length < 300 ∧ gG e.key (live' now l) = none ∧ (tryF l e now).1 = (puG e (live' now l), false))) := by
  have hb : tF0 l e now = (0, 0) := by
    apply Classical.byContradiction
    intro hb
    unfold tryF at hf; rw [if_pos hb] at hf; exact hb hf
  obtain ⟨a, b, c⟩ := tF_ok hb
  have hl := gF_iff.1 a
  obtain ⟨hl0, hr, hs⟩ := hl
  have hll := live_len now l
  have ent_ok : gOk e := by unfold gOk; unfold rg at c; omega
  have fresh : (freshF l e now).2 = (0, 0) → gG e.key (live' now l) = none → (live' now l).length < 300 ∧ (freshF l e now).1 = (puG e (live' now l), false) ∧ GOk (freshF l e now).1.1 := by
    intro h hn
    unfold freshF at h ⊢
    split at h
    · simp at h
    · rename_i h1
      rw [if_neg h1]
      exact ⟨by omega, rfl, pu_ok (live_ok ⟨hl0, hr, hs⟩) b ent_ok fun _ => by omega⟩
  refine ⟨⟨hl0, hr, hs⟩, b, c, ?_⟩
  cases hg : gG e.key l with
  | some x =>
    have e0 : tryF l e now = if now < x.b then (([], false), (19, (pG e.key l : Int))) else if exp' x now = false then ((puG (upG x now) l, (upG x now).k), (0, 0)) else freshF l e now := by
      unfold tryF; rw [if_neg (by simp [hb]), hg]
    rw [e0] at hf ⊢
    obtain ⟨hxm, hxk⟩ := getL_mem (key := Ge.key) (k := e.key) hg
    have hx2 := hr x hxm
    by_cases h1 : now < x.b
    · rw [if_pos h1] at hf; simp at hf
    · rw [if_neg h1] at hf ⊢
      by_cases h2 : exp' x now = false
      · rw [if_pos h2]
        have hgo : gOk (upG x now) := by
          have := hx2.2
          unfold gOk at this ⊢
          unfold rg at c
          simp only [upG]
          omega
        refine ⟨pu_ok ⟨hl0, hr, hs⟩ ?_ hgo fun hn => ?_, .inl ⟨x, rfl, by omega, h2, rfl⟩⟩
        · rw [show nmOk (upG x now) = nmOk x from rfl]; exact hx2.1
        · have : (upG x now).key = e.key := hxk
          rw [this, hg] at hn; cases hn
      · rw [if_neg h2] at hf ⊢
        have h2' : exp' x now = true := by simpa using h2
        have hn : gG e.key (live' now l) = none := by rw [get_live hs, hg]; simp [h2']
        obtain ⟨f1, f2, f3⟩ := fresh hf hn
        exact ⟨f3, .inr ⟨(fun y hy => by injection hy with hy; subst hy; exact ⟨by omega, h2'⟩), f1, hn, f2⟩⟩
  | none =>
    have e0 : tryF l e now = freshF l e now := by unfold tryF; rw [if_neg (by simp [hb]), hg]
    rw [e0] at hf ⊢
    have hn : gG e.key (live' now l) = none := by rw [get_live hs, hg]; rfl
    obtain ⟨f1, f2, f3⟩ := fresh hf hn
    exact ⟨f3, .inr ⟨(fun y hy => by cases hy), f1, hn, f2⟩⟩
/-- Of what code a fault can be, where the list is right. -/
theorem try_codes {l : List Ge} {e : Ge} {now : Int} (hl : GOk l) (hn : nmOk e = true) (hb : ∀ x, gG e.key l = some x → x.b ≤ now) : (tryF l e now).2 = (0, 0) ∨ (tryF l e now).2 = (3, -2) ∨ (tryF l e now).2 = (2, -1) := by
  have hf : (freshF l e now).2 = (0, 0) ∨ (freshF l e now).2 = (2, -1) := by
    unfold freshF; split
    · exact .inr rfl
    · exact .inl rfl
  by_cases hc : rg now
  · have hb' : tF0 l e now = (0, 0) := by unfold tF0; rw [if_neg (by simp [gF_mk hl]), if_neg (by simp [hn]), if_neg (by simpa using hc)]
    unfold tryF
    rw [if_neg (by simp [hb'])]
    split
    · rename_i x hx
      rw [if_neg (by have := hb x hx; omega)]
      split
      · exact .inl rfl
      · rcases hf with h | h
        · exact .inl h
        · exact .inr (.inr h)
    · rcases hf with h | h
      · exact .inl h
      · exact .inr (.inr h)
  · have hb' : tF0 l e now = (3, -2) := by unfold tF0; rw [if_neg (by simp [gF_mk hl]), if_neg (by simp [hn]), if_pos hc]
    unfold tryF
    rw [if_pos (by rw [hb']; simp), hb']
    exact .inr (.inl rfl)
/-- An attempt that finds an entry that stands. -/
theorem try_there {l : List Ge} {e : Ge} {now : Int} {x : Ge} (hf : (tryF l e now).2 = (0, 0)) (hx : gG e.key l = some x) : (tryF l e now).1.2 = if exp' x now = false then (x.k || decide (300 ≤ now - x.a)) else false := by
  have hb : tF0 l e now = (0, 0) := by
    apply Classical.byContradiction
    intro hb
    unfold tryF at hf; rw [if_pos hb] at hf; exact hb hf
  have hfr : (freshF l e now).1.2 = false := by unfold freshF; split <;> rfl
  unfold tryF at hf ⊢
  rw [if_neg (by simp [hb]), hx] at hf ⊢
  dsimp only at hf ⊢
  by_cases h1 : now < x.b
  · rw [if_pos h1] at hf; simp at hf
  · rw [if_neg h1]
    by_cases h2 : exp' x now = false
    · rw [if_pos h2, if_pos h2]; rfl
    · rw [if_neg h2, if_neg h2]; exact hfr
theorem try_none {l : List Ge} {e : Ge} {now : Int} (hf : (tryF l e now).2 = (0, 0)) (hx : gG e.key l = none) : (tryF l e now).1.2 = false := by
  have hb : tF0 l e now = (0, 0) := by
    apply Classical.byContradiction
    intro hb
    unfold tryF at hf; rw [if_pos hb] at hf; exact hb hf
  have hfr : (freshF l e now).1.2 = false := by unfold freshF; split <;> rfl
  unfold tryF
  rw [if_neg (by simp [hb]), hx]
  exact hfr
end Go.DL
