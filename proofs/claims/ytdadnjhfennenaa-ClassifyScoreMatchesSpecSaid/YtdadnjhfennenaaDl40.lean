/- DL, part 40: a code cut in two where a temporary is first written, and a state met there. Own work; no condition. -/
import Derived.Test.YtdadnjhfennenaaDC
set_option linter.unusedVariables false
set_option linter.unusedSimpArgs false
namespace Go.DL
open Go.RowKit
noncomputable def isKey (n : Nat) (c : Code) : Bool := match keyC c with | some k => Nat.beq k n | none => false
/-- The rest of the code, from the part on whose first written temporary is n. -/
noncomputable def tailC (n : Nat) (c : Code) : Option Code :=
  Code.rec (motive := fun _ => Option Code) none (fun _ _ _ => none) (fun _ y _ ry => match isKey n y with | true => some y | false => ry) (fun _ _ _ _ _ => none) (fun _ _ _ => none)
    (fun _ _ => none) (fun _ _ _ _ _ _ => none) (fun _ => none) (fun _ _ => none) (fun _ => none) (fun _ => none) none (fun _ => none) c
section
variable {P : Program} {T : Tab P} {m N : Nat}
/-- The code ahead of that part, and M met behind it. -/
noncomputable def spW (T : Tab P) (m N n : Nat) (M : St → Prop) (Q : Exit → St → Prop) (c : Code) : St → Prop :=
  Code.rec (motive := fun _ => St → Prop) (fun _ => False) (fun _ _ _ _ => False) (fun x y _ ry => match isKey n y with | true => fun σ => WpD T m N x σ (thenQ M Q) | false => fun σ => WpD T m N x σ (thenQ ry Q)) (fun _ _ _ _ _ _ => False) (fun _ _ _ _ => False)
    (fun _ _ _ => False) (fun _ _ _ _ _ _ _ => False) (fun _ _ => False) (fun _ _ _ => False) (fun _ _ => False) (fun _ _ => False) (fun _ => False) (fun _ _ => False) c
theorem thenQ_imp {k k' : St → Prop} {Q : Exit → St → Prop} (h : ∀ σ, k σ → k' σ) (e : Exit) (σ : St) (q : thenQ k Q e σ) : thenQ k' Q e σ := by
  cases e with
  | normal => exact h σ q
  | _ => exact q
theorem spW_ok {n : Nat} {M : St → Prop} {Q : Exit → St → Prop} : ∀ (c : Code) {y : Code}, tailC n c = some y → (∀ σ', M σ' → WpD T m N y σ' Q) → ∀ σ, spW T m N n M Q c σ → WpD T m N c σ Q := by
  intro c
  induction c with
  | seq x y ihx ihy =>
    intro z hz hM σ hs
    have e1 : tailC n (x.seq y) = (match isKey n y with | true => some y | false => tailC n y) := rfl
    have e2 : spW T m N n M Q (x.seq y) = (match isKey n y with | true => fun σ => WpD T m N x σ (thenQ M Q) | false => fun σ => WpD T m N x σ (thenQ (spW T m N n M Q y) Q)) := rfl
    rw [e1] at hz
    rw [e2] at hs
    cases hk : isKey n y with
    | true =>
      rw [hk] at hz hs
      injection hz with hz
      subst hz
      exact WpD.seq (WpD.mono hs (thenQ_imp hM))
    | false =>
      rw [hk] at hz hs
      exact WpD.seq (WpD.mono hs (thenQ_imp (ihy hz hM)))
  | _ => intro z hz; cases hz
theorem WpD.cutAt {ι : Type} {c y : Code} {σ : St} {Q : Exit → St → Prop} (n : Nat) (hn : tailC n c = some y) (S : ι → St) (p : ι → Prop) (h1 : spW T m N n (fun σ' => ∃ k th, p k ∧ Le m th σ' (S k)) Q c σ) (h2 : ∀ k, p k → WpD T m N y (S k) Q) : WpD T m N c σ Q :=
  spW_ok c hn (fun σ' ⟨k, th, hp, l⟩ => (h2 k hp).le l) σ h1
end
end Go.DL
