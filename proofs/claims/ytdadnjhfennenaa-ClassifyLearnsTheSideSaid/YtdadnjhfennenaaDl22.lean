/- DL, part 22: a loop told by the first temporary that its code writes. Own work; no condition. -/
import Derived.Test.YtdadnjhfennenaaDl18
set_option linter.unusedVariables false
set_option linter.unusedSimpArgs false
namespace Go.DL
open Go.RowKit
def opsKey : List Oper → Option Nat
  | [] => none
  | o :: os => match o.dst with | some n => some n | none => opsKey os
def orK (a b : Option Nat) : Option Nat := match a with | some n => some n | none => b
/-- The first temporary that a code writes. -/
noncomputable def keyC (c : Code) : Option Nat :=
  Code.rec (motive := fun _ => Option Nat) none (fun _ ops _ => opsKey ops.toList) (fun _ _ x y => orK x y) (fun _ _ _ x y => orK x y) (fun _ _ x => x)
    (fun _ x => x) (fun _ _ _ _ _ _ => none) (fun _ => none) (fun _ x => x) (fun _ => none) (fun _ => none) none (fun _ => none) c
theorem WpD.loopAt {P : Program} {T : Tab P} {m N : Nat} {σ : St} {Q : Exit → St → Prop} {ι : Type} {c : Code} (n : Nat) (hn : keyC c = some n) (S : ι → St) (p : ι → Prop) (μ : ι → Nat) (h0 : ∃ k th, p k ∧ Le m th σ (S k))
    (round : ∀ k, p k → WpD T m N c (S k) (thenQ (fun σ' => ∃ k' th, p k' ∧ Le m th σ' (S k') ∧ μ k' < μ k) Q)) : WpD T m N (.loop c) σ Q := WpD.loop S p μ h0 round
theorem rowAt {o : Option (List D)} {r : List D} {K : List D → Prop} (h : o = some r) (hk : K r) : rowK o K := by subst h; exact hk
end Go.DL
