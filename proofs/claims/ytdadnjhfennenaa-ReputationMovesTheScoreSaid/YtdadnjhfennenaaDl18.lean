/- DL, part 18: the walk as one function; calls told by what they are called with. Own work; no condition. -/
import Derived.Test.YtdadnjhfennenaaDl17
import Derived.Test.YtdadnjhfennenaaB0
set_option linter.unusedVariables false
set_option linter.unusedSimpArgs false
namespace Go.DL
open Go.RowKit

section
variable {P : Program} {T : Tab P} {m N : Nat}
def condK (d : Option D) (A B : Prop) : Prop := match d with
  | some (.v (.bool b)) => Br b A B
  | _ => False
theorem condK_out {d : Option D} {A B : Prop} (h : condK d A B) : ∃ b, d = some (.v (.bool b)) ∧ Br b A B := by
  unfold condK at h
  split at h
  · exact ⟨_, rfl, h⟩
  · exact h.elim
def walkC (T : Tab P) (m N : Nat) : Code → St → (Exit → St → Prop) → Prop
  | .skip, σ, Q => Q .normal σ
  | .exit id, σ, Q => Q (.exit id) σ
  | .ret, σ, Q => Q .ret σ
  | .seq x y, σ, Q => walkC T m N x σ (thenQ (fun σ' => walkC T m N y σ' Q) Q)
  | .cond c x y, σ, Q => condK (ev T (look σ.env) 0 c) (walkC T m N x σ Q) (walkC T m N y σ Q)
  | .block id x, σ, Q => walkC T m N x σ (inBlockQ id Q)
  | .region _ ops false, σ, Q => stepOps T N ops.toList ops.toList σ (Q .normal)
  | .region _ ops true, σ, Q => endK σ fun σ => drawOps T N ops.toList ops.toList [] σ (drawEnd ops.toList (Q .normal))
  | c, σ, Q => WpD T m N c σ Q
theorem walkC_ok : ∀ (c : Code) (σ : St) (Q : Exit → St → Prop), walkC T m N c σ Q → WpD T m N c σ Q
  | .skip, σ, Q, h => WpD.skip h
  | .exit id, σ, Q, h => WpD.exit h
  | .ret, σ, Q, h => WpD.ret h
  | .seq x y, σ, Q, h => WpD.seq ((walkC_ok x σ _ h).mono fun e σ' q => by
      cases e with
      | normal => exact walkC_ok y σ' Q q
      | _ => exact q)
  | .cond c x y, σ, Q, h => by
    obtain ⟨b, hb, hbr⟩ := condK_out h
    exact WpD.cond hb ⟨fun e => walkC_ok x σ Q (hbr.t e), fun e => walkC_ok y σ Q (hbr.f e)⟩
  | .block id x, σ, Q, h => WpD.block (walkC_ok x σ _ h)
  | .region _ ops false, σ, Q, h => WpD.region h
  | .region _ ops true, σ, Q, h => WpD.draw h
  | .loop c, σ, Q, h => h
  | .rangeFunc .., σ, Q, h => h
  | .scope _, σ, Q, h => h
  | .label _, σ, Q, h => h
  | .goto _, σ, Q, h => h
  | .refuse _, σ, Q, h => h
def plainC : Code → Bool
  | .loop _ => false
  | .rangeFunc .. => false
  | .scope _ => false
  | .label _ => false
  | .goto _ => false
  | .refuse _ => false
  | _ => true
theorem WpD.walk {c : Code} {σ : St} {Q : Exit → St → Prop} (h0 : plainC c = true) (h : walkC T m N c σ Q) : WpD T m N c σ Q := walkC_ok c σ Q h
theorem WpD.id {c : Code} {σ : St} {Q : Exit → St → Prop} (h : WpD T m N c σ Q) : WpD T m N c σ Q := h
theorem Br.id {b : Bool} {A B : Prop} (h : Br b A B) : Br b A B := h
variable {o : Oper} {E : Nat → Option D} {H : Nat → Ob} {nx : Nat} {K : KT} {c : Call} {f : FuncId} {x : Operand} {ds caps : List D} {vargs : List V}
theorem CallOp.id (h : CallOp T o E H nx K) : CallOp T o E H nx K := h
theorem CallDet.id (h : CallDet T o E H nx K) : CallDet T o E H nx K := h
/-- A call of function f with closed data. -/
def CallAt (T : Tab P) (f : FuncId) (vs : List V) (K : V → Prop) : Prop := ∃ r0, CallV T f vs (· = r0) ∧ K r0
theorem CallAt.id {vs : List V} {K : V → Prop} (h : CallAt T f vs K) : CallAt T f vs K := h
theorem CallAt.mk1 {vs : List V} {K : V → Prop} {r0 : V} (hC : CallV T f vs (· = r0)) (hK : K r0) : CallAt T f vs K := ⟨r0, hC, hK⟩
theorem CallAt.mkP {p : Prop} {vs : List V} {K : V → Prop} {r0 : V} (hC : p → CallV T f vs (· = r0)) (hp : p) (hK : K r0) : CallAt T f vs K := ⟨r0, hC hp, hK⟩
theorem call_at (ho : o.op = .call c) (hc : c.callee = .value x) (hx : callee (ev T E 0 x) = some (f, caps)) (hargs : evL T E c.args.toList c.argTypes.toList = some ds) (hv : D.toVs (ds ++ caps) = some vargs)
    (h : CallAt T f vargs fun r => K (.v r) [] []) : CallOp T o E H nx K := by
  obtain ⟨r0, hC, hK⟩ := h
  exact call_pure1 hC ho hc hx hargs hv hK
theorem call_atD (ho : o.op = .call c) (hc : c.callee = .value x) (hx : callee (ev T E 0 x) = some (f, caps)) (hargs : evL T E c.args.toList c.argTypes.toList = some ds) (hv : D.toVs (ds ++ caps) = some vargs)
    (h : CallAt T f vargs fun r => K (.v r) [] []) : CallDet T o E H nx K := by
  obtain ⟨r0, hC, hK⟩ := h
  exact call_pureD hC ho hc hx hargs hv hK
end
theorem idxMap {α β : Type} {f : α → β} {l : List α} {i : Nat} {K : β → Prop} (h : i < l.length) (hk : ∀ x, l[i]? = some x → K (f x)) : ∃ r, (l.map f)[i]? = some r ∧ K r :=
  ⟨f l[i], by simp [h], hk l[i] (by simp [h])⟩
/-- The same place read once more. -/
theorem idxOld {α β : Type} {f : α → β} {l : List α} {i : Nat} {x : α} {K : β → Prop} (h : l[i]? = some x) (hk : K (f x)) : ∃ r, (l.map f)[i]? = some r ∧ K r := ⟨f x, by simp [h], hk⟩
theorem leInt {o : Option D} {k : IntKind} {x y : Int} (h : o = some (.v (.int k x))) (e : x = y) : o = some (.v (.int k y)) := by rw [h, e]
theorem leArr {o : Option D} {p p' n n' : Nat} (h : o = some (.arr p 0 n)) (e : n = n') (e' : p = p') : o = some (.arr p' 0 n') := by rw [h, e, e']
theorem leBool {o : Option D} {x y : Bool} (h : o = some (.v (.bool x))) (e : x = y) : o = some (.v (.bool y)) := by rw [h, e]
theorem wd (x : Int) : IntKind.wrap .i64 x = (x + 9223372036854775808) % 18446744073709551616 - 9223372036854775808 := by
  simp [IntKind.wrap, IntKind.bits, IntKind.signed]
  omega
theorem td {x c : Int} (hc : 0 < c) : x.tdiv c = if 0 ≤ x then x / c else - ((-x) / c) := by
  split
  · exact Int.tdiv_eq_ediv_of_nonneg (by omega)
  · rw [show x = - (-x) by omega, Int.neg_tdiv, Int.tdiv_eq_ediv_of_nonneg (by omega)]; simp
theorem tm {x c : Int} (hc : 0 < c) : x.tmod c = x - c * (if 0 ≤ x then x / c else - ((-x) / c)) := by
  have := Int.mul_tdiv_add_tmod x c
  rw [td hc] at this; omega
theorem min_if (a b : Int) : (if a < b then a else b) = min b a := by split <;> omega
theorem max_if (a b : Int) : (if b < a then a else b) = max b a := by split <;> omega
attribute [irreducible] CallAt
end Go.DL
