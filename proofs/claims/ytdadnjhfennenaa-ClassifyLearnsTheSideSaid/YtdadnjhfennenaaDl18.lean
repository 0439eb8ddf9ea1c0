/- DL, part 18: the walk as one function; calls told by what they are called with. Own work; no condition. -/
import Derived.Test.YtdadnjhfennenaaDl17
import Derived.Test.YtdadnjhfennenaaDl12
import Derived.Test.YtdadnjhfennenaaB0
set_option linter.unusedVariables false
set_option linter.unusedSimpArgs false
namespace Go.DL
open Go.RowKit

section
variable {P : Program} {T : Tab P} {m N : Nat}
def condK (d : Option D) (A B : Prop) : Prop := match d with
  | some (.v (.bool b)) => Br b A B
  | _ => False
theorem condK_out {d : Option D} {A B : Prop} (h : condK d A B) : ∃ b, d = some (.v (.bool b)) ∧ Br b A B := by
  unfold condK at h
  split at h
  · exact ⟨_, rfl, h⟩
  · exact h.elim
abbrev WM := St → (Exit → St → Prop) → Prop
def walkSkip : WM := fun σ Q => Q .normal σ
def walkRegion (T : Tab P) (N : Nat) (ops : Array Oper) (draw : Bool) : WM := fun σ Q => match draw with
  | false => stepR T N ops.toList ops.toList σ (Q .normal)
  | true => endK σ fun σ => drawR T N ops.toList ops.toList [] σ (drawEnd ops.toList (Q .normal))
def walkSeq (x y : WM) : WM := fun σ Q => x σ (thenQ (fun σ' => y σ' Q) Q)
def walkCond (T : Tab P) (c : Operand) (x y : WM) : WM := fun σ Q => condK (ev T (look σ.env) 0 c) (x σ Q) (y σ Q)
def walkBlock (id : Nat) (x : WM) : WM := fun σ Q => x σ (inBlockQ id Q)
def walkExit (id : Nat) : WM := fun σ Q => Q (.exit id) σ
def walkRet : WM := fun σ Q => Q .ret σ
def walkElse (T : Tab P) (m N : Nat) (c : Code) : WM := fun σ Q => WpD T m N c σ Q
noncomputable def walkC (T : Tab P) (m N : Nat) (c : Code) : WM :=
  Code.rec (motive := fun _ => WM) walkSkip (fun _ ops draw => walkRegion T N ops draw) (fun _ _ x y => walkSeq x y) (fun c _ _ x y => walkCond T c x y) (fun id _ x => walkBlock id x)
    (fun c _ => walkElse T m N (.loop c)) (fun f ps a b _ _ => walkElse T m N (.rangeFunc f ps a b)) walkExit (fun b _ => walkElse T m N (.scope b)) (fun l => walkElse T m N (.label l)) (fun l => walkElse T m N (.goto l)) walkRet (fun s => walkElse T m N (.refuse s)) c
theorem walkC_ok : ∀ (c : Code) (σ : St) (Q : Exit → St → Prop), walkC T m N c σ Q → WpD T m N c σ Q
  | .skip, σ, Q, h => WpD.skip h
  | .exit id, σ, Q, h => WpD.exit h
  | .ret, σ, Q, h => WpD.ret h
  | .seq x y, σ, Q, h => WpD.seq ((walkC_ok x σ _ h).mono fun e σ' q => by
      cases e with
      | normal => exact walkC_ok y σ' Q q
      | _ => exact q)
  | .cond c x y, σ, Q, h => by
    obtain ⟨b, hb, hbr⟩ := condK_out (A := walkC T m N x σ Q) (B := walkC T m N y σ Q) h
    exact WpD.cond hb ⟨fun e => walkC_ok x σ Q (hbr.t e), fun e => walkC_ok y σ Q (hbr.f e)⟩
  | .block id x, σ, Q, h => WpD.block (walkC_ok x σ _ h)
  | .region _ ops false, σ, Q, h => WpD.region h
  | .region _ ops true, σ, Q, h => WpD.draw h
  | .loop c, σ, Q, h => h
  | .rangeFunc .., σ, Q, h => h
  | .scope _, σ, Q, h => h
  | .label _, σ, Q, h => h
  | .goto _, σ, Q, h => h
  | .refuse _, σ, Q, h => h
def plainC : Code → Bool
  | .loop _ => false
  | .rangeFunc .. => false
  | .scope _ => false
  | .label _ => false
  | .goto _ => false
  | .refuse _ => false
  | _ => true
theorem WpD.walk {c : Code} {σ : St} {Q : Exit → St → Prop} (h0 : plainC c = true) (h : walkC T m N c σ Q) : WpD T m N c σ Q := walkC_ok c σ Q h
theorem WpD.id {c : Code} {σ : St} {Q : Exit → St → Prop} (h : WpD T m N c σ Q) : WpD T m N c σ Q := h
theorem Br.id {b : Bool} {A B : Prop} (h : Br b A B) : Br b A B := h
variable {o : Oper} {E : Nat → Option D} {H : Nat → Ob} {nx : Nat} {K : KT} {c : Call} {f : FuncId} {x : Operand} {ds caps : List D} {vargs : List V}
theorem CallOp.id (h : CallOp T o E H nx K) : CallOp T o E H nx K := h
theorem CallDet.id (h : CallDet T o E H nx K) : CallDet T o E H nx K := h
/-- A call of function f with closed data. -/
def CallAt (T : Tab P) (f : FuncId) (vs : List V) (K : V → Prop) : Prop := ∃ r0, CallV T f vs (· = r0) ∧ K r0
theorem CallAt.id {vs : List V} {K : V → Prop} (h : CallAt T f vs K) : CallAt T f vs K := h
theorem CallAt.mk1 {vs : List V} {K : V → Prop} {r0 : V} (hC : CallV T f vs (· = r0)) (hK : K r0) : CallAt T f vs K := ⟨r0, hC, hK⟩
theorem CallAt.mkP {p : Prop} {vs : List V} {K : V → Prop} {r0 : V} (hC : p → CallV T f vs (· = r0)) (hp : p) (hK : K r0) : CallAt T f vs K := ⟨r0, hC hp, hK⟩
theorem call_at (ho : o.op = .call c) (hc : c.callee = .value x) (hx : callee (ev T E 0 x) = some (f, caps)) (hargs : evL T E c.args.toList c.argTypes.toList = some ds) (hv : D.toVs (ds ++ caps) = some vargs)
    (h : CallAt T f vargs fun r => K (.v r) [] []) : CallOp T o E H nx K := by
  obtain ⟨r0, hC, hK⟩ := h
  exact call_pure1 hC ho hc hx hargs hv hK
theorem call_atD (ho : o.op = .call c) (hc : c.callee = .value x) (hx : callee (ev T E 0 x) = some (f, caps)) (hargs : evL T E c.args.toList c.argTypes.toList = some ds) (hv : D.toVs (ds ++ caps) = some vargs)
    (h : CallAt T f vargs fun r => K (.v r) [] []) : CallDet T o E H nx K := by
  obtain ⟨r0, hC, hK⟩ := h
  exact call_pureD hC ho hc hx hargs hv hK
end

/-! ##### calls that read the caller's objects -/
def vOnly : List D → Bool
  | [] => true
  | .v _ :: r => vOnly r
  | _ :: _ => false
def vsOf : List D → List V
  | .v x :: r => x :: vsOf r
  | _ => []
theorem vsOf_eq : ∀ {r : List D}, vOnly r = true → r = (vsOf r).map D.v
  | [], _ => rfl
  | .v x :: r, h => by simp only [vsOf, List.map_cons]; rw [← vsOf_eq (r := r) h]
  | .any :: _, h => by cases h
  | .arr .. :: _, h => by cases h
  | .ptr .. :: _, h => by cases h
  | .agg _ :: _, h => by cases h
  | .tup _ :: _, h => by cases h
  | .fn .. :: _, h => by cases h
mutual
def D.toVH (H : Nat → Ob) : D → Option V
  | .v x => some x
  | .arr p o n => match H p with
    | .arr sz rows => match ((rows.drop o).take n).all vOnly, Nat.beq ((rows.drop o).take n).length n with
      | true, true => some (.sl sz false (((rows.drop o).take n).map vsOf))
      | _, _ => none
    | _ => none
  | .ptr p i j => match H p with
    | .arr sz rows => match rows[i]? with
      | some row => match vOnly (row.drop j) with | true => some (.iptr (vsOf (row.drop j))) | false => none
      | none => none
    | _ => none
  | .agg ds => (D.toVHs H ds).map .agg
  | .tup ds => (D.toVHs H ds).map .tup
  | .fn f ds => (D.toVHs H ds).map (.fn f)
  | .any => none
def D.toVHs (H : Nat → Ob) : List D → Option (List V)
  | [] => some []
  | d :: ds => match D.toVH H d, D.toVHs H ds with
    | some x, some xs => some (x :: xs)
    | _, _ => none
end
mutual
theorem D.toVH_ok {H : Nat → Ob} : ∀ (d : D) {x : V}, D.toVH H d = some x → DV H d x
  | .v y, x, h => by simp [D.toVH] at h; subst h; exact rfl
  | .any, x, h => by simp [D.toVH] at h
  | .arr p o n, x, h => by
    simp only [D.toVH] at h
    split at h
    · rename_i sz rows hp
      split at h
      · rename_i h1 h2
        injection h with h; subst h
        refine ⟨rfl, rows, hp, ?_, by simpa using Nat.eq_of_beq_eq_true h2⟩
        rw [List.map_map]
        rw [List.all_eq_true] at h1
        exact (List.map_id _).symm.trans (List.map_congr_left fun r hr => vsOf_eq (h1 r hr))
      · cases h
    · cases h
  | .ptr p i j, x, h => by
    simp only [D.toVH] at h
    split at h
    · rename_i sz rows hp
      split at h
      · rename_i row hr
        split at h
        · rename_i hv
          injection h with h; subst h
          exact ⟨sz, rows, row, hp, hr, vsOf_eq hv⟩
        · cases h
      · cases h
    · cases h
  | .agg ds, x, h => by
    simp only [D.toVH, Option.map_eq_some_iff] at h
    obtain ⟨xs, hx, rfl⟩ := h
    exact D.toVHs_ok ds hx
  | .tup ds, x, h => by
    simp only [D.toVH, Option.map_eq_some_iff] at h
    obtain ⟨xs, hx, rfl⟩ := h
    exact D.toVHs_ok ds hx
  | .fn f ds, x, h => by
    simp only [D.toVH, Option.map_eq_some_iff] at h
    obtain ⟨xs, hx, rfl⟩ := h
    exact ⟨rfl, D.toVHs_ok ds hx⟩
theorem D.toVHs_ok {H : Nat → Ob} : ∀ (ds : List D) {xs : List V}, D.toVHs H ds = some xs → DVs H ds xs
  | [], xs, h => by simp [D.toVHs] at h; subst h; trivial
  | d :: ds, xs, h => by
    simp only [D.toVHs] at h
    split at h
    · rename_i y ys hy hys
      injection h with h; subst h
      exact ⟨D.toVH_ok d hy, D.toVHs_ok ds hys⟩
    · cases h
end
section
variable {P : Program} {T : Tab P}
variable {o : Oper} {E : Nat → Option D} {H : Nat → Ob} {nx : Nat} {K : KT} {c : Call} {f : FuncId} {x : Operand} {ds caps : List D} {vargs : List V}
/-- A call of function f that reads the caller's objects and gives data without references. -/
def CallRd (T : Tab P) (f : FuncId) (vs : List V) (K : V → Prop) : Prop := ∃ r0, CallV T f vs (· = r0) ∧ r0.flat = true ∧ K r0
theorem CallRd.id {vs : List V} {K : V → Prop} (h : CallRd T f vs K) : CallRd T f vs K := h
theorem CallRd.mk1 {vs : List V} {K : V → Prop} {r0 : V} (hC : CallV T f vs (· = r0)) (hf : r0.flat = true) (hK : K r0) : CallRd T f vs K := ⟨r0, hC, hf, hK⟩
theorem CallRd.mkP {p : Prop} {vs : List V} {K : V → Prop} {r0 : V} (hC : p → CallV T f vs (· = r0)) (hf : r0.flat = true) (hp : p) (hK : K r0) : CallRd T f vs K := ⟨r0, hC hp, hf, hK⟩
theorem call_rd (ho : o.op = .call c) (hc : c.callee = .value x) (hx : callee (ev T E 0 x) = some (f, caps)) (hargs : evL T E c.args.toList c.argTypes.toList = some ds) (hv : D.toVHs H (ds ++ caps) = some vargs)
    (h : CallRd T f vargs fun r => K (.v r) [] []) : CallOp T o E H nx K := by
  obtain ⟨r0, hC, hf, hK⟩ := h
  exact call_read hC ho hc hx hargs (D.toVHs_ok _ hv) (fun r h => by rw [h]; exact hf) fun r h => by rw [h]; exact hK
theorem call_rdD (ho : o.op = .call c) (hc : c.callee = .value x) (hx : callee (ev T E 0 x) = some (f, caps)) (hargs : evL T E c.args.toList c.argTypes.toList = some ds) (hv : D.toVHs H (ds ++ caps) = some vargs)
    (h : CallRd T f vargs fun r => K (.v r) [] []) : CallDet T o E H nx K := by
  obtain ⟨r0, hC, hflat, hK⟩ := h
  refine CallDet.mk (nw := []) (d := .v r0) (ups := []) (by simp) ?_ hK
  have h := call_read_does (H := H) hC ho hc hx hargs (D.toVHs_ok _ hv) (fun r h => by rw [h]; exact hflat)
  intro X ρ w a Q K r hn hK
  refine h X ρ w a Q K r hn ?_
  rintro d ups v w' X' ρ' ⟨e1, r', e2, e3⟩ st hcell hob
  exact hK d ups v w' X' ρ' ⟨by rw [e2, e3], e1⟩ st hcell hob
theorem call_rdV {r0 : V} (hC : CallV T f vargs (· = r0)) (ho : o.op = .call c) (hc : c.callee = .value x) (hx : callee (ev T E 0 x) = some (f, caps)) (hargs : evL T E c.args.toList c.argTypes.toList = some ds) (hv : DVs H (ds ++ caps) vargs)
    (hflat : r0.flat = true) (hK : K (.v r0) [] []) : CallOp T o E H nx K := call_read hC ho hc hx hargs hv (fun r h => by rw [h]; exact hflat) fun r h => by rw [h]; exact hK
theorem call_rdVD {r0 : V} (hC : CallV T f vargs (· = r0)) (ho : o.op = .call c) (hc : c.callee = .value x) (hx : callee (ev T E 0 x) = some (f, caps)) (hargs : evL T E c.args.toList c.argTypes.toList = some ds) (hv : DVs H (ds ++ caps) vargs)
    (hflat : r0.flat = true) (hK : K (.v r0) [] []) : CallDet T o E H nx K := by
  refine CallDet.mk (nw := []) (d := .v r0) (ups := []) (by simp) ?_ hK
  have h := call_read_does (H := H) hC ho hc hx hargs hv (fun r h => by rw [h]; exact hflat)
  intro X ρ w a Q K r hn hK
  refine h X ρ w a Q K r hn ?_
  rintro d ups v w' X' ρ' ⟨e1, r', e2, e3⟩ st hcell hob
  exact hK d ups v w' X' ρ' ⟨by rw [e2, e3], e1⟩ st hcell hob
theorem DV_arr {p n sz : Nat} {xs : List (List V)} (hp : H p = .arr sz (vrows xs)) (hn : n = xs.length) : DV H (.arr p 0 n) (.sl sz false xs) := by
  subst hn
  exact ⟨rfl, _, hp, by rw [List.drop_zero, List.take_of_length_le (by simp)], rfl⟩
end
theorem idxMap {α β : Type} {f : α → β} {l : List α} {i : Nat} {K : β → Prop} (h : i < l.length) (hk : ∀ x, l[i]? = some x → K (f x)) : ∃ r, (l.map f)[i]? = some r ∧ K r :=
  ⟨f l[i], by simp [h], hk l[i] (by simp [h])⟩
/-- The same place read once more. -/
theorem idxOld {α β : Type} {f : α → β} {l : List α} {i : Nat} {x : α} {K : β → Prop} (h : l[i]? = some x) (hk : K (f x)) : ∃ r, (l.map f)[i]? = some r ∧ K r := ⟨f x, by simp [h], hk⟩
/-- A row of the caller's array: one read before, and a new one. -/
theorem rowOld {α : Type} {f : α → List V} {l : List α} {i : Nat} {x : α} {K : List D → Prop} (h : l[i]? = some x) (hk : K ((f x).map D.v)) : rowK (vrows (l.map f))[i]? K := by
  have e : (vrows (l.map f))[i]? = some ((f x).map D.v) := by simp [vrows, h]
  unfold rowK; rw [e]; exact hk
theorem rowSet {rows : List (List D)} {i : Nat} {r : List D} {K : List D → Prop} (h : i < rows.length) (hk : K r) : rowK (rows.set i r)[i]? K := by
  have e : (rows.set i r)[i]? = some r := by simp [h]
  unfold rowK; rw [e]; exact hk
theorem rowNew {α : Type} {f : α → List V} {l : List α} {i : Nat} {K : List D → Prop} (h : i < l.length) (hk : ∀ x, l[i]? = some x → K ((f x).map D.v)) : rowK (vrows (l.map f))[i]? K :=
  rowOld (List.getElem?_eq_getElem h) (hk _ (List.getElem?_eq_getElem h))
theorem leInt {o : Option D} {k : IntKind} {x y : Int} (h : o = some (.v (.int k x))) (e : x = y) : o = some (.v (.int k y)) := by rw [h, e]
theorem leArr {o : Option D} {p p' n n' : Nat} (h : o = some (.arr p 0 n)) (e : n = n') (e' : p = p') : o = some (.arr p' 0 n') := by rw [h, e, e']
theorem leBool {o : Option D} {x y : Bool} (h : o = some (.v (.bool x))) (e : x = y) : o = some (.v (.bool y)) := by rw [h, e]
theorem wd (x : Int) : IntKind.wrap .i64 x = (x + 9223372036854775808) % 18446744073709551616 - 9223372036854775808 := by
  simp [IntKind.wrap, IntKind.bits, IntKind.signed]
  omega
theorem td {x c : Int} (hc : 0 < c) : x.tdiv c = if 0 ≤ x then x / c else - ((-x) / c) := by
  split
  · exact Int.tdiv_eq_ediv_of_nonneg (by omega)
  · rw [show x = - (-x) by omega, Int.neg_tdiv, Int.tdiv_eq_ediv_of_nonneg (by omega)]; simp
theorem tm {x c : Int} (hc : 0 < c) : x.tmod c = x - c * (if 0 ≤ x then x / c else - ((-x) / c)) := by
  have := Int.mul_tdiv_add_tmod x c
  rw [td hc] at this; omega
theorem min_if (a b : Int) : (if a < b then a else b) = min b a := by split <;> omega
theorem max_if (a b : Int) : (if b < a then a else b) = max b a := by split <;> omega
attribute [irreducible] CallAt CallRd
end Go.DL
