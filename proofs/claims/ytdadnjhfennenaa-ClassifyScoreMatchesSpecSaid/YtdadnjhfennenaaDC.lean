/- Merged: Dl18, Dl19, Dl20, Dl21, Dl22, Dl23, Dl24, Dl25, Dl26, Dl27, Dl28, Dl29, Dl30, Dl31, Dl32, Dl33, Dl34, Dl35, Dl36, Dl37. Own work; no condition. -/
import Derived.Test.YtdadnjhfennenaaDB
import Derived.Lib.Bytealg
import Derived.Scope
/- DL, part 18: the walk as one function; calls told by what they are called with. Own work; no condition. -/
set_option linter.unusedVariables false
set_option linter.unusedSimpArgs false
namespace Go.DL
open Go.RowKit

section
variable {P : Program} {T : Tab P} {m N : Nat}
def condK (d : Option D) (A B : Prop) : Prop := match d with
  | some (.v (.bool b)) => Br b A B
  | _ => False
theorem condK_out {d : Option D} {A B : Prop} (h : condK d A B) : ∃ b, d = some (.v (.bool b)) ∧ Br b A B := by
  unfold condK at h
  split at h
  · exact ⟨_, rfl, h⟩
  · exact h.elim
abbrev WM := St → (Exit → St → Prop) → Prop
def walkSkip : WM := fun σ Q => Q .normal σ
def walkRegion (T : Tab P) (N : Nat) (ops : Array Oper) (draw : Bool) : WM := fun σ Q => match draw with
  | false => stepR T N ops.toList ops.toList σ (Q .normal)
  | true => endK σ fun σ => drawR T N ops.toList ops.toList [] σ (drawEnd ops.toList (Q .normal))
def walkSeq (x y : WM) : WM := fun σ Q => x σ (thenQ (fun σ' => y σ' Q) Q)
def walkCond (T : Tab P) (c : Operand) (x y : WM) : WM := fun σ Q => condK (ev T (look σ.env) 0 c) (x σ Q) (y σ Q)
def walkBlock (id : Nat) (x : WM) : WM := fun σ Q => x σ (inBlockQ id Q)
def walkExit (id : Nat) : WM := fun σ Q => Q (.exit id) σ
def walkRet : WM := fun σ Q => Q .ret σ
def walkElse (T : Tab P) (m N : Nat) (c : Code) : WM := fun σ Q => WpD T m N c σ Q
noncomputable def walkC (T : Tab P) (m N : Nat) (c : Code) : WM :=
  Code.rec (motive := fun _ => WM) walkSkip (fun _ ops draw => walkRegion T N ops draw) (fun _ _ x y => walkSeq x y) (fun c _ _ x y => walkCond T c x y) (fun id _ x => walkBlock id x)
    (fun c _ => walkElse T m N (.loop c)) (fun f ps a b _ _ => walkElse T m N (.rangeFunc f ps a b)) walkExit (fun b _ => walkElse T m N (.scope b)) (fun l => walkElse T m N (.label l)) (fun l => walkElse T m N (.goto l)) walkRet (fun s => walkElse T m N (.refuse s)) c
theorem walkC_ok : ∀ (c : Code) (σ : St) (Q : Exit → St → Prop), walkC T m N c σ Q → WpD T m N c σ Q
  | .skip, σ, Q, h => WpD.skip h
  | .exit id, σ, Q, h => WpD.exit h
  | .ret, σ, Q, h => WpD.ret h
  | .seq x y, σ, Q, h => WpD.seq ((walkC_ok x σ _ h).mono fun e σ' q => by
      cases e with
      | normal => exact walkC_ok y σ' Q q
      | _ => exact q)
  | .cond c x y, σ, Q, h => by
    obtain ⟨b, hb, hbr⟩ := condK_out (A := walkC T m N x σ Q) (B := walkC T m N y σ Q) h
    exact WpD.cond hb ⟨fun e => walkC_ok x σ Q (hbr.t e), fun e => walkC_ok y σ Q (hbr.f e)⟩
  | .block id x, σ, Q, h => WpD.block (walkC_ok x σ _ h)
  | .region _ ops false, σ, Q, h => WpD.region h
  | .region _ ops true, σ, Q, h => WpD.draw h
  | .loop c, σ, Q, h => h
  | .rangeFunc .., σ, Q, h => h
  | .scope _, σ, Q, h => h
  | .label _, σ, Q, h => h
  | .goto _, σ, Q, h => h
  | .refuse _, σ, Q, h => h
def plainC : Code → Bool
  | .loop _ => false
  | .rangeFunc .. => false
  | .scope _ => false
  | .label _ => false
  | .goto _ => false
  | .refuse _ => false
  | _ => true
theorem WpD.walk {c : Code} {σ : St} {Q : Exit → St → Prop} (h0 : plainC c = true) (h : walkC T m N c σ Q) : WpD T m N c σ Q := walkC_ok c σ Q h
theorem WpD.id {c : Code} {σ : St} {Q : Exit → St → Prop} (h : WpD T m N c σ Q) : WpD T m N c σ Q := h
theorem Br.id {b : Bool} {A B : Prop} (h : Br b A B) : Br b A B := h
variable {o : Oper} {E : Nat → Option D} {H : Nat → Ob} {nx : Nat} {K : KT} {c : Call} {f : FuncId} {x : Operand} {ds caps : List D} {vargs : List V}
theorem CallOp.id (h : CallOp T o E H nx K) : CallOp T o E H nx K := h
theorem CallDet.id (h : CallDet T o E H nx K) : CallDet T o E H nx K := h
/-- A call of function f with closed data. -/
def CallAt (T : Tab P) (f : FuncId) (vs : List V) (K : V → Prop) : Prop := ∃ r0, CallV T f vs (· = r0) ∧ K r0
theorem CallAt.id {vs : List V} {K : V → Prop} (h : CallAt T f vs K) : CallAt T f vs K := h
theorem CallAt.mk1 {vs : List V} {K : V → Prop} {r0 : V} (hC : CallV T f vs (· = r0)) (hK : K r0) : CallAt T f vs K := ⟨r0, hC, hK⟩
theorem CallAt.mkP {p : Prop} {vs : List V} {K : V → Prop} {r0 : V} (hC : p → CallV T f vs (· = r0)) (hp : p) (hK : K r0) : CallAt T f vs K := ⟨r0, hC hp, hK⟩
theorem call_at (ho : o.op = .call c) (hc : c.callee = .value x) (hx : callee (ev T E 0 x) = some (f, caps)) (hargs : evL T E c.args.toList c.argTypes.toList = some ds) (hv : D.toVs (ds ++ caps) = some vargs)
    (h : CallAt T f vargs fun r => K (.v r) [] []) : CallOp T o E H nx K := by
  obtain ⟨r0, hC, hK⟩ := h
  exact call_pure1 hC ho hc hx hargs hv hK
theorem call_atD (ho : o.op = .call c) (hc : c.callee = .value x) (hx : callee (ev T E 0 x) = some (f, caps)) (hargs : evL T E c.args.toList c.argTypes.toList = some ds) (hv : D.toVs (ds ++ caps) = some vargs)
    (h : CallAt T f vargs fun r => K (.v r) [] []) : CallDet T o E H nx K := by
  obtain ⟨r0, hC, hK⟩ := h
  exact call_pureD hC ho hc hx hargs hv hK
end

/-! ##### calls that read the caller's objects -/
def vOnly : List D → Bool
  | [] => true
  | .v _ :: r => vOnly r
  | _ :: _ => false
def vsOf : List D → List V
  | .v x :: r => x :: vsOf r
  | _ => []
theorem vsOf_eq : ∀ {r : List D}, vOnly r = true → r = (vsOf r).map D.v
  | [], _ => rfl
  | .v x :: r, h => by simp only [vsOf, List.map_cons]; rw [← vsOf_eq (r := r) h]
  | .any :: _, h => by cases h
  | .arr .. :: _, h => by cases h
  | .ptr .. :: _, h => by cases h
  | .agg _ :: _, h => by cases h
  | .tup _ :: _, h => by cases h
  | .fn .. :: _, h => by cases h
mutual
def D.toVH (H : Nat → Ob) : D → Option V
  | .v x => some x
  | .arr p o n => match H p with
    | .arr sz rows => match ((rows.drop o).take n).all vOnly, Nat.beq ((rows.drop o).take n).length n with
      | true, true => some (.sl sz false (((rows.drop o).take n).map vsOf))
      | _, _ => none
    | _ => none
  | .ptr p i j => match H p with
    | .arr sz rows => match rows[i]? with
      | some row => match vOnly (row.drop j) with | true => some (.iptr (vsOf (row.drop j))) | false => none
      | none => none
    | _ => none
  | .agg ds => (D.toVHs H ds).map .agg
  | .tup ds => (D.toVHs H ds).map .tup
  | .fn f ds => (D.toVHs H ds).map (.fn f)
  | .any => none
def D.toVHs (H : Nat → Ob) : List D → Option (List V)
  | [] => some []
  | d :: ds => match D.toVH H d, D.toVHs H ds with
    | some x, some xs => some (x :: xs)
    | _, _ => none
end
mutual
theorem D.toVH_ok {H : Nat → Ob} : ∀ (d : D) {x : V}, D.toVH H d = some x → DV H d x
  | .v y, x, h => by simp [D.toVH] at h; subst h; exact rfl
  | .any, x, h => by simp [D.toVH] at h
  | .arr p o n, x, h => by
    simp only [D.toVH] at h
    split at h
    · rename_i sz rows hp
      split at h
      · rename_i h1 h2
        injection h with h; subst h
        refine ⟨rfl, rows, hp, ?_, by simpa using Nat.eq_of_beq_eq_true h2⟩
        rw [List.map_map]
        rw [List.all_eq_true] at h1
        exact (List.map_id _).symm.trans (List.map_congr_left fun r hr => vsOf_eq (h1 r hr))
      · cases h
    · cases h
  | .ptr p i j, x, h => by
    simp only [D.toVH] at h
    split at h
    · rename_i sz rows hp
      split at h
      · rename_i row hr
        split at h
        · rename_i hv
          injection h with h; subst h
          exact ⟨sz, rows, row, hp, hr, vsOf_eq hv⟩
        · cases h
      · cases h
    · cases h
  | .agg ds, x, h => by
    simp only [D.toVH, Option.map_eq_some_iff] at h
    obtain ⟨xs, hx, rfl⟩ := h
    exact D.toVHs_ok ds hx
  | .tup ds, x, h => by
    simp only [D.toVH, Option.map_eq_some_iff] at h
    obtain ⟨xs, hx, rfl⟩ := h
    exact D.toVHs_ok ds hx
  | .fn f ds, x, h => by
    simp only [D.toVH, Option.map_eq_some_iff] at h
    obtain ⟨xs, hx, rfl⟩ := h
    exact ⟨rfl, D.toVHs_ok ds hx⟩
theorem D.toVHs_ok {H : Nat → Ob} : ∀ (ds : List D) {xs : List V}, D.toVHs H ds = some xs → DVs H ds xs
  | [], xs, h => by simp [D.toVHs] at h; subst h; trivial
  | d :: ds, xs, h => by
    simp only [D.toVHs] at h
    split at h
    · rename_i y ys hy hys
      injection h with h; subst h
      exact ⟨D.toVH_ok d hy, D.toVHs_ok ds hys⟩
    · cases h
end
section
variable {P : Program} {T : Tab P}
variable {o : Oper} {E : Nat → Option D} {H : Nat → Ob} {nx : Nat} {K : KT} {c : Call} {f : FuncId} {x : Operand} {ds caps : List D} {vargs : List V}
/-- A call of function f that reads the caller's objects and gives data without references. -/
def CallRd (T : Tab P) (f : FuncId) (vs : List V) (K : V → Prop) : Prop := ∃ r0, CallV T f vs (· = r0) ∧ r0.flat = true ∧ K r0
theorem CallRd.id {vs : List V} {K : V → Prop} (h : CallRd T f vs K) : CallRd T f vs K := h
theorem CallRd.mk1 {vs : List V} {K : V → Prop} {r0 : V} (hC : CallV T f vs (· = r0)) (hf : r0.flat = true) (hK : K r0) : CallRd T f vs K := ⟨r0, hC, hf, hK⟩
theorem CallRd.mkP {p : Prop} {vs : List V} {K : V → Prop} {r0 : V} (hC : p → CallV T f vs (· = r0)) (hf : r0.flat = true) (hp : p) (hK : K r0) : CallRd T f vs K := ⟨r0, hC hp, hf, hK⟩
theorem call_rd (ho : o.op = .call c) (hc : c.callee = .value x) (hx : callee (ev T E 0 x) = some (f, caps)) (hargs : evL T E c.args.toList c.argTypes.toList = some ds) (hv : D.toVHs H (ds ++ caps) = some vargs)
    (h : CallRd T f vargs fun r => K (.v r) [] []) : CallOp T o E H nx K := by
  obtain ⟨r0, hC, hf, hK⟩ := h
  exact call_read hC ho hc hx hargs (D.toVHs_ok _ hv) (fun r h => by rw [h]; exact hf) fun r h => by rw [h]; exact hK
theorem call_rdD (ho : o.op = .call c) (hc : c.callee = .value x) (hx : callee (ev T E 0 x) = some (f, caps)) (hargs : evL T E c.args.toList c.argTypes.toList = some ds) (hv : D.toVHs H (ds ++ caps) = some vargs)
    (h : CallRd T f vargs fun r => K (.v r) [] []) : CallDet T o E H nx K := by
  obtain ⟨r0, hC, hflat, hK⟩ := h
  refine CallDet.mk (nw := []) (d := .v r0) (ups := []) (by simp) ?_ hK
  have h := call_read_does (H := H) hC ho hc hx hargs (D.toVHs_ok _ hv) (fun r h => by rw [h]; exact hflat)
  intro X ρ w a Q K r hn hK
  refine h X ρ w a Q K r hn ?_
  rintro d ups v w' X' ρ' ⟨e1, r', e2, e3⟩ st hcell hob
  exact hK d ups v w' X' ρ' ⟨by rw [e2, e3], e1⟩ st hcell hob
theorem call_rdV {r0 : V} (hC : CallV T f vargs (· = r0)) (ho : o.op = .call c) (hc : c.callee = .value x) (hx : callee (ev T E 0 x) = some (f, caps)) (hargs : evL T E c.args.toList c.argTypes.toList = some ds) (hv : DVs H (ds ++ caps) vargs)
    (hflat : r0.flat = true) (hK : K (.v r0) [] []) : CallOp T o E H nx K := call_read hC ho hc hx hargs hv (fun r h => by rw [h]; exact hflat) fun r h => by rw [h]; exact hK
theorem call_rdVD {r0 : V} (hC : CallV T f vargs (· = r0)) (ho : o.op = .call c) (hc : c.callee = .value x) (hx : callee (ev T E 0 x) = some (f, caps)) (hargs : evL T E c.args.toList c.argTypes.toList = some ds) (hv : DVs H (ds ++ caps) vargs)
    (hflat : r0.flat = true) (hK : K (.v r0) [] []) : CallDet T o E H nx K := by
  refine CallDet.mk (nw := []) (d := .v r0) (ups := []) (by simp) ?_ hK
  have h := call_read_does (H := H) hC ho hc hx hargs hv (fun r h => by rw [h]; exact hflat)
  intro X ρ w a Q K r hn hK
  refine h X ρ w a Q K r hn ?_
  rintro d ups v w' X' ρ' ⟨e1, r', e2, e3⟩ st hcell hob
  exact hK d ups v w' X' ρ' ⟨by rw [e2, e3], e1⟩ st hcell hob
theorem DV_arr {p n sz : Nat} {xs : List (List V)} (hp : H p = .arr sz (vrows xs)) (hn : n = xs.length) : DV H (.arr p 0 n) (.sl sz false xs) := by
  subst hn
  exact ⟨rfl, _, hp, by rw [List.drop_zero, List.take_of_length_le (by simp)], rfl⟩
end
theorem idxMap {α β : Type} {f : α → β} {l : List α} {i : Nat} {K : β → Prop} (h : i < l.length) (hk : ∀ x, l[i]? = some x → K (f x)) : ∃ r, (l.map f)[i]? = some r ∧ K r :=
  ⟨f l[i], by simp [h], hk l[i] (by simp [h])⟩
/-- The same place read once more. -/
theorem idxOld {α β : Type} {f : α → β} {l : List α} {i : Nat} {x : α} {K : β → Prop} (h : l[i]? = some x) (hk : K (f x)) : ∃ r, (l.map f)[i]? = some r ∧ K r := ⟨f x, by simp [h], hk⟩
/-- A row of the caller's array: one read before, and a new one. -/
theorem rowOld {α : Type} {f : α → List V} {l : List α} {i : Nat} {x : α} {K : List D → Prop} (h : l[i]? = some x) (hk : K ((f x).map D.v)) : rowK (vrows (l.map f))[i]? K := by
  have e : (vrows (l.map f))[i]? = some ((f x).map D.v) := by simp [vrows, h]
  unfold rowK; rw [e]; exact hk
theorem rowSet {rows : List (List D)} {i : Nat} {r : List D} {K : List D → Prop} (h : i < rows.length) (hk : K r) : rowK (rows.set i r)[i]? K := by
  have e : (rows.set i r)[i]? = some r := by simp [h]
  unfold rowK; rw [e]; exact hk
theorem rowNew {α : Type} {f : α → List V} {l : List α} {i : Nat} {K : List D → Prop} (h : i < l.length) (hk : ∀ x, l[i]? = some x → K ((f x).map D.v)) : rowK (vrows (l.map f))[i]? K :=
  rowOld (List.getElem?_eq_getElem h) (hk _ (List.getElem?_eq_getElem h))
theorem leInt {o : Option D} {k : IntKind} {x y : Int} (h : o = some (.v (.int k x))) (e : x = y) : o = some (.v (.int k y)) := by rw [h, e]
theorem leArr {o : Option D} {p p' n n' : Nat} (h : o = some (.arr p 0 n)) (e : n = n') (e' : p = p') : o = some (.arr p' 0 n') := by rw [h, e, e']
theorem leBool {o : Option D} {x y : Bool} (h : o = some (.v (.bool x))) (e : x = y) : o = some (.v (.bool y)) := by rw [h, e]
theorem wd (x : Int) : IntKind.wrap .i64 x = (x + 9223372036854775808) % 18446744073709551616 - 9223372036854775808 := by
  simp [IntKind.wrap, IntKind.bits, IntKind.signed]
  omega
theorem td {x c : Int} (hc : 0 < c) : x.tdiv c = if 0 ≤ x then x / c else - ((-x) / c) := by
  split
  · exact Int.tdiv_eq_ediv_of_nonneg (by omega)
  · rw [show x = - (-x) by omega, Int.neg_tdiv, Int.tdiv_eq_ediv_of_nonneg (by omega)]; simp
theorem tm {x c : Int} (hc : 0 < c) : x.tmod c = x - c * (if 0 ≤ x then x / c else - ((-x) / c)) := by
  have := Int.mul_tdiv_add_tmod x c
  rw [td hc] at this; omega
theorem min_if (a b : Int) : (if a < b then a else b) = min b a := by split <;> omega
theorem max_if (a b : Int) : (if b < a then a else b) = max b a := by split <;> omega
attribute [irreducible] CallAt CallRd
end Go.DL

/- DL, part 19: sorted lists with keys. Own work; no condition. -/
set_option linter.unusedVariables false
set_option linter.unusedSimpArgs false
namespace Go.DL

/-- A strict order of keys in which any two are comparable. -/
structure LinOrd {κ : Type} (lt : κ → κ → Bool) : Prop where
  irrefl : ∀ a, lt a a = false
  trans : ∀ {a b c}, lt a b = true → lt b c = true → lt a c = true
  tri : ∀ a b, lt a b = true ∨ a = b ∨ lt b a = true
theorem sOrd : LinOrd sLt := ⟨sLt_irrefl, fun h k => sLt_trans h k, sLt_tri⟩
section
variable {κ : Type} {lt : κ → κ → Bool}
theorem LinOrd.asymm (o : LinOrd lt) {a b : κ} (h : lt a b = true) : lt b a = false := by
  cases hb : lt b a with
  | false => rfl
  | true => have := o.trans h hb; rw [o.irrefl] at this; cases this
theorem LinOrd.ne (o : LinOrd lt) {a b : κ} (h : lt a b = true) : a ≠ b := by
  rintro rfl; rw [o.irrefl] at h; cases h
end
section
variable {α κ : Type} {lt : κ → κ → Bool} {key : α → κ}
variable (lt key) in
def SortL (l : List α) : Prop := l.Pairwise fun x y => lt (key x) (key y) = true
variable (lt key) in
/-- How many keys are ahead. -/
def posL (k : κ) (l : List α) : Nat := l.findIdx fun x => !lt (key x) k
theorem posL_le (k : κ) (l : List α) : posL lt key k l ≤ l.length := List.findIdx_le_length
theorem posL_eq {k : κ} {l : List α} {i : Nat} (h0 : i ≤ l.length) (h1 : ∀ (j : Nat) x, j < i → l[j]? = some x → lt (key x) k = true) (h2 : ∀ x, l[i]? = some x → lt (key x) k = false) : posL lt key k l = i := by
  unfold posL
  by_cases h : i < l.length
  · rw [List.findIdx_eq h]
    refine ⟨by simp [h2 l[i] (by simp [h])], fun j hj => ?_⟩
    simp [h1 j l[j] hj (by simp)]
  · have : i = l.length := by omega
    subst this
    rw [List.findIdx_eq_length]
    intro x hx
    obtain ⟨j, hj, rfl⟩ := List.mem_iff_getElem.1 hx
    simp [h1 j l[j] hj (by simp [hj])]
theorem sort_get {l : List α} (h : SortL lt key l) {i j : Nat} {x y : α} (hij : i < j) (hx : l[i]? = some x) (hy : l[j]? = some y) : lt (key x) (key y) = true := by
  unfold SortL at h
  rw [List.pairwise_iff_getElem] at h
  obtain ⟨hi, rfl⟩ := List.getElem?_eq_some_iff.1 hx
  obtain ⟨hj, rfl⟩ := List.getElem?_eq_some_iff.1 hy
  exact h i j hi hj hij
/-- A list without some of its elements. -/
theorem sort_filter {l : List α} (p : α → Bool) (h : SortL lt key l) : SortL lt key (l.filter p) := List.Pairwise.filter p h
end
section
variable {α κ : Type} [DecidableEq κ] {lt : κ → κ → Bool} {key : α → κ}
variable (lt key) in
def putL (y : α) : List α → List α
  | [] => [y]
  | x :: r => if lt (key x) (key y) = true then x :: putL y r else if key x = key y then y :: r else y :: x :: r
variable (key) in
def getL (k : κ) : List α → Option α
  | [] => none
  | x :: r => if key x = k then some x else getL k r
theorem getL_none {k : κ} : ∀ {l : List α}, (∀ x ∈ l, key x ≠ k) → getL key k l = none
  | [], _ => rfl
  | x :: r, h => by
    simp only [getL, if_neg (h x List.mem_cons_self)]
    exact getL_none fun y hy => h y (List.mem_cons_of_mem _ hy)
theorem getL_mem {k : κ} : ∀ {l : List α} {x : α}, getL key k l = some x → x ∈ l ∧ key x = k
  | [], x, h => by simp [getL] at h
  | y :: r, x, h => by
    simp only [getL] at h
    split at h
    · injection h with h; subst h; exact ⟨List.mem_cons_self, by assumption⟩
    · obtain ⟨h1, h2⟩ := getL_mem h; exact ⟨List.mem_cons_of_mem _ h1, h2⟩
theorem getL_is (o : LinOrd lt) : ∀ {l : List α} {x : α}, SortL lt key l → x ∈ l → getL key (key x) l = some x
  | [], x, _, h => by cases h
  | y :: r, x, hs, h => by
    unfold SortL at hs
    rw [List.pairwise_cons] at hs
    simp only [getL]
    rcases List.mem_cons.1 h with rfl | h
    · rw [if_pos rfl]
    · rw [if_neg (o.ne (hs.1 x h))]; exact getL_is o hs.2 h
theorem mem_putL {y x : α} : ∀ {l : List α}, x ∈ putL lt key y l → x = y ∨ x ∈ l
  | [], h => by simp [putL] at h; exact .inl h
  | z :: r, h => by
    simp only [putL] at h
    split at h
    · rcases List.mem_cons.1 h with rfl | h
      · exact .inr List.mem_cons_self
      · rcases mem_putL h with h | h
        · exact .inl h
        · exact .inr (List.mem_cons_of_mem _ h)
    · split at h
      · rcases List.mem_cons.1 h with rfl | h
        · exact .inl rfl
        · exact .inr (List.mem_cons_of_mem _ h)
      · rcases List.mem_cons.1 h with rfl | h
        · exact .inl rfl
        · exact .inr h
theorem sort_putL (o : LinOrd lt) (y : α) : ∀ {l : List α}, SortL lt key l → SortL lt key (putL lt key y l)
  | [], _ => by simp [putL, SortL]
  | x :: r, hs => by
    have hs' := hs
    unfold SortL at hs
    rw [List.pairwise_cons] at hs
    simp only [putL]
    split
    · rename_i h
      refine List.pairwise_cons.2 ⟨fun z hz => ?_, sort_putL o y hs.2⟩
      rcases mem_putL hz with rfl | hz
      · exact h
      · exact hs.1 z hz
    · split
      · rename_i h e
        exact List.pairwise_cons.2 ⟨fun z hz => e ▸ hs.1 z hz, hs.2⟩
      · rename_i h e
        have hyx : lt (key y) (key x) = true := (o.tri (key y) (key x)).elim id fun h' => h'.elim (fun h' => absurd h'.symm e) fun h' => absurd h' h
        refine List.pairwise_cons.2 ⟨fun z hz => ?_, hs'⟩
        rcases List.mem_cons.1 hz with rfl | hz
        · exact hyx
        · exact o.trans hyx (hs.1 z hz)
theorem getL_putL (o : LinOrd lt) (y : α) (k : κ) : ∀ {l : List α}, SortL lt key l → getL key k (putL lt key y l) = if key y = k then some y else getL key k l
  | [], _ => by simp [putL, getL]
  | x :: r, hs => by
    unfold SortL at hs
    rw [List.pairwise_cons] at hs
    simp only [putL]
    split
    · rename_i h
      simp only [getL]
      rw [getL_putL o y k hs.2]
      by_cases hx : key x = k
      · rw [if_pos hx, if_pos hx, if_neg (by rw [← hx]; exact (o.ne h).symm)]
      · rw [if_neg hx, if_neg hx]
    · split
      · rename_i h e
        simp only [getL, e]
        by_cases hy : key y = k
        · rw [if_pos hy, if_pos hy]
        · rw [if_neg hy, if_neg hy, if_neg hy]
      · simp only [getL]
theorem length_putL (o : LinOrd lt) (y : α) : ∀ {l : List α}, SortL lt key l → (putL lt key y l).length = l.length + (if (getL key (key y) l).isSome then 0 else 1)
  | [], _ => by simp [putL, getL]
  | x :: r, hs => by
    have hs' := hs
    unfold SortL at hs
    rw [List.pairwise_cons] at hs
    simp only [putL]
    split
    · rename_i h
      simp only [getL, if_neg (o.ne h), List.length_cons]
      rw [length_putL o y hs.2]; omega
    · split
      · rename_i h e
        simp [getL, e]
      · rename_i h e
        have hyx : lt (key y) (key x) = true := (o.tri (key y) (key x)).elim id fun h' => h'.elim (fun h' => absurd h'.symm e) fun h' => absurd h' h
        rw [getL_none (fun z hz => ?_)]
        · simp
        · rcases List.mem_cons.1 hz with rfl | hz
          · exact e
          · exact (o.ne (o.trans hyx (hs.1 z hz))).symm
/-- Sorted lists in which the same is found are the same. -/
theorem ext_getL (o : LinOrd lt) : ∀ {l m : List α}, SortL lt key l → SortL lt key m → (∀ k, getL key k l = getL key k m) → l = m
  | [], [], _, _, _ => rfl
  | [], y :: m, _, _, h => by have := h (key y); simp [getL] at this
  | x :: l, [], _, _, h => by have := h (key x); simp [getL] at this
  | x :: l, y :: m, hl, hm, h => by
    have hl0 := hl
    have hm0 := hm
    unfold SortL at hl hm
    rw [List.pairwise_cons] at hl hm
    have hk : key x = key y := by
      rcases o.tri (key x) (key y) with h1 | h1 | h1
      · have := h (key x)
        rw [getL_is o hl0 List.mem_cons_self, getL_none (l := y :: m)] at this
        · cases this
        · intro z hz
          rcases List.mem_cons.1 hz with rfl | hz
          · exact (o.ne h1).symm
          · exact (o.ne (o.trans h1 (hm.1 z hz))).symm
      · exact h1
      · have := h (key y)
        rw [getL_is o hm0 List.mem_cons_self, getL_none (l := x :: l)] at this
        · cases this
        · intro z hz
          rcases List.mem_cons.1 hz with rfl | hz
          · exact (o.ne h1).symm
          · exact (o.ne (o.trans h1 (hl.1 z hz))).symm
    have hxy : x = y := by
      have := h (key x)
      rw [getL_is o hl0 List.mem_cons_self, hk, getL_is o hm0 List.mem_cons_self] at this
      injection this
    subst hxy
    congr 1
    refine ext_getL o hl.2 hm.2 fun k => ?_
    have := h k
    simp only [getL] at this
    split at this
    · rename_i e
      rw [getL_none, getL_none]
      · intro z hz; rw [← e]; exact (o.ne (hm.1 z hz)).symm
      · intro z hz; rw [← e]; exact (o.ne (hl.1 z hz)).symm
    · exact this
theorem putL_pos (y : α) : ∀ (l : List α), putL lt key y l = l.take (posL lt key (key y) l) ++ y :: l.drop (posL lt key (key y) l + if ((l[posL lt key (key y) l]?).map key) = some (key y) then 1 else 0)
  | [] => by simp [putL, posL]
  | x :: r => by
    simp only [putL, posL, List.findIdx_cons]
    by_cases h : lt (key x) (key y) = true
    · rw [if_pos h, putL_pos y r, h]
      simp [posL, Nat.add_right_comm _ 1]
    · rw [if_neg h]
      simp only [h, Bool.not_false, cond_true, List.take_zero, List.nil_append, List.getElem?_cons_zero, Option.map_some, Nat.zero_add]
      by_cases e : key x = key y
      · rw [if_pos e, if_pos (by rw [e])]; simp
      · rw [if_neg e, if_neg (by simpa using e)]; simp
variable (lt key) in
/-- Is the key there? -/
def hasL (k : κ) (l : List α) : Bool := match l[posL lt key k l]? with | some x => decide (key x = k) | none => false
theorem getL_pos (o : LinOrd lt) {l : List α} (hs : SortL lt key l) (k : κ) : getL key k l = match l[posL lt key k l]? with | some x => if key x = k then some x else none | none => none := by
  induction l with
  | nil => simp [getL, posL]
  | cons x r ih =>
    have hs0 := hs
    unfold SortL at hs
    rw [List.pairwise_cons] at hs
    simp only [getL, posL, List.findIdx_cons]
    by_cases h : lt (key x) k = true
    · rw [if_neg (o.ne h), h]
      simp only [Bool.not_true, cond_false, List.getElem?_cons_succ]
      exact ih hs.2
    · simp only [h, Bool.not_false, cond_true, List.getElem?_cons_zero]
      split
      · rfl
      · rename_i e
        refine getL_none fun z hz => ?_
        have hkx : lt k (key x) = true := (o.tri k (key x)).elim id fun h' => h'.elim (fun h' => absurd h'.symm e) fun h' => absurd h' h
        exact (o.ne (o.trans hkx (hs.1 z hz))).symm
theorem hasL_get (o : LinOrd lt) {l : List α} (hs : SortL lt key l) {k : κ} : hasL lt key k l = (getL key k l).isSome := by
  rw [getL_pos o hs]
  unfold hasL
  split
  · rename_i x hx
    by_cases e : key x = k
    · simp [e]
    · simp [e]
  · rfl
/-- The one who is there: place, key, found. -/
theorem hasL_at (o : LinOrd lt) {l : List α} (hs : SortL lt key l) {k : κ} (h : hasL lt key k l = true) : ∃ x, l[posL lt key k l]? = some x ∧ key x = k ∧ getL key k l = some x := by
  have h' := h
  unfold hasL at h
  split at h
  · rename_i x hx
    have e : key x = k := by simpa using h
    refine ⟨x, hx, e, ?_⟩
    rw [getL_pos o hs, hx]; simp [e]
  · cases h
theorem hasL_no (o : LinOrd lt) {l : List α} (hs : SortL lt key l) {k : κ} (h : hasL lt key k l = false) : getL key k l = none := by
  rw [hasL_get o hs] at h; simpa using h
theorem getL_filter (o : LinOrd lt) (p : α → Bool) {k : κ} : ∀ {l : List α}, SortL lt key l → getL key k (l.filter p) = (getL key k l).bind fun x => if p x then some x else none
  | [], _ => rfl
  | x :: r, hs => by
    have hs0 := hs
    unfold SortL at hs
    rw [List.pairwise_cons] at hs
    by_cases e : key x = k
    · have hn : getL key k (r.filter p) = none := getL_none fun z hz => by rw [← e]; exact (o.ne (hs.1 z (List.mem_filter.1 hz).1)).symm
      rw [List.filter_cons]
      split
      · rename_i hp; simp [getL, e, hp]
      · rename_i hp; rw [hn]; simp [getL, e, hp]
    · rw [List.filter_cons]
      split
      · simp only [getL, if_neg e]; exact getL_filter o p hs.2
      · simp only [getL, if_neg e]; exact getL_filter o p hs.2
end
end Go.DL

/- DL, part 20: the first fault of a list; helpers for lists. Own work; no condition. -/
set_option linter.unusedVariables false
set_option linter.unusedSimpArgs false
namespace Go.DL

theorem lt_get {α : Type} {l : List α} {k : Nat} {x : α} (h : l[k]? = some x) : k < l.length := (List.getElem?_eq_some_iff.1 h).1
theorem drop_get' {α : Type} {l : List α} {k : Nat} {x : α} (h : l[k]? = some x) : l.drop k = x :: l.drop (k + 1) := by
  have hk := lt_get h
  rw [List.drop_eq_getElem_cons hk]; congr 1; exact (List.getElem?_eq_some_iff.1 h).2
theorem take_get {α : Type} {l : List α} {k : Nat} {x : α} (h : l[k]? = some x) : l.take (k + 1) = l.take k ++ [x] := by
  rw [List.take_add_one, h]; rfl
/-- The one before. -/
def prevL {α : Type} (l : List α) (k : Nat) : Option α := if k = 0 then none else l[((k : Int) - 1).toNat]?
/-- The first element that a test finds fault with, from position i on, behind p. -/
def vfl {α : Type} (chk : Option α → α → Int) : Nat → Option α → List α → Int × Int
  | _, _, [] => (0, 0)
  | i, p, x :: r => if chk p x ≠ 0 then (chk p x, i) else vfl chk (i + 1) (some x) r
section
variable {α : Type} {chk : Option α → α → Int} {l : List α} {k : Nat} {x y : α} {f : Int × Int} {c : Int}
theorem prevL_0 (h : ¬ 0 < (k : Int)) : prevL l k = none := by unfold prevL; rw [if_pos (by omega)]
theorem prevL_s (h : 0 < (k : Int)) (hy : l[((k : Int) - 1).toNat]? = some y) : prevL l k = some y := by unfold prevL; rw [if_neg (by omega), hy]
theorem prevL_next (h : l[k]? = some x) : prevL l (k + 1) = some x := by
  unfold prevL; rw [if_neg (by omega), show ((k + 1 : Nat) : Int) - 1 = k by omega, Int.toNat_natCast, h]
theorem vfl_ret (hi : f = vfl chk k (prevL l k) (l.drop k)) (hx : l[k]? = some x) (hc : chk (prevL l k) x = c) (h0 : c ≠ 0) : f = (c, (k : Int)) := by
  rw [hi, drop_get' hx, vfl, hc, if_pos h0]
theorem vfl_next (hi : f = vfl chk k (prevL l k) (l.drop k)) (hx : l[k]? = some x) (hc : chk (prevL l k) x = 0) : f = vfl chk (k + 1) (prevL l (k + 1)) (l.drop (k + 1)) := by
  rw [hi, drop_get' hx, vfl, hc, if_neg (by simp), prevL_next hx]
theorem vfl_end (hi : f = vfl chk k (prevL l k) (l.drop k)) (h : l.length ≤ k) : f = (0, 0) := by
  rw [hi, List.drop_eq_nil_of_le h]; rfl
theorem vfl_ne : ∀ (l : List α) (k : Nat) (p : Option α), (vfl chk k p l).1 = 0 → vfl chk k p l = (0, 0)
  | [], k, p, _ => rfl
  | x :: r, k, p, h => by
    simp only [vfl] at h ⊢
    split
    · rename_i h1; rw [if_pos h1] at h; exact absurd h h1
    · rename_i h1; rw [if_neg h1] at h; exact vfl_ne r _ _ h
/-- No fault: each element passes behind the one before. -/
theorem vfl_ok : ∀ {l : List α} {k : Nat} {p : Option α}, vfl chk k p l = (0, 0) ↔ ∀ (i : Nat) x, l[i]? = some x → chk (if i = 0 then p else l[i - 1]?) x = 0
  | [], k, p => by simp [vfl]
  | x :: r, k, p => by
    simp only [vfl]
    by_cases h1 : chk p x = 0
    · rw [if_neg (by simpa using h1), vfl_ok]
      constructor
      · intro h i y hy
        cases i with
        | zero => simp at hy; subst hy; simpa using h1
        | succ i =>
          have := h i y (by simpa using hy)
          cases i with
          | zero => simpa using this
          | succ i => simpa using this
      · intro h i y hy
        have := h (i + 1) y (by simpa using hy)
        cases i with
        | zero => simpa using this
        | succ i => simpa using this
    · rw [if_pos h1]
      constructor
      · intro h; injection h with h; exact absurd h h1
      · intro h
        have := h 0 x rfl
        simp at this; exact absurd this h1
end
/-- A pair as the two numbers of a fault. -/
def fv (f : Int × Int) : V := .agg [.int .i64 f.1, .int .i64 f.2]
theorem fvEq {f : Int × Int} {a b : Int} (h : f = (a, b)) : V.agg [.int .i64 a, .int .i64 b] = fv f := by rw [h]; rfl
end Go.DL

/- DL, part 21: clear of a slice. Own work; no condition. -/
set_option linter.unusedVariables false
set_option linter.unusedSimpArgs false
namespace Go.DL
open Go.RowKit

section
variable {P : Program} {T : Tab P} {o : Oper} {E : Nat → Option D} {H : Nat → Ob} {nx : Nat} {K : KT}
theorem DRows.pre {X : Nat → Prop} {ρ : Nat → Slot} {w : World} : ∀ {rows : List (List D)} {vs : List Value} (n : Nat), DRows X ρ w rows vs → DRows X ρ w (rows.take n) vs := fun n h => DRows.take n h
/-- clear: of the rows only those ahead of the slice are told any more. -/
theorem op_clear_does {c : Call} {x : Operand} {t e p o' n sz : Nat} {rows : List (List D)} (ho : o.op = .call c) (hc : c.callee = .builtin .clear) (ha : c.args.toList = [x]) (ht : c.argTypes.toList = [t]) (hs : (T.ty t).d = .slice e)
    (hx : ev T E t x = some (.arr p o' n)) (hp : H p = .arr sz rows) (hz : Nat.beq (T.ty e).zero.length sz = true) (hone : (T.ty e).zero.all V.one = true) : Does T o E H [] (Just .any [(p, .arr sz (rows.take o'))]) := by
  intro X ρ w a Q' K' r _ hK'
  have hv := ev_cell r hx
  have hob := r.obs p
  rw [hp] at hob
  obtain ⟨h0, hr, hm, hob⟩ := hob
  unfold DCell at hv
  obtain ⟨e1, e2⟩ := args1 ha ht a
  have hz := Nat.eq_of_beq_eq_true hz
  have hne : (T.ty e).zero ≠ [] := by intro h; rw [h] at hz; simp at hz; omega
  have pre : ∀ {X ρ w}, ObOK X ρ w p (.arr sz rows) → ObOK X ρ w p (.arr sz (rows.take o')) := by
    rintro X ρ w ⟨k0, k1, k2, k3⟩
    refine ⟨k0, fun q hq => k1 q (List.mem_of_mem_take hq), by simp; omega, ?_⟩
    cases hq : ρ p with
    | hole => simp only [hq] at k3
    | dead => simp only [hq] at k3
    | null => simp only [hq] at k3 ⊢; simp [k3]
    | live b s cap =>
      simp only [hq] at k3 ⊢
      obtain ⟨rfl, a1, a2, cs, ty, fr, b1, b2, b3, b4⟩ := k3
      exact ⟨rfl, by simp; omega, a2, cs, ty, fr, b1, b2, b3, DRows.take o' b4⟩
  have idle : ∀ (A : Option Addr) (k : Nat), a.eval x = .slice A 0 k → n = 0 → o.upon P a K' Q' ((execOp a.eval o).run P w) := by
    intro A k he hn
    have hrun : (execOp a.eval o).run P w = .ok (.value (.tuple #[])) w := by
      cases A <;> simp [execOp, ho, resolve, hc, invoke, builtin, e1, e2, Builtin.clear_, run_underlying (T.slice hs), he]
    rw [hrun]
    exact hK' _ _ _ w X ρ ⟨rfl, rfl⟩ (Step.refl r.mem) trivial (by intro z hz; simp at hz; subst hz; exact pre ⟨h0, hr, hm, hob⟩)
  unfold Oper.wp
  cases hq : ρ p with
  | hole => simp only [hq] at hv
  | dead => simp only [hq] at hob
  | null =>
    simp only [hq] at hv
    obtain ⟨⟨A, hv⟩, rfl, rfl⟩ := hv
    exact idle A 0 hv rfl
  | live b s cap =>
    simp only [hq] at hv
    obtain ⟨h4, h5, h6⟩ := hv
    by_cases hn : n = 0
    · subst hn
      by_cases hcap : o' < cap
      · exact idle _ _ (h5 hcap) rfl
      · obtain ⟨A, hA⟩ := h6 (by omega)
        exact idle (some A) 0 hA rfl
    · have hcap : o' < cap := by omega
      have hob' := hob
      simp only [hq] at hob
      obtain ⟨rfl, hrc, hcm, arr, ty, fr, hh, hcs, hf, hrr⟩ := hob
      obtain ⟨zv, hzr, hzs, hzc⟩ := T.run_zero hne w
      rw [hz] at hzs
      have hcl : (Builtin.zeroCells zv.cells n).toList.length = n * s := by rw [zeroCells_list]; simp [hzs]
      have hall : ∀ v ∈ (Builtin.zeroCells zv.cells n).toList, v.oneCell' = true := by
        intro v hv'
        rw [zeroCells_list] at hv'
        obtain ⟨l, hl, hvl⟩ := List.mem_flatten.1 hv'
        obtain ⟨_, rfl⟩ := List.mem_replicate.1 hl
        refine DCells.one (X := X) (ρ := ρ) (w := w) (ds := (T.ty e).zero.map .v) ?_ ?_ (VCells.toD (hzc X w)) v hvl
        · rw [List.all_eq_true] at hone ⊢
          intro d hd
          obtain ⟨y, hy, rfl⟩ := List.mem_map.1 hd
          exact hone y hy
        · simp [hz, hzs]
      have hbound : o' * s + n * s ≤ arr.size := by
        rw [hcs, ← Nat.add_mul]; exact Nat.mul_le_mul_right _ (by omega)
      have hst := run_storeCells_ok (P := P) b (o' * s) ty fr (Builtin.zeroCells zv.cells n).toList 0 arr w hh (by rw [hcl]; omega) (fun k hk => hf k (Nat.le_of_lt hk)) hall
      have hrun : (execOp a.eval o).run P w = .ok (.value (.tuple #[])) (w.setRow b (splice arr.toList (o' * s + 0) (Builtin.zeroCells zv.cells n).toList).toArray) := by
        obtain ⟨n', rfl⟩ : ∃ n', n = n' + 1 := ⟨n - 1, by omega⟩
        simp [execOp, ho, resolve, hc, invoke, builtin, e1, e2, Builtin.clear_, run_underlying (T.slice hs), h5 hcap, hzr, hst]
      rw [hrun]
      have hsl : (splice arr.toList (o' * s + 0) (Builtin.zeroCells zv.cells n).toList).length = arr.size := by
        rw [splice_length (by rw [hcl]; simp; omega)]; simp
      refine hK' _ _ _ _ X ρ ⟨rfl, rfl⟩ (by simpa using Step.write r.mem hq _) trivial ?_
      intro z hz
      simp at hz; subst hz
      refine ObOK.write r.mem hq hh hf h0 hcm hcs hsl (fun q hq' => hr q (List.mem_of_mem_take hq')) (by simp; omega) (by simp; omega) ?_
      have f1 : DCells X ρ w (rows.take o').flatten arr.toList := DRows.to_cells (sz := s) (DRows.take o' hrr)
      have l1 : (rows.take o').flatten.length ≤ o' * s := by
        rw [flat_len (sz := s) (fun q hq => (hr q (List.mem_of_mem_take hq)).1)]
        exact Nat.mul_le_mul_right _ (by simp; omega)
      refine DRows.of_cells (sz := s) (fun q hq' => (hr q (List.mem_of_mem_take hq')).1) ?_
      have := DCells.takeLen f1
      unfold splice
      rw [List.append_assoc]
      refine DCells.more ?_
      have e3 : (arr.toList.take (o' * s + 0)) = arr.toList.take (rows.take o').flatten.length ++ (arr.toList.take (o' * s)).drop (rows.take o').flatten.length := by
        have := (List.take_append_drop (rows.take o').flatten.length (arr.toList.take (o' * s))).symm
        rw [List.take_take, Nat.min_eq_left l1] at this
        simpa using this
      rw [e3]
      exact DCells.more this
theorem op_clear {c : Call} {x : Operand} {t e p o' n sz : Nat} {rows : List (List D)} (ho : o.op = .call c) (hc : c.callee = .builtin .clear) (ha : c.args.toList = [x]) (ht : c.argTypes.toList = [t]) (hs : (T.ty t).d = .slice e)
    (hx : ev T E t x = some (.arr p o' n)) (hp : H p = .arr sz rows) (hz : Nat.beq (T.ty e).zero.length sz = true) (hone : (T.ty e).zero.all V.one = true) (hK : K .any [(p, .arr sz (rows.take o'))] []) : CallOp T o E H nx K :=
  CallOp.mk (nw := []) (by simp) (op_clear_does ho hc ha ht hs hx hp hz hone) (fun d ups ⟨e1, e2⟩ => by subst e1 e2; exact hK)
theorem op_clearD {c : Call} {x : Operand} {t e p o' n sz : Nat} {rows : List (List D)} (ho : o.op = .call c) (hc : c.callee = .builtin .clear) (ha : c.args.toList = [x]) (ht : c.argTypes.toList = [t]) (hs : (T.ty t).d = .slice e)
    (hx : ev T E t x = some (.arr p o' n)) (hp : H p = .arr sz rows) (hz : Nat.beq (T.ty e).zero.length sz = true) (hone : (T.ty e).zero.all V.one = true) (hK : K .any [(p, .arr sz (rows.take o'))] []) : CallDet T o E H nx K :=
  CallDet.mk (nw := []) (by simp) (op_clear_does ho hc ha ht hs hx hp hz hone) hK
end
end Go.DL

/- DL, part 22: a loop told by the first temporary that its code writes. Own work; no condition. -/
set_option linter.unusedVariables false
set_option linter.unusedSimpArgs false
namespace Go.DL
open Go.RowKit
def opsKey : List Oper → Option Nat
  | [] => none
  | o :: os => match o.dst with | some n => some n | none => opsKey os
def orK (a b : Option Nat) : Option Nat := match a with | some n => some n | none => b
/-- The first temporary that a code writes. -/
noncomputable def keyC (c : Code) : Option Nat :=
  Code.rec (motive := fun _ => Option Nat) none (fun _ ops _ => opsKey ops.toList) (fun _ _ x y => orK x y) (fun _ _ _ x y => orK x y) (fun _ _ x => x)
    (fun _ x => x) (fun _ _ _ _ _ _ => none) (fun _ => none) (fun _ x => x) (fun _ => none) (fun _ => none) none (fun _ => none) c
theorem WpD.loopAt {P : Program} {T : Tab P} {m N : Nat} {σ : St} {Q : Exit → St → Prop} {ι : Type} {c : Code} (n : Nat) (hn : keyC c = some n) (S : ι → St) (p : ι → Prop) (μ : ι → Nat) (h0 : ∃ k th, p k ∧ Le m th σ (S k))
    (round : ∀ k, p k → WpD T m N c (S k) (thenQ (fun σ' => ∃ k' th, p k' ∧ Le m th σ' (S k') ∧ μ k' < μ k) Q)) : WpD T m N (.loop c) σ Q := WpD.loop S p μ h0 round
theorem rowAt {o : Option (List D)} {r : List D} {K : List D → Prop} (h : o = some r) (hk : K r) : rowK o K := by subst h; exact hk
end Go.DL

/- DL, part 23: reading objects whose rows hold objects as closed data; a call that makes several objects. Own work; no condition. -/
set_option linter.unusedVariables false
set_option linter.unusedSimpArgs false
namespace Go.DL
open Go.RowKit

def RowsV (H : Nat → Ob) : List (List D) → List (List V) → Prop
  | [], [] => True
  | r :: rs, x :: xs => DVs H r x ∧ RowsV H rs xs
  | _, _ => False
mutual
def DW (H : Nat → Ob) : D → V → Prop
  | .v x, y => x = y
  | .arr p o n, .sl sz z xs => z = false ∧ xs.length = n ∧ ∃ rows, H p = .arr sz rows ∧ RowsV H ((rows.drop o).take n) xs
  | .agg ds, .agg cs => DWs H ds cs
  | .tup ds, .tup cs => DWs H ds cs
  | _, _ => False
def DWs (H : Nat → Ob) : List D → List V → Prop
  | [], [] => True
  | d :: ds, x :: xs => DW H d x ∧ DWs H ds xs
  | _, _ => False
end
theorem DV_one {H : Nat → Ob} : ∀ {d : D} {x : V}, DV H d x → d.one = true → x.one = true
  | .v y, x, h, k => by unfold DV at h; subst h; exact k
  | .arr .., .sl .., h, k => rfl
  | .ptr .., .iptr _, h, k => rfl
  | .fn .., .fn .., h, k => rfl
  | .agg _, _, h, k => by simp [D.one] at k
  | .tup _, _, h, k => by simp [D.one] at k
  | .any, _, h, k => by simp [D.one] at k
  | .arr .., .int .., h, k => by simp [DV] at h
  | .arr .., .bool .., h, k => by simp [DV] at h
  | .arr .., .str .., h, k => by simp [DV] at h
  | .arr .., .raw .., h, k => by simp [DV] at h
  | .arr .., .agg .., h, k => by simp [DV] at h
  | .arr .., .tup .., h, k => by simp [DV] at h
  | .arr .., .iptr .., h, k => by simp [DV] at h
  | .arr .., .fn .., h, k => by simp [DV] at h
  | .ptr .., .int .., h, k => by simp [DV] at h
  | .ptr .., .bool .., h, k => by simp [DV] at h
  | .ptr .., .str .., h, k => by simp [DV] at h
  | .ptr .., .raw .., h, k => by simp [DV] at h
  | .ptr .., .agg .., h, k => by simp [DV] at h
  | .ptr .., .tup .., h, k => by simp [DV] at h
  | .ptr .., .sl .., h, k => by simp [DV] at h
  | .ptr .., .fn .., h, k => by simp [DV] at h
  | .fn .., .int .., h, k => by simp [DV] at h
  | .fn .., .bool .., h, k => by simp [DV] at h
  | .fn .., .str .., h, k => by simp [DV] at h
  | .fn .., .raw .., h, k => by simp [DV] at h
  | .fn .., .agg .., h, k => by simp [DV] at h
  | .fn .., .tup .., h, k => by simp [DV] at h
  | .fn .., .sl .., h, k => by simp [DV] at h
  | .fn .., .iptr .., h, k => by simp [DV] at h
theorem DVs_one {H : Nat → Ob} : ∀ {ds : List D} {xs : List V}, DVs H ds xs → ds.all D.one = true → xs.all V.one = true ∧ xs.length = ds.length
  | [], [], _, _ => ⟨rfl, rfl⟩
  | [], _ :: _, h, _ => by unfold DVs at h; exact h.elim
  | _ :: _, [], h, _ => by unfold DVs at h; exact h.elim
  | d :: ds, x :: xs, h, k => by
    unfold DVs at h
    simp only [List.all_cons, Bool.and_eq_true] at k ⊢
    obtain ⟨h1, h2⟩ := DVs_one h.2 k.2
    exact ⟨⟨DV_one h.1 k.1, h1⟩, by simp [h2]⟩
theorem RowsV_len {H : Nat → Ob} : ∀ {rs : List (List D)} {xs : List (List V)}, RowsV H rs xs → xs.length = rs.length
  | [], [], _ => rfl
  | [], _ :: _, h => h.elim
  | _ :: _, [], h => h.elim
  | _ :: rs, _ :: xs, h => by simp [RowsV_len h.2]
theorem RowsV_one {H : Nat → Ob} {sz : Nat} : ∀ {rs : List (List D)} {xs : List (List V)}, RowsV H rs xs → (∀ r ∈ rs, r.length = sz ∧ r.all D.one = true) → ∀ x ∈ xs, x.length = sz ∧ x.all V.one = true
  | [], [], _, _, x, hx => by cases hx
  | [], _ :: _, h, _, _, _ => h.elim
  | _ :: _, [], h, _, _, _ => h.elim
  | r :: rs, y :: xs, h, k, x, hx => by
    rcases List.mem_cons.1 hx with rfl | hx
    · obtain ⟨h1, h2⟩ := DVs_one h.1 (k r List.mem_cons_self).2
      exact ⟨h2.trans (k r List.mem_cons_self).1, h1⟩
    · exact RowsV_one h.2 (fun r hr => k r (List.mem_cons_of_mem _ hr)) x hx
theorem RowsV_cell {X Y : Nat → Prop} {ρ : Nat → Slot} {w : World} {H : Nat → Ob} (hob : ∀ p, ObOK X ρ w p (H p)) (hY : ∀ b, Y b → X b) (hl : ∀ p b sz cap, ρ p = .live b sz cap → ¬ Y b) {sz : Nat} :
    ∀ {rs : List (List D)} {xs : List (List V)} {vs : List Value}, RowsV H rs xs → (∀ r ∈ rs, r.length = sz) → (∀ x ∈ xs, x.length = sz) → DRows X ρ w rs vs → VRows Y w xs vs
  | [], [], _, _, _, _, _ => trivial
  | [], _ :: _, _, h, _, _, _ => h.elim
  | _ :: _, [], _, h, _, _, _ => h.elim
  | r :: rs, x :: xs, vs, h, k, kx, c => by
    refine ⟨(DVs_cell hob hY hl r x vs h.1 c.1).1, ?_⟩
    rw [kx x List.mem_cons_self, ← k r List.mem_cons_self]
    exact RowsV_cell hob hY hl h.2 (fun r hr => k r (List.mem_cons_of_mem _ hr)) (fun r hr => kx r (List.mem_cons_of_mem _ hr)) c.2
mutual
theorem DW_cell {X Y : Nat → Prop} {ρ : Nat → Slot} {w : World} {H : Nat → Ob} (hob : ∀ p, ObOK X ρ w p (H p)) (hY : ∀ b, Y b → X b) (hl : ∀ p b sz cap, ρ p = .live b sz cap → ¬ Y b) : ∀ (d : D) (x : V) (u : Value), DW H d x → DCell X ρ w d u → VCell Y w x u
  | .v y, x, u, h, c => by
    unfold DW at h; subst h
    exact VCell.keep ⟨fun b _ hX hYb => hX (hY b hYb), fun b _ _ => rfl⟩ _ _ c
  | .arr p o n, .sl sz z xs, u, h, c => by
    unfold DW at h
    obtain ⟨rfl, hn, rows, hp, hx⟩ := h
    have ho := hob p
    rw [hp] at ho
    obtain ⟨h0, hr, hm, ho⟩ := ho
    have hrs : ∀ r ∈ (rows.drop o).take n, r.length = sz ∧ r.all D.one = true := fun r hr' => hr r (List.mem_of_mem_drop (List.mem_of_mem_take hr'))
    have hone := RowsV_one hx hrs
    have hlen : xs.length ≤ rows.length := by
      have := RowsV_len hx
      simp at this; omega
    unfold DCell at c
    cases hq : ρ p with
    | hole => simp only [hq] at c
    | dead => simp only [hq] at ho
    | null =>
      simp only [hq] at c ho
      obtain ⟨⟨A, rfl⟩, rfl, rfl⟩ := c
      have : xs = [] := List.length_eq_zero_iff.1 hn
      subst this
      exact ⟨h0, by simp, by simp, (fun h => by cases h), A, 0, rfl, by simp, by simp, fun h => absurd rfl h⟩
    | live b s cap =>
      simp only [hq] at c ho
      obtain ⟨rfl, h2, h3, cs, t, fr, hh, hcs, hf, hrr⟩ := ho
      obtain ⟨h4, h5, h6⟩ := c
      by_cases hc : o < cap
      · refine ⟨h0, hone, by omega, (fun h => by cases h), some ⟨b, o * s, none⟩, cap - o, by rw [h5 hc, hn], by omega, by omega, fun _ => ⟨b, o * s, cs, t, fr, rfl, hl p b s cap hq, hh, ?_⟩⟩
        have := DRows.take n (DRows.drop o (fun r hr' => (hr r hr').1) hrr)
        exact RowsV_cell hob hY hl hx (fun r hr => (hrs r hr).1) (fun x hx => (hone x hx).1) this
      · obtain ⟨A, hA⟩ := h6 (by omega)
        have hn0 : n = 0 := by omega
        have : xs = [] := List.length_eq_zero_iff.1 (by omega)
        subst this
        exact ⟨h0, by simp, by simp, (fun h => by cases h), some A, 0, by rw [hA]; rfl, by simp, by simp, fun h => absurd rfl h⟩
  | .agg ds, .agg cs, u, h, c => by
    unfold DW at h
    obtain ⟨vs, hv, hlen, hc⟩ := c
    obtain ⟨h1, h2⟩ := DWs_cell hob hY hl ds cs vs h hc
    exact ⟨vs, hv, hlen.trans h2, h1⟩
  | .tup ds, .tup cs, u, h, c => by
    unfold DW at h
    obtain ⟨vs, hv, hlen, hc⟩ := c
    obtain ⟨h1, h2⟩ := DWs_cell hob hY hl ds cs vs h hc
    exact ⟨vs, hv, hlen.trans h2, h1⟩
theorem DWs_cell {X Y : Nat → Prop} {ρ : Nat → Slot} {w : World} {H : Nat → Ob} (hob : ∀ p, ObOK X ρ w p (H p)) (hY : ∀ b, Y b → X b) (hl : ∀ p b sz cap, ρ p = .live b sz cap → ¬ Y b) : ∀ (ds : List D) (xs : List V) (us : List Value), DWs H ds xs → DCells X ρ w ds us → VCells Y w xs us ∧ ds.length = xs.length
  | [], [], us, _, _ => ⟨trivial, rfl⟩
  | [], _ :: _, us, h, _ => by unfold DWs at h; exact h.elim
  | _ :: _, [], us, h, _ => by unfold DWs at h; exact h.elim
  | d :: ds, x :: xs, [], _, c => c.elim
  | d :: ds, x :: xs, u :: us, h, c => by
    unfold DWs at h
    obtain ⟨h1, h2⟩ := DWs_cell hob hY hl ds xs us h.2 c.2
    exact ⟨⟨DW_cell hob hY hl d x u h.1 c.1, h1⟩, by simp [h2]⟩
end
section
variable {P : Program} {T : Tab P}
attribute [local semireducible] CallV CallD in
theorem callV_of_callD2 {f : FuncId} {args : List V} {Q : V → Prop} (h : CallD T f (args.map .v) [] fun d L => ∃ r, DW (obAt L) d r ∧ Q r) : CallV T f args Q := by
  refine ⟨h.1, ?_⟩
  intro X w vs hX hg hc hl
  have hm : Mem X (fun _ => .hole) w := ⟨hX, (fun p b sz cap h => by cases h), (fun p q b sz cap sz' cap' h => by cases h)⟩
  refine (h.2 X (fun _ => .hole) w vs hm hg (VCells.toD hc) (by simpa using hl) (fun p => trivial) (fun _ _ => rfl)).mono ?_
  rintro e w' ⟨v, d, L', X', ρ', he, ⟨r, hdv, q⟩, s, hd, hob, hh⟩
  have hin : ∀ b, X b → X' b := fun b hb => by
    rcases s.xin b hb with h | ⟨p, sz, cap, _, h⟩
    · exact h
    · cases h
  refine ⟨r, v, he, q, DW_cell hob hin (fun p b sz cap hp hXb => ?_) d r v hdv hd, ⟨s.os, s.tape, s.output, s.size, fun b hb => s.block b hb fun p sz cap _ h => by cases h⟩⟩
  rcases s.src p b sz cap hp with ⟨q', s', c', h⟩ | h
  · cases h
  · have := hX b hXb; omega
theorem callV_of2 {f : FuncId} {fn : Func} {code : Code} {args : List V} {Q : V → Prop} (hf : P.funcs[f]? = some fn) (hb : fn.body = some code) (hn : args.length ≤ fn.ntmps) (hname : (fn.name == "runtime.NumGoroutine") = false)
    (h : WpD T 0 fn.ntmps code ⟨argEnv 0 (args.map .v), [], []⟩ (retQ T fn fun d L => ∃ r, DW (obAt L) d r ∧ Q r)) : CallV T f args Q :=
  callV_of_callD2 (callD_of hf hb (by simpa using hn) hname h)

/-! ##### a call with closed data that returns new objects -/
mutual
theorem renD_up {X : Nat → Prop} {ρ ρ' : Nat → Slot} {w : World} {g : Nat → Nat} (hg : ∀ p, ρ' (g p) = ρ p) : ∀ (d : D) (v : Value), DCell X ρ w d v → DCell X ρ' w (renD g d) v
  | .any, v, h => trivial
  | .v x, v, h => h
  | .arr p o n, v, h => by unfold renD DCell; unfold DCell at h; rw [hg]; exact h
  | .ptr p i j, v, h => by unfold renD DCell; unfold DCell at h; rw [hg]; exact h
  | .agg ds, v, h => by
    obtain ⟨vs, hv, hl, hc⟩ := h
    obtain ⟨h1, h2⟩ := renDs_up hg ds vs hc
    unfold renD DCell
    exact ⟨vs, hv, by rw [hl, h2], h1⟩
  | .tup ds, v, h => by
    obtain ⟨vs, hv, hl, hc⟩ := h
    obtain ⟨h1, h2⟩ := renDs_up hg ds vs hc
    unfold renD DCell
    exact ⟨vs, hv, by rw [hl, h2], h1⟩
  | .fn f ds, v, h => by
    obtain ⟨vs, hv, hl, hc⟩ := h
    obtain ⟨h1, h2⟩ := renDs_up hg ds vs hc
    unfold renD DCell
    exact ⟨vs, hv, by rw [hl, h2], h1⟩
theorem renDs_up {X : Nat → Prop} {ρ ρ' : Nat → Slot} {w : World} {g : Nat → Nat} (hg : ∀ p, ρ' (g p) = ρ p) : ∀ (ds : List D) (vs : List Value), DCells X ρ w ds vs → DCells X ρ' w (renDs g ds) vs ∧ (renDs g ds).length = ds.length
  | [], vs, h => ⟨trivial, rfl⟩
  | _ :: _, [], h => h.elim
  | d :: ds, v :: vs, h => by
    obtain ⟨h1, h2⟩ := renDs_up hg ds vs h.2
    unfold renDs
    exact ⟨⟨renD_up hg d v h.1, h1⟩, by simp [h2]⟩
end
def renOb (g : Nat → Nat) : Ob → Ob
  | .gone => .gone
  | .cap p c => .gone
  | .iter s n => .gone
  | .arr sz rows => .arr sz (rows.map (renDs g))
theorem renDs_len {g : Nat → Nat} : ∀ (ds : List D), (renDs g ds).length = ds.length
  | [] => rfl
  | d :: ds => by unfold renDs; simp [renDs_len ds]
theorem renD_one {g : Nat → Nat} (d : D) : (renD g d).one = d.one := by cases d <;> simp [renD, D.one]
theorem renDs_one {g : Nat → Nat} : ∀ (ds : List D), (renDs g ds).all D.one = ds.all D.one
  | [] => rfl
  | d :: ds => by unfold renDs; simp [renDs_one ds, renD_one]
theorem renRows_up {X : Nat → Prop} {ρ ρ' : Nat → Slot} {w : World} {g : Nat → Nat} (hg : ∀ p, ρ' (g p) = ρ p) : ∀ (rs : List (List D)) (vs : List Value), DRows X ρ w rs vs → DRows X ρ' w (rs.map (renDs g)) vs
  | [], vs, h => trivial
  | r :: rs, vs, h => by
    refine ⟨(renDs_up hg r vs h.1).1, ?_⟩
    rw [renDs_len]
    exact renRows_up hg rs _ h.2
theorem renOb_up {X : Nat → Prop} {ρ ρ' : Nat → Slot} {w : World} {g : Nat → Nat} (hg : ∀ p, ρ' (g p) = ρ p) {p : Nat} : ∀ (x : Ob), ObOK X ρ w p x → ObOK X ρ' w (g p) (renOb g x)
  | .gone, h => trivial
  | .cap .., h => trivial
  | .iter .., h => trivial
  | .arr sz rows, h => by
    obtain ⟨h0, h1, h2, h3⟩ := h
    refine ⟨h0, ?_, by simpa using h2, ?_⟩
    · intro r hr
      obtain ⟨r', hr', rfl⟩ := List.mem_map.1 hr
      rw [renDs_len, renDs_one]
      exact h1 r' hr'
    · rw [hg]
      cases hq : ρ p with
      | live b s cap =>
        simp only [hq] at h3 ⊢
        obtain ⟨a1, a2, a3, cs, t, fr, b1, b2, b3, b4⟩ := h3
        exact ⟨a1, by simpa using a2, a3, cs, t, fr, b1, b2, b3, renRows_up hg _ _ b4⟩
      | null => simp only [hq] at h3 ⊢; simp [h3]
      | hole => simp only [hq] at h3
      | dead => simp only [hq] at h3
def upsN (nx : Nat) : Nat → List Ob → List (Nat × Ob)
  | _, [] => []
  | k, x :: L => (nx + k, renOb (· + nx) x) :: upsN nx (k + 1) L
theorem upsN_mem {nx : Nat} : ∀ {L : List Ob} {k : Nat} {q : Nat} {y : Ob}, (q, y) ∈ upsN nx k L → ∃ i x, L[i]? = some x ∧ q = nx + (k + i) ∧ y = renOb (· + nx) x
  | [], k, q, y, h => by cases h
  | x :: L, k, q, y, h => by
    unfold upsN at h
    rcases List.mem_cons.1 h with h | h
    · injection h with h1 h2; exact ⟨0, x, rfl, h1, h2⟩
    · obtain ⟨i, z, h1, h2, h3⟩ := upsN_mem h
      exact ⟨i + 1, z, h1, by omega, h3⟩
theorem upsN_keys {nx : Nat} : ∀ {L : List Ob} {k : Nat} {q : Nat}, q ∈ (upsN nx k L).map (·.1) ↔ nx + k ≤ q ∧ q < nx + (k + L.length)
  | [], k, q => by simp [upsN]
  | x :: L, k, q => by
    unfold upsN
    simp only [List.map_cons, List.mem_cons, upsN_keys (L := L), List.length_cons]
    omega
theorem obAt_get : ∀ {L : List Ob} {i : Nat} {x : Ob}, L[i]? = some x → obAt L i = x
  | [], i, x, h => by simp at h
  | y :: L, 0, x, h => by simp at h; exact h
  | y :: L, i + 1, x, h => obAt_get (L := L) (by simpa using h)
/-- A call with closed data: the result d0 over the new objects L0. -/
def CallN (T : Tab P) (f : FuncId) (args : List V) (d0 : D) (L0 : List Ob) : Prop := CallD T f (args.map .v) [] fun d L' => d = d0 ∧ L' = L0
variable {o : Oper} {E : Nat → Option D} {H : Nat → Ob} {nx : Nat} {K : KT} {c : Call} {x : Operand} {f : FuncId} {ds caps : List D} {vargs : List V} {d0 : D} {L0 : List Ob}
def nwN (nx n : Nat) : List Nat := List.range' nx n
attribute [local semireducible] CallD in
theorem call_new_does (hC : CallN T f vargs d0 L0) (ho : o.op = .call c) (hc : c.callee = .value x) (hx : callee (ev T E 0 x) = some (f, caps)) (hargs : evL T E c.args.toList c.argTypes.toList = some ds) (hv : D.toVs (ds ++ caps) = some vargs) :
    Does T o E H (nwN nx L0.length) (fun d ups => d = renD (· + nx) d0 ∧ ups = upsN nx 0 L0) := by
  intro X ρ w a Q' K' r hn hK'
  have hhole : ∀ q, nx ≤ q → q < nx + L0.length → ρ q = .hole := fun q h1 h2 => hn q (by unfold nwN; rw [List.mem_range'_1]; omega)
  obtain ⟨⟨fn, hf, hb, hname⟩, hC⟩ := hC
  cases hx' : ev T E 0 x with
  | none => rw [hx'] at hx; simp [callee] at hx
  | some dx =>
    rw [hx'] at hx
    obtain ⟨us, hv1, hc1, hl1⟩ := callee_val hx (ev_cell r hx')
    obtain ⟨hc2, hl2⟩ := evL_cells r hargs
    have happ : DCells X ρ w (ds ++ caps) (c.args.toList.map a.eval ++ us) := DCells.append (DCells.more hc2) (by rw [← hl2, List.drop_left]; exact hc1)
    obtain ⟨h1, h2⟩ := D.toVs_cell _ hv happ
    unfold Oper.wp
    rw [run_enter ho hc hv1 hf hb hname]
    refine (hC X (fun _ => .hole) w _ ⟨r.mem.lt, (fun p b sz cap h => by cases h), (fun p q b sz cap sz' cap' h => by cases h)⟩ r.glob (VCells.toD h1) ?_ (fun p => trivial) (fun _ _ => rfl)).mono ?_
    · have : (c.args.toList.map a.eval ++ us).length = (ds ++ caps).length := by simp [hl2, hl1]
      simp [this, h2]
    · rintro e w' ⟨v, d, L', X', ρ1, rfl, ⟨rfl, rfl⟩, st, hd, hob', hh'⟩
      have new1 : ∀ p b z k, ρ1 p = .live b z k → w.heap.size ≤ b := fun p b z k h => by
        rcases st.src p b z k h with ⟨q, s', c', h⟩ | h
        · cases h
        · exact h
      have hin : ∀ b, X b → X' b := fun b hb => by
        rcases st.xin b hb with h | ⟨p, sz, cap, _, h⟩
        · exact h
        · cases h
      let ρ' : Nat → Slot := fun q => if nx ≤ q ∧ q < nx + L'.length then ρ1 (q - nx) else ρ q
      have inn : ∀ q, nx ≤ q → q < nx + L'.length → ρ' q = ρ1 (q - nx) := fun q h1 h2 => by simp [ρ', h1, h2]
      have out : ∀ q, ¬ (nx ≤ q ∧ q < nx + L'.length) → ρ' q = ρ q := fun q h => by simp only [ρ', if_neg h]
      -- the objects out of reach are holes on both sides
      let g : Nat → Nat := fun p => p + nx
      let ρ2 : Nat → Slot := fun q => if nx ≤ q then ρ1 (q - nx) else ρ q
      have hg2 : ∀ p, ρ2 (g p) = ρ1 p := fun p => by simp [ρ2, g]
      have keep2 : Keeps X' w' X' w' := ⟨fun b _ h => h, fun b _ _ => rfl⟩
      have slots2 : Slots ρ2 ρ' := fun q => by
        by_cases h1 : nx ≤ q
        · by_cases h2 : q < nx + L'.length
          · exact .inr (.inl (by rw [inn q h1 h2]; simp [ρ2, h1]))
          · refine .inl ?_
            simp only [ρ2, if_pos h1]
            exact hh' _ (by omega)
        · exact .inr (.inl (by rw [out q (by omega)]; simp [ρ2, h1]))
      have hcell : DCell X' ρ' w' (renD (· + nx) d) v := DCell.keep keep2 slots2 _ _ (renD_up hg2 d v hd)
      refine hK' _ _ v w' X' ρ' ⟨rfl, rfl⟩ ?_ hcell ?_
      · refine ⟨st.os, st.tape, st.output, st.size, (fun b hb _ => st.block b hb fun p sz cap _ h => by cases h), ?_, ?_, fun b hX => .inl (hin b hX), st.xout, ?_, ⟨st.mem.lt, ?_, ?_⟩⟩
        · intro q
          by_cases h : nx ≤ q ∧ q < nx + L'.length
          · exact .inl (hhole q h.1 h.2)
          · exact .inr (.inl (out q h))
        · intro q hq
          refine out q fun h => hq ?_
          rw [upsN_keys]; omega
        · intro q b z k h
          by_cases h1 : nx ≤ q ∧ q < nx + L'.length
          · rw [inn q h1.1 h1.2] at h; exact .inr (new1 _ b z k h)
          · rw [out q h1] at h; exact .inl ⟨q, z, k, h⟩
        · intro q b z k h
          by_cases h1 : nx ≤ q ∧ q < nx + L'.length
          · rw [inn q h1.1 h1.2] at h; exact st.mem.live _ b z k h
          · rw [out q h1] at h; exact hin b (r.mem.live q b z k h)
        · intro p q b z k z' k' h h'
          by_cases h1 : nx ≤ p ∧ p < nx + L'.length
          · rw [inn p h1.1 h1.2] at h
            by_cases h2 : nx ≤ q ∧ q < nx + L'.length
            · rw [inn q h2.1 h2.2] at h'
              have := st.mem.inj _ _ b _ _ _ _ h h'
              omega
            · rw [out q h2] at h'
              have := new1 _ b z k h
              have := r.mem.lt b (r.mem.live q b z' k' h'); omega
          · rw [out p h1] at h
            by_cases h2 : nx ≤ q ∧ q < nx + L'.length
            · rw [inn q h2.1 h2.2] at h'
              have := new1 _ b z' k' h'
              have := r.mem.lt b (r.mem.live p b z k h); omega
            · rw [out q h2] at h'
              exact r.mem.inj _ _ b _ _ _ _ h h'
      · rintro ⟨q, y⟩ hy
        obtain ⟨i, ob, hi, hq, rfl⟩ := upsN_mem hy
        simp only [Nat.zero_add] at hq
        subst hq
        have hlt : i < L'.length := (List.getElem?_eq_some_iff.1 hi).1
        have h0 := hob' i
        have e0 : obAt L' i = ob := obAt_get hi
        rw [e0] at h0
        have h1 := renOb_up (ρ' := ρ2) (g := g) hg2 ob h0
        have e1 : g i = nx + i := Nat.add_comm _ _
        rw [e1] at h1
        -- from ρ2 to ρ'
        have e2 : ρ' (nx + i) = ρ2 (nx + i) := by rw [inn _ (by omega) (by omega)]; simp [ρ2]
        cases ob with
        | gone => trivial
        | cap p c => trivial
        | iter s n => trivial
        | arr sz rows =>
          obtain ⟨a0, a1, a2, a3⟩ := h1
          refine ⟨a0, a1, a2, ?_⟩
          rw [e2]
          cases hs : ρ2 (nx + i) with
          | live b s cap =>
            simp only [hs] at a3 ⊢
            obtain ⟨b1, b2, b3, cs, t, fr, c1, c2, c3, c4⟩ := a3
            exact ⟨b1, b2, b3, cs, t, fr, c1, c2, c3, DRows.keep keep2 slots2 _ _ c4⟩
          | null => simp only [hs] at a3 ⊢; exact a3
          | hole => simp only [hs] at a3
          | dead => simp only [hs] at a3
theorem call_new (hC : CallN T f vargs d0 L0) (ho : o.op = .call c) (hc : c.callee = .value x) (hx : callee (ev T E 0 x) = some (f, caps)) (hargs : evL T E c.args.toList c.argTypes.toList = some ds) (hv : D.toVs (ds ++ caps) = some vargs)
    (hK : K (renD (· + nx) d0) (upsN nx 0 L0) (nwN nx L0.length)) : CallOp T o E H nx K :=
  CallOp.mk (nw := nwN nx L0.length) (fun p hp => by unfold nwN at hp; rw [List.mem_range'_1] at hp; exact hp.1) (call_new_does hC ho hc hx hargs hv) (fun d ups ⟨e1, e2⟩ => by subst e1 e2; exact hK)
theorem call_newD (hC : CallN T f vargs d0 L0) (ho : o.op = .call c) (hc : c.callee = .value x) (hx : callee (ev T E 0 x) = some (f, caps)) (hargs : evL T E c.args.toList c.argTypes.toList = some ds) (hv : D.toVs (ds ++ caps) = some vargs)
    (hK : K (renD (· + nx) d0) (upsN nx 0 L0) (nwN nx L0.length)) : CallDet T o E H nx K := by
  refine CallDet.mk (nw := nwN nx L0.length) (fun p hp => ?_) ?_ hK
  · unfold nwN at hp; rw [List.mem_range'_1] at hp
    exact ⟨hp.1, upsN_keys.2 (by omega)⟩
  · intro X ρ w a Q' K' r hn hK'
    exact call_new_does hC ho hc hx hargs hv X ρ w a Q' K' r hn (fun d ups v w' X' ρ' ⟨e1, e2⟩ => hK' d ups v w' X' ρ' ⟨e1, e2⟩)
end
end Go.DL

/- DL, part 24: a struct as argument. Own work; no condition. -/
set_option linter.unusedVariables false
set_option linter.unusedSimpArgs false
namespace Go.DL
open Go.RowKit
section
variable {P : Program} {T : Tab P} {f : FuncId}
theorem agg_cell {X : Nat → Prop} {ρ : Nat → Slot} {w : World} {cs : List V} {v : Value} (h : DCell X ρ w (.agg (cs.map .v)) v) : DCell X ρ w (.v (.agg cs)) v := by
  obtain ⟨vs, hv, hl, hc⟩ := h
  exact ⟨vs, hv, by simpa using hl, DCells.toV hc⟩
attribute [local semireducible] CallD in
theorem CallD.agg1 {cs : List V} {ds : List D} {L : List Ob} {Q : D → List Ob → Prop} (h : CallD T f (.v (.agg cs) :: ds) L Q) : CallD T f (.agg (cs.map .v) :: ds) L Q := by
  refine ⟨h.1, fun X ρ w vs hm hg hc hl hob hh => h.2 X ρ w vs hm hg ?_ hl hob hh⟩
  cases vs with
  | nil => exact hc.elim
  | cons v vs => exact ⟨agg_cell hc.1, hc.2⟩
theorem CallE.agg1 {cs : List V} {ds : List D} {L : List Ob} {sz : Nat} {Q : List (List V) → Prop} (h : CallE T f (.v (.agg cs) :: ds) L sz Q) : CallE T f (.agg (cs.map .v) :: ds) L sz Q := CallD.agg1 h
end
end Go.DL

/- DL, part 25: a call that reads objects which nobody writes any more: they become closed data. Own work; no condition. -/
set_option linter.unusedVariables false
set_option linter.unusedSimpArgs false
namespace Go.DL
open Go.RowKit
section
variable {P : Program} {T : Tab P} {f : FuncId} {o : Oper} {E : Nat → Option D} {H : Nat → Ob} {nx : Nat} {K : KT} {c : Call} {x : Operand} {ds caps args : List D} {L : List Ob} {Q : V → Prop} {vargs : List V}
theorem obAt_gone : ∀ (n p : Nat), obAt (List.replicate n .gone) p = .gone
  | 0, p => rfl
  | n + 1, 0 => rfl
  | n + 1, p + 1 => obAt_gone n p
attribute [local semireducible] CallV CallD in
theorem callD_of_callV (hC : CallV T f vargs Q) (hV : DVs (obAt L) args vargs) : CallD T f args L (fun d _ => ∃ r, d = .v r ∧ Q r) := by
  refine ⟨hC.1, fun X ρ w vs hm hg hc hl hob hh => ?_⟩
  let Y : Nat → Prop := fun b => X b ∧ ∀ p s k, ρ p ≠ .live b s k
  have hY : ∀ b, Y b → X b := fun b h => h.1
  obtain ⟨h1, h2⟩ := DVs_cell (Y := Y) hob hY (fun p b s k h hy => hy.2 p s k h) _ _ _ hV hc
  refine (hC.2 Y w vs (fun b hb => hm.lt b hb.1) (fun g cs h => VCell.keep ⟨fun b _ hX hYb => hX (hY b hYb), fun b _ _ => rfl⟩ _ _ (hg g cs h)) h1 (hl.trans h2)).mono ?_
  rintro e w' ⟨r, v, he, hq, hcell, hb⟩
  refine ⟨v, .v r, List.replicate L.length .gone, Y, (fun p => if p < L.length then .dead else .hole), he, ⟨r, rfl, hq⟩, ⟨hb.os, hb.tape, hb.output, hb.size, fun b hlt _ => hb.block b hlt, ?_, fun p h => absurd trivial h, ?_, fun b h => .inl h.1, ?_, ⟨fun b hy => Nat.lt_of_lt_of_le (hm.lt b hy.1) hb.size, ?_, ?_⟩⟩, hcell, (fun p => by rw [obAt_gone]; trivial), ?_⟩
  · intro p
    by_cases hp : p < L.length
    · exact .inr (.inr (by simp [hp]))
    · exact .inl (hh p (by omega))
  · intro b hX
    by_cases hy : ∀ p s k, ρ p ≠ .live b s k
    · exact .inl ⟨hX, hy⟩
    · have : ∃ p s k, ρ p = .live b s k := by
        rcases Classical.em (∃ p s k, ρ p = .live b s k) with h | h
        · exact h
        · exact absurd (fun p s k e => h ⟨p, s, k, e⟩) hy
      obtain ⟨p, s, k, h⟩ := this
      exact .inr ⟨p, s, k, trivial, h⟩
  · intro p b s k h
    split at h <;> cases h
  · intro p b s k h
    split at h <;> cases h
  · intro p q b s k s' k' h
    split at h <;> cases h
  · intro p hp
    simp at hp
    exact if_neg (by omega)
attribute [local semireducible] CallD in
theorem call_eatV_does (φ : List Nat) (hC : CallD T f args L (fun d _ => ∃ r, d = .v r ∧ Q r)) (ho : o.op = .call c) (hc : c.callee = .value x) (hx : callee (ev T E 0 x) = some (f, caps)) (hargs : evL T E c.args.toList c.argTypes.toList = some ds)
    (hren : ds ++ caps = renDs (φ.getD · 0) args) (hlt : refsLts φ.length args = true) (hnd : φ.Nodup) (hlen : φ.length = L.length) (hob : ∀ (i : Nat) p, φ[i]? = some p → obLe φ (H p) (obAt L i)) :
    Does T o E H [] (fun d ups => ∃ r, Q r ∧ d = .v r ∧ ups = φ.map (fun p => (p, Ob.gone))) := by
  intro X ρ w a Q' K' r hn hK'
  obtain ⟨⟨fn, hf, hb, hname⟩, hC⟩ := hC
  cases hx' : ev T E 0 x with
  | none => rw [hx'] at hx; simp [callee] at hx
  | some dx =>
    rw [hx'] at hx
    obtain ⟨us, hv1, hc1, hl1⟩ := callee_val hx (ev_cell r hx')
    obtain ⟨hc2, hl2⟩ := evL_cells r hargs
    have happ : DCells X ρ w (ds ++ caps) (c.args.toList.map a.eval ++ us) := DCells.append (DCells.more hc2) (by rw [← hl2, List.drop_left]; exact hc1)
    rw [hren] at happ
    obtain ⟨h1, h2⟩ := renDs_cell φ args hlt happ
    have live1 : ∀ p b s k, slotsBy φ ρ p = .live b s k → ∃ q, φ[p]? = some q ∧ ρ q = .live b s k := by
      intro p b s k h
      unfold slotsBy at h
      split at h
      · rename_i q hq; exact ⟨q, hq, h⟩
      · cases h
    have hm1 : Mem X (slotsBy φ ρ) w := by
      refine ⟨r.mem.lt, fun p b s k h => ?_, fun p q b s k s' k' h h' => ?_⟩
      · obtain ⟨q, _, h⟩ := live1 p b s k h; exact r.mem.live q b s k h
      · obtain ⟨u, hu, h⟩ := live1 p b s k h
        obtain ⟨v, hv, h'⟩ := live1 q b s' k' h'
        have := r.mem.inj _ _ b _ _ _ _ h h'
        subst this
        have hp : p < φ.length := (List.getElem?_eq_some_iff.1 hu).1
        exact (List.getElem?_inj hp hnd).1 (hu.trans hv.symm)
    unfold Oper.wp
    rw [run_enter ho hc hv1 hf hb hname]
    refine (hC X (slotsBy φ ρ) w _ hm1 r.glob h1 ?_ ?_ ?_).mono ?_
    · rw [← h2, ← hren]; simp [hl2, hl1]
    · intro p
      cases hp : φ[p]? with
      | none =>
        have : L.length ≤ p := by rw [← hlen]; exact List.getElem?_eq_none_iff.1 hp
        rw [obAt_ge this]; trivial
      | some q => exact ob_ren hp (hob p q hp) (r.obs q)
    · intro p hp
      have : φ[p]? = none := List.getElem?_eq_none (by omega)
      simp [slotsBy, this]
    · rintro e w' ⟨v, d, L', X', ρ1', rfl, ⟨y, rfl, hQ⟩, st, hd, hob', hh'⟩
      let ρ' : Nat → Slot := fun q => if q ∈ φ then .dead else ρ q
      have out : ∀ q, q ∉ φ → ρ' q = ρ q := fun q h2 => by simp [ρ', h2]
      have dd : ∀ q, q ∈ φ → ρ' q = .dead := fun q h2 => by simp [ρ', h2]
      have inφ : ∀ {p b z k}, slotsBy φ ρ p = .live b z k → ∃ q ∈ φ, ρ q = .live b z k := fun h => by
        obtain ⟨q, hq, h⟩ := live1 _ _ _ _ h
        exact ⟨q, List.mem_of_getElem? hq, h⟩
      have ups_mem : ∀ q, (q ∈ (φ.map (fun p => (p, Ob.gone))).map (·.1)) ↔ q ∈ φ := by intro q; simp
      have live' : ∀ q b z k, ρ' q = .live b z k → q ∉ φ ∧ ρ q = .live b z k := fun q b z k h => by
        by_cases h2 : q ∈ φ
        · rw [dd q h2] at h; cases h
        · rw [out q h2] at h; exact ⟨h2, h⟩
      refine hK' _ _ v w' X' ρ' ⟨y, hQ, rfl, rfl⟩ ?_ hd ?_
      · refine ⟨st.os, st.tape, st.output, st.size, ?_, ?_, ?_, ?_, st.xout, ?_, ⟨st.mem.lt, ?_, ?_⟩⟩
        · intro b hb hno
          refine st.block b hb fun p z k _ e => ?_
          obtain ⟨q, hq, hq'⟩ := inφ e
          exact hno q z k ((ups_mem q).2 hq) hq'
        · intro q
          by_cases h2 : q ∈ φ
          · exact .inr (.inr (dd q h2))
          · exact .inr (.inl (out q h2))
        · intro q hq
          rw [ups_mem] at hq
          exact out q hq
        · intro b hX
          rcases st.xin b hX with h | ⟨p, z, k, _, h⟩
          · exact .inl h
          · obtain ⟨q, hq, hq'⟩ := inφ h
            exact .inr ⟨q, z, k, (ups_mem q).2 hq, hq'⟩
        · intro q b z k h
          exact .inl ⟨q, z, k, (live' q b z k h).2⟩
        · intro q b z k h
          obtain ⟨h2, h⟩ := live' q b z k h
          rcases st.xin b (r.mem.live q b z k h) with g | ⟨p, z', k', _, g⟩
          · exact g
          · obtain ⟨u, hu, hu'⟩ := inφ g
            exact absurd (r.mem.inj _ _ b _ _ _ _ h hu' ▸ hu) h2
        · intro p q b z k z' k' h h'
          exact r.mem.inj _ _ b _ _ _ _ (live' p b z k h).2 (live' q b z' k' h').2
      · intro y hy
        obtain ⟨p, _, rfl⟩ := List.mem_map.1 hy; trivial
theorem call_eatV (φ : List Nat) (hC : CallD T f args L (fun d _ => ∃ r, d = .v r ∧ Q r)) (ho : o.op = .call c) (hc : c.callee = .value x) (hx : callee (ev T E 0 x) = some (f, caps)) (hargs : evL T E c.args.toList c.argTypes.toList = some ds)
    (hren : ds ++ caps = renDs (φ.getD · 0) args) (hlt : refsLts φ.length args = true) (hnd : φ.Nodup) (hlen : φ.length = L.length) (hob : ∀ (i : Nat) p, φ[i]? = some p → obLe φ (H p) (obAt L i))
    (hK : ∀ r, Q r → K (.v r) (φ.map (fun p => (p, Ob.gone))) []) : CallOp T o E H nx K :=
  CallOp.mk (nw := []) (by simp) (call_eatV_does φ hC ho hc hx hargs hren hlt hnd hlen hob) (fun d ups ⟨r, q, e1, e2⟩ => by subst e1 e2; exact hK r q)
theorem call_eatVD (φ : List Nat) {r0 : V} (hC : CallD T f args L (fun d _ => ∃ r, d = .v r ∧ r = r0)) (ho : o.op = .call c) (hc : c.callee = .value x) (hx : callee (ev T E 0 x) = some (f, caps)) (hargs : evL T E c.args.toList c.argTypes.toList = some ds)
    (hren : ds ++ caps = renDs (φ.getD · 0) args) (hlt : refsLts φ.length args = true) (hnd : φ.Nodup) (hlen : φ.length = L.length) (hob : ∀ (i : Nat) p, φ[i]? = some p → obLe φ (H p) (obAt L i))
    (hK : K (.v r0) (φ.map (fun p => (p, Ob.gone))) []) : CallDet T o E H nx K := by
  refine CallDet.mk (nw := []) (by simp) ?_ hK
  intro X ρ w a Q' K' r hn hK'
  refine call_eatV_does (Q := (· = r0)) φ hC ho hc hx hargs hren hlt hnd hlen hob X ρ w a Q' K' r hn ?_
  rintro d ups v w' X' ρ' ⟨y, rfl, e1, e2⟩ st hcell hobs
  exact hK' d ups v w' X' ρ' ⟨e1, e2⟩ st hcell hobs
end
end Go.DL

/- DL, part 26: a call that owns some objects and reads others, which stay as they are. Own work; no condition. -/
set_option linter.unusedVariables false
set_option linter.unusedSimpArgs false
namespace Go.DL
open Go.RowKit

mutual
/-- Reading a D as closed data; of what a pointer points to, a first part. -/
def DP (H : Nat → Ob) : D → V → Prop
  | .v x, y => x = y
  | .arr p o n, .sl sz z xs => z = false ∧ ∃ rows, H p = .arr sz rows ∧ (rows.drop o).take n = xs.map (fun r => r.map .v) ∧ xs.length = n
  | .ptr p i j, .iptr cs => ∃ sz rows row rest, H p = .arr sz rows ∧ rows[i]? = some row ∧ row.drop j = cs.map .v ++ rest
  | .agg ds, .agg cs => DPs H ds cs
  | .tup ds, .tup cs => DPs H ds cs
  | .fn f ds, .fn g cs => f = g ∧ DPs H ds cs
  | _, _ => False
def DPs (H : Nat → Ob) : List D → List V → Prop
  | [], [] => True
  | d :: ds, x :: xs => DP H d x ∧ DPs H ds xs
  | _, _ => False
end
theorem DCells.pre {X : Nat → Prop} {ρ : Nat → Slot} {w : World} : ∀ {ds es : List D} {vs : List Value}, DCells X ρ w (ds ++ es) vs → DCells X ρ w ds vs
  | [], _, _, _ => trivial
  | _ :: _, _, [], h => h.elim
  | d :: ds, es, v :: vs, h => ⟨h.1, DCells.pre h.2⟩
mutual
theorem DP_cell {X Y : Nat → Prop} {ρ : Nat → Slot} {w : World} {H : Nat → Ob} (hob : ∀ p, ObOK X ρ w p (H p)) (hY : ∀ b, Y b → X b) (hl : ∀ p b sz cap, H p ≠ .gone → ρ p = .live b sz cap → ¬ Y b) : ∀ (d : D) (x : V) (u : Value), DP H d x → DCell X ρ w d u → VCell Y w x u
  | .v y, x, u, h, c => by
    unfold DP at h; subst h
    exact VCell.keep ⟨fun b _ hX hYb => hX (hY b hYb), fun b _ _ => rfl⟩ _ _ c
  | .arr p o n, .sl sz z xs, u, h, c => by
    unfold DP at h
    obtain ⟨rfl, rows, hp, hx, hn⟩ := h
    have hne : H p ≠ .gone := by rw [hp]; simp
    have ho := hob p
    rw [hp] at ho
    obtain ⟨h0, hr, hm, ho⟩ := ho
    have hone : ∀ r ∈ xs, r.length = sz ∧ r.all V.one = true := by
      intro r hr'
      have : r.map D.v ∈ (rows.drop o).take n := by rw [hx]; exact List.mem_map.2 ⟨r, hr', rfl⟩
      have := hr _ (List.mem_of_mem_drop (List.mem_of_mem_take this))
      exact ⟨by simpa using this.1, all_d this.2⟩
    have hlen : xs.length ≤ rows.length := by
      have := congrArg List.length hx
      simp at this; omega
    unfold DCell at c
    cases hq : ρ p with
    | hole => simp only [hq] at c
    | dead => simp only [hq] at ho
    | null =>
      simp only [hq] at c ho
      obtain ⟨⟨A, rfl⟩, rfl, rfl⟩ := c
      have : xs = [] := List.length_eq_zero_iff.1 hn
      subst this
      exact ⟨h0, by simp, by simp, (fun h => by cases h), A, 0, rfl, by simp, by simp, fun h => absurd rfl h⟩
    | live b s cap =>
      simp only [hq] at c ho
      obtain ⟨rfl, h2, h3, cs, t, fr, hh, hcs, hf, hrr⟩ := ho
      obtain ⟨h4, h5, h6⟩ := c
      by_cases hc : o < cap
      · refine ⟨h0, hone, by omega, (fun h => by cases h), some ⟨b, o * s, none⟩, cap - o, by rw [h5 hc, hn], by omega, by omega, fun _ => ⟨b, o * s, cs, t, fr, rfl, hl p b s cap hne hq, hh, ?_⟩⟩
        have := DRows.take n (DRows.drop o (fun r hr' => (hr r hr').1) hrr)
        rw [hx] at this
        exact VRows.keep ⟨fun b _ hX hYb => hX (hY b hYb), fun b _ _ => rfl⟩ _ _ (DRows.toV this)
      · obtain ⟨A, hA⟩ := h6 (by omega)
        have hn0 : n = 0 := by omega
        have : xs = [] := List.length_eq_zero_iff.1 (by omega)
        subst this
        exact ⟨h0, by simp, by simp, (fun h => by cases h), some A, 0, by rw [hA]; rfl, by simp, by simp, fun h => absurd rfl h⟩
  | .ptr p i j, .iptr cs, u, h, c => by
    unfold DP at h
    obtain ⟨sz, rows, row, rest, hp, hi, hrow⟩ := h
    have hne : H p ≠ .gone := by rw [hp]; simp
    have ho := hob p
    rw [hp] at ho
    obtain ⟨h0, hr, hm, ho⟩ := ho
    unfold DCell at c
    cases hq : ρ p with
    | hole => simp only [hq] at c
    | dead => simp only [hq] at ho
    | null => simp only [hq] at c
    | live b s cap =>
      simp only [hq] at c ho
      obtain ⟨rfl, h2, h3, arr, t, fr, hh, hcs, hf, hrr⟩ := ho
      refine ⟨b, i * s + j, arr, t, fr, c, hl p b s cap hne hq, hh, ?_⟩
      have := DCells.drop j (DRows.get (fun r hr' => (hr r hr').1) hrr hi)
      rw [hrow, List.drop_drop] at this
      exact VCells.keep ⟨fun b _ hX hYb => hX (hY b hYb), fun b _ _ => rfl⟩ _ _ (DCells.toV (DCells.pre this))
  | .agg ds, .agg cs, u, h, c => by
    unfold DP at h
    obtain ⟨vs, hv, hlen, hc⟩ := c
    obtain ⟨h1, h2⟩ := DPs_cell hob hY hl ds cs vs h hc
    exact ⟨vs, hv, hlen.trans h2, h1⟩
  | .tup ds, .tup cs, u, h, c => by
    unfold DP at h
    obtain ⟨vs, hv, hlen, hc⟩ := c
    obtain ⟨h1, h2⟩ := DPs_cell hob hY hl ds cs vs h hc
    exact ⟨vs, hv, hlen.trans h2, h1⟩
  | .fn f ds, .fn g cs, u, h, c => by
    unfold DP at h
    obtain ⟨rfl, h⟩ := h
    obtain ⟨vs, hv, hlen, hc⟩ := c
    obtain ⟨h1, h2⟩ := DPs_cell hob hY hl ds cs vs h hc
    exact ⟨vs, hv, hlen.trans h2, h1⟩
theorem DPs_cell {X Y : Nat → Prop} {ρ : Nat → Slot} {w : World} {H : Nat → Ob} (hob : ∀ p, ObOK X ρ w p (H p)) (hY : ∀ b, Y b → X b) (hl : ∀ p b sz cap, H p ≠ .gone → ρ p = .live b sz cap → ¬ Y b) : ∀ (ds : List D) (xs : List V) (us : List Value), DPs H ds xs → DCells X ρ w ds us → VCells Y w xs us ∧ ds.length = xs.length
  | [], [], us, _, _ => ⟨trivial, rfl⟩
  | [], _ :: _, us, h, _ => by unfold DPs at h; exact h.elim
  | _ :: _, [], us, h, _ => by unfold DPs at h; exact h.elim
  | d :: ds, x :: xs, [], _, c => c.elim
  | d :: ds, x :: xs, u :: us, h, c => by
    unfold DPs at h
    obtain ⟨h1, h2⟩ := DPs_cell hob hY hl ds xs us h.2 c.2
    exact ⟨⟨DP_cell hob hY hl d x u h.1 c.1, h1⟩, by simp [h2]⟩
end
/-- The objects that are read. -/
def HX (H : Nat → Ob) (φ : List Nat) (p : Nat) : Ob := if p ∈ φ then .gone else H p
/-- What is handed over: with references to the objects that are given away, or read as closed data. -/
def Mx (H : Nat → Ob) (φ : List Nat) (d a : D) : Prop := (refsLt φ.length a = true ∧ d = renD (φ.getD · 0) a) ∨ (∃ x, a = .v x ∧ DP (HX H φ) d x)
def MxL (H : Nat → Ob) (φ : List Nat) : List D → List D → Prop
  | [], [] => True
  | d :: ds, a :: as => Mx H φ d a ∧ MxL H φ ds as
  | _, _ => False
theorem MxL_cell {X Y : Nat → Prop} {ρ : Nat → Slot} {w : World} {H : Nat → Ob} {φ : List Nat} (hob : ∀ p, ObOK X ρ w p (H p)) (hY : ∀ b, Y b → X b) (hl : ∀ p b sz cap, p ∉ φ → ρ p = .live b sz cap → ¬ Y b) :
    ∀ (ds as : List D) (us : List Value), MxL H φ ds as → DCells X ρ w ds us → DCells Y (slotsBy φ ρ) w as us ∧ ds.length = as.length
  | [], [], us, _, _ => ⟨trivial, rfl⟩
  | [], _ :: _, us, h, _ => h.elim
  | _ :: _, [], us, h, _ => h.elim
  | d :: ds, a :: as, [], _, c => c.elim
  | d :: ds, a :: as, u :: us, h, c => by
    obtain ⟨h1, h2⟩ := MxL_cell hob hY hl ds as us h.2 c.2
    refine ⟨⟨?_, h1⟩, by simp [h2]⟩
    rcases h.1 with ⟨hlt, rfl⟩ | ⟨x, rfl, hx⟩
    · exact DCell.keep ⟨fun b _ hX hYb => hX (hY b hYb), fun b _ _ => rfl⟩ (Slots.refl _) _ _ (renD_cell φ a hlt c.1)
    · refine DP_cell (H := HX H φ) (fun p => ?_) hY (fun p b sz cap hne hp => ?_) d x u hx c.1
      · unfold HX; split
        · trivial
        · exact hob p
      · unfold HX at hne
        split at hne
        · exact absurd rfl hne
        · exact hl p b sz cap ‹_› hp
theorem ObOK.less {X Y : Nat → Prop} {ρ : Nat → Slot} {w : World} (hY : ∀ b, Y b → X b) {p : Nat} : ∀ {x : Ob}, ObOK X ρ w p x → ObOK Y ρ w p x
  | .gone, _ => trivial
  | .cap .., h => h
  | .iter .., h => h
  | .arr sz rows, h => by
    obtain ⟨h0, h1, h2, h3⟩ := h
    refine ⟨h0, h1, h2, ?_⟩
    cases hq : ρ p with
    | live b s cap =>
      simp only [hq] at h3 ⊢
      obtain ⟨a1, a2, a3, cs, t, fr, b1, b2, b3, b4⟩ := h3
      exact ⟨a1, a2, a3, cs, t, fr, b1, b2, b3, DRows.keep ⟨fun b _ hX hYb => hX (hY b hYb), fun b _ _ => rfl⟩ (Slots.refl _) _ _ b4⟩
    | null => simp only [hq] at h3 ⊢; exact h3
    | hole => simp only [hq] at h3
    | dead => simp only [hq] at h3
theorem VRows.flat {X X' : Nat → Prop} {w w' : World} : ∀ {xs : List (List V)} {vs : List Value}, (∀ r ∈ xs, V.flats r = true) → VRows X w xs vs → VRows X' w' xs vs
  | [], _, _, _ => trivial
  | r :: rs, vs, h, k => ⟨V.flats_cell r (h r List.mem_cons_self) k.1, VRows.flat (fun x hx => h x (List.mem_cons_of_mem _ hx)) k.2⟩
section
variable {P : Program} {T : Tab P} {o : Oper} {E : Nat → Option D} {H : Nat → Ob} {nx : Nat} {K : KT} {c : Call} {f : FuncId} {x : Operand} {ds caps args : List D} {L : List Ob} {sz : Nat} {Q : List (List V) → Prop}
attribute [local semireducible] CallD in
theorem call_fr_does (φ : List Nat) (hC : CallE T f args L sz Q) (ho : o.op = .call c) (hc : c.callee = .value x) (hx : callee (ev T E 0 x) = some (f, caps)) (hargs : evL T E c.args.toList c.argTypes.toList = some ds)
    (hmx : MxL H φ (ds ++ caps) args) (hfl : ∀ xs, Q xs → ∀ r ∈ xs, V.flats r = true) (hnd : φ.Nodup) (hlen : φ.length = L.length) (hnx : nx ∉ φ) (hob : ∀ (i : Nat) p, φ[i]? = some p → obLe φ (H p) (obAt L i)) :
    Does T o E H [nx] (fun d ups => ∃ xs, Q xs ∧ d = .arr nx 0 xs.length ∧ ups = φ.map (fun p => (p, Ob.gone)) ++ [(nx, .arr sz (xs.map fun r => r.map .v))]) := by
  intro X ρ w a Q' K' r hn hK'
  have hnx0 : ρ nx = .hole := hn nx (by simp)
  obtain ⟨⟨fn, hf, hb, hname⟩, hC⟩ := hC
  cases hx' : ev T E 0 x with
  | none => rw [hx'] at hx; simp [callee] at hx
  | some dx =>
    rw [hx'] at hx
    obtain ⟨us, hv1, hc1, hl1⟩ := callee_val hx (ev_cell r hx')
    obtain ⟨hc2, hl2⟩ := evL_cells r hargs
    have happ : DCells X ρ w (ds ++ caps) (c.args.toList.map a.eval ++ us) := DCells.append (DCells.more hc2) (by rw [← hl2, List.drop_left]; exact hc1)
    let X0 : Nat → Prop := fun b => X b ∧ ∀ p s k, p ∉ φ → ρ p ≠ .live b s k
    have hY : ∀ b, X0 b → X b := fun b h => h.1
    obtain ⟨h1, h2⟩ := MxL_cell (Y := X0) r.obs hY (fun p b s k hp h hb => hb.2 p s k hp h) _ _ _ hmx happ
    have live1 : ∀ p b s k, slotsBy φ ρ p = .live b s k → ∃ q, φ[p]? = some q ∧ ρ q = .live b s k := by
      intro p b s k h
      unfold slotsBy at h
      split at h
      · rename_i q hq; exact ⟨q, hq, h⟩
      · cases h
    have hm1 : Mem X0 (slotsBy φ ρ) w := by
      refine ⟨fun b hb => r.mem.lt b hb.1, fun p b s k h => ?_, fun p q b s k s' k' h h' => ?_⟩
      · obtain ⟨q, hq, h⟩ := live1 p b s k h
        exact ⟨r.mem.live q b s k h, fun p' s' k' hp' h' => hp' (r.mem.inj _ _ b _ _ _ _ h h' ▸ List.mem_of_getElem? hq)⟩
      · obtain ⟨u, hu, h⟩ := live1 p b s k h
        obtain ⟨v, hv, h'⟩ := live1 q b s' k' h'
        have := r.mem.inj _ _ b _ _ _ _ h h'
        subst this
        have hp : p < φ.length := (List.getElem?_eq_some_iff.1 hu).1
        exact (List.getElem?_inj hp hnd).1 (hu.trans hv.symm)
    unfold Oper.wp
    rw [run_enter ho hc hv1 hf hb hname]
    refine (hC X0 (slotsBy φ ρ) w _ hm1 (fun g cs h => VCell.keep ⟨fun b _ hX hYb => hX (hY b hYb), fun b _ _ => rfl⟩ _ _ (r.glob g cs h)) h1 ?_ ?_ ?_).mono ?_
    · rw [← h2]; simp [hl2, hl1]
    · intro p
      cases hp : φ[p]? with
      | none =>
        have : L.length ≤ p := by rw [← hlen]; exact List.getElem?_eq_none_iff.1 hp
        rw [obAt_ge this]; trivial
      | some q => exact ob_ren hp (hob p q hp) (ObOK.less hY (r.obs q))
    · intro p hp
      have : φ[p]? = none := List.getElem?_eq_none (by omega)
      simp [slotsBy, this]
    · rintro e w' ⟨v, d, L', X1, ρ1', rfl, ⟨xs, hQ, hres⟩, st, hd, hob', hh'⟩
      have hflat := hfl xs hQ
      let X' : Nat → Prop := fun b => X1 b ∨ ∃ p s k, p ∉ φ ∧ ρ p = .live b s k
      -- where the result lies
      obtain ⟨s, hs1, hs2, hs3⟩ : ∃ s : Slot, (∀ b z k, s = .live b z k → ∃ p, ρ1' p = .live b z k) ∧ (∀ ρ' : Nat → Slot, ρ' nx = s → DCell X' ρ' w' (.arr nx 0 xs.length) v) ∧ (∀ ρ' : Nat → Slot, ρ' nx = s → ObOK X' ρ' w' nx (.arr sz (xs.map fun r => r.map .v))) := by
        rcases hres with ⟨p, rows, rfl, hLp, htake⟩ | ⟨rfl, rfl⟩
        · have hobp := hob' p
          rw [hLp] at hobp
          obtain ⟨z0, z1, z2, z3⟩ := hobp
          have hrow : ∀ q ∈ xs.map (fun q => q.map D.v), q.length = sz ∧ q.all D.one = true := by
            intro q hq
            rw [← htake] at hq
            exact z1 q (List.mem_of_mem_take hq)
          have hlx : xs.length ≤ rows.length := by
            have := congrArg List.length htake
            simp at this; omega
          refine ⟨ρ1' p, fun b z k e => ⟨p, e⟩, fun ρ' e => ?_, fun ρ' e => ?_⟩
          · unfold DCell at hd ⊢
            rw [e]; exact hd
          · refine ⟨z0, hrow, by simp; omega, ?_⟩
            rw [e]
            cases hq : ρ1' p with
            | live b z k =>
              simp only [hq] at z3 ⊢
              obtain ⟨a1, a2, a3, cs, t, fr, b1, b2, b3, b4⟩ := z3
              refine ⟨a1, by simp; omega, a3, cs, t, fr, b1, b2, b3, ?_⟩
              have := DRows.take xs.length b4
              rw [htake] at this
              exact VRows.toD (sz := sz) (fun q hq => by
                have := (hrow _ (List.mem_map.2 ⟨q, hq, rfl⟩)).1
                simpa using this) (VRows.flat hflat (DRows.toV this))
            | null =>
              simp only [hq] at z3 ⊢
              subst z3
              simp at hlx
              simp [hlx]
            | hole => simp only [hq] at z3
            | dead => simp only [hq] at z3
        · refine ⟨.null, by simp, fun ρ' e => ?_, fun ρ' e => ?_⟩
          · unfold DCell VCell at hd
            obtain ⟨z0, _, _, hz, _⟩ := hd
            obtain ⟨A, hA⟩ := hz rfl
            unfold DCell
            rw [e]
            exact ⟨⟨A, hA⟩, rfl, rfl⟩
          · unfold DCell VCell at hd
            obtain ⟨z0, _⟩ := hd
            refine ⟨z0, by simp, by simp, ?_⟩
            rw [e]; rfl
      let ρ' : Nat → Slot := fun q => if q = nx then s else if q ∈ φ then .dead else ρ q
      have hrn : ρ' nx = s := by simp [ρ']
      have out : ∀ q, q ≠ nx → q ∉ φ → ρ' q = ρ q := fun q h1 h2 => by simp [ρ', h1, h2]
      have dd : ∀ q, q ≠ nx → q ∈ φ → ρ' q = .dead := fun q h1 h2 => by simp [ρ', h1, h2]
      have inφ : ∀ {p b z k}, slotsBy φ ρ p = .live b z k → ∃ q ∈ φ, ρ q = .live b z k := fun h => by
        obtain ⟨q, hq, h⟩ := live1 _ _ _ _ h
        exact ⟨q, List.mem_of_getElem? hq, h⟩
      have src' : ∀ {b z k}, s = .live b z k → (∃ q ∈ φ, ∃ z' k', ρ q = .live b z' k') ∨ w.heap.size ≤ b := by
        intro b z k h
        obtain ⟨p, hp⟩ := hs1 b z k h
        rcases st.src p b z k hp with ⟨q, z', k', hq⟩ | h
        · obtain ⟨u, hu, hu'⟩ := inφ hq
          exact .inl ⟨u, hu, z', k', hu'⟩
        · exact .inr h
      have ups_mem : ∀ q, (q ∈ (φ.map (fun p => (p, Ob.gone)) ++ [(nx, Ob.arr sz (xs.map fun r => r.map .v))]).map (·.1)) ↔ (q ∈ φ ∨ q = nx) := by
        intro q; simp
      refine hK' _ _ v w' X' ρ' ⟨xs, hQ, rfl, rfl⟩ ?_ (hs2 ρ' hrn) ?_
      · refine ⟨st.os, st.tape, st.output, st.size, ?_, ?_, ?_, ?_, ?_, ?_, ⟨?_, ?_, ?_⟩⟩
        · intro b hb hno
          refine st.block b hb fun p z k _ e => ?_
          obtain ⟨q, hq, hq'⟩ := inφ e
          exact hno q z k ((ups_mem q).2 (.inl hq)) hq'
        · intro q
          by_cases h1 : q = nx
          · subst h1; exact .inl hnx0
          · by_cases h2 : q ∈ φ
            · exact .inr (.inr (dd q h1 h2))
            · exact .inr (.inl (out q h1 h2))
        · intro q hq
          rw [ups_mem] at hq
          exact out q (fun e => hq (.inr e)) (fun e => hq (.inl e))
        · intro b hX
          rcases Classical.em (∃ p s k, p ∉ φ ∧ ρ p = .live b s k) with h0 | h0
          · exact .inl (.inr h0)
          · rcases st.xin b ⟨hX, fun p s k hp e => h0 ⟨p, s, k, hp, e⟩⟩ with h | ⟨p, z, k, _, h⟩
            · exact .inl (.inl h)
            · obtain ⟨q, hq, hq'⟩ := inφ h
              exact .inr ⟨q, z, k, (ups_mem q).2 (.inl hq), hq'⟩
        · intro b hX
          rcases hX with hX | ⟨p, s, k, _, h⟩
          · rcases st.xout b hX with h | h
            · exact .inl h.1
            · exact .inr h
          · exact .inl (r.mem.live p b s k h)
        · intro q b z k h
          by_cases h1 : q = nx
          · subst h1
            rw [hrn] at h
            rcases src' h with ⟨u, _, z', k', hu⟩ | h
            · exact .inl ⟨u, z', k', hu⟩
            · exact .inr h
          · by_cases h2 : q ∈ φ
            · rw [dd q h1 h2] at h; cases h
            · rw [out q h1 h2] at h; exact .inl ⟨q, z, k, h⟩
        · intro b hX
          rcases hX with hX | ⟨p, s, k, _, h⟩
          · exact st.mem.lt b hX
          · exact Nat.lt_of_lt_of_le (r.mem.lt b (r.mem.live p b s k h)) st.size
        · intro q b z k h
          by_cases h1 : q = nx
          · subst h1
            rw [hrn] at h
            obtain ⟨p, hp⟩ := hs1 b z k h
            exact .inl (st.mem.live p b z k hp)
          · by_cases h2 : q ∈ φ
            · rw [dd q h1 h2] at h; cases h
            · rw [out q h1 h2] at h
              exact .inr ⟨q, z, k, h2, h⟩
        · have one : ∀ q b z k z' k', q ≠ nx → ρ' q = .live b z k → s = .live b z' k' → False := by
            intro q b z k z' k' h1 h hs
            by_cases h2 : q ∈ φ
            · rw [dd q h1 h2] at h; cases h
            · rw [out q h1 h2] at h
              rcases src' hs with ⟨u, hu, z2, k2, hu'⟩ | g
              · exact h2 (r.mem.inj _ _ b _ _ _ _ h hu' ▸ hu)
              · have := r.mem.lt b (r.mem.live q b z k h); omega
          intro p q b z k z' k' h h'
          by_cases hp : p = nx
          · by_cases hq : q = nx
            · rw [hp, hq]
            · subst hp; rw [hrn] at h; exact (one q b z' k' z k hq h' h).elim
          · by_cases hq : q = nx
            · subst hq; rw [hrn] at h'; exact (one p b z k z' k' hp h h').elim
            · have g : ∀ u z k, u ≠ nx → ρ' u = .live b z k → ρ u = .live b z k := by
                intro u z k hu h
                by_cases h2 : u ∈ φ
                · rw [dd u hu h2] at h; cases h
                · rwa [out u hu h2] at h
              exact r.mem.inj _ _ b _ _ _ _ (g p z k hp h) (g q z' k' hq h')
      · intro y hy
        rcases List.mem_append.1 hy with hy | hy
        · obtain ⟨p, _, rfl⟩ := List.mem_map.1 hy; trivial
        · simp at hy; subst hy; exact hs3 ρ' hrn
theorem call_fr (φ : List Nat) (hC : CallE T f args L sz Q) (ho : o.op = .call c) (hc : c.callee = .value x) (hx : callee (ev T E 0 x) = some (f, caps)) (hargs : evL T E c.args.toList c.argTypes.toList = some ds)
    (hmx : MxL H φ (ds ++ caps) args) (hfl : ∀ xs, Q xs → ∀ r ∈ xs, V.flats r = true) (hnd : φ.Nodup) (hlen : φ.length = L.length) (hnx : nx ∉ φ) (hob : ∀ (i : Nat) p, φ[i]? = some p → obLe φ (H p) (obAt L i))
    (hK : ∀ xs, Q xs → K (.arr nx 0 xs.length) (φ.map (fun p => (p, Ob.gone)) ++ [(nx, .arr sz (xs.map fun r => r.map .v))]) [nx]) : CallOp T o E H nx K :=
  CallOp.mk (nw := [nx]) (by simp) (call_fr_does φ hC ho hc hx hargs hmx hfl hnd hlen hnx hob) (fun d ups ⟨xs, q, e1, e2⟩ => by subst e1 e2; exact hK xs q)
theorem call_frD (φ : List Nat) {xs0 : List (List V)} (hC : CallE T f args L sz (· = xs0)) (ho : o.op = .call c) (hc : c.callee = .value x) (hx : callee (ev T E 0 x) = some (f, caps)) (hargs : evL T E c.args.toList c.argTypes.toList = some ds)
    (hmx : MxL H φ (ds ++ caps) args) (hfl : ∀ r ∈ xs0, V.flats r = true) (hnd : φ.Nodup) (hlen : φ.length = L.length) (hnx : nx ∉ φ) (hob : ∀ (i : Nat) p, φ[i]? = some p → obLe φ (H p) (obAt L i))
    (hK : K (.arr nx 0 xs0.length) (φ.map (fun p => (p, Ob.gone)) ++ [(nx, .arr sz (xs0.map fun r => r.map .v))]) [nx]) : CallDet T o E H nx K := by
  refine CallDet.mk (nw := [nx]) (by simp) ?_ hK
  intro X ρ w a Q' K' r hn hK'
  refine call_fr_does φ hC ho hc hx hargs hmx (fun xs e => by rw [e]; exact hfl) hnd hlen hnx hob X ρ w a Q' K' r hn ?_
  rintro d ups v w' X' ρ' ⟨xs, rfl, e1, e2⟩ st hcell hobs
  exact hK' d ups v w' X' ρ' ⟨e1, e2⟩ st hcell hobs
/-- Data of which nothing lies in memory. -/
def V.safe : V → Bool
  | .sl _ _ [] => true
  | x => x.flat
theorem V.safe_cell {X X' : Nat → Prop} {w w' : World} {x : V} {u : Value} (h : x.safe = true) (c : VCell X w x u) : VCell X' w' x u := by
  unfold V.safe at h
  split at h
  · unfold VCell at c ⊢
    obtain ⟨h0, h1, h2, h3, A, k, h4, h5, h6, h7⟩ := c
    exact ⟨h0, h1, h2, h3, A, k, h4, h5, h6, fun h => absurd rfl h⟩
  · exact V.flat_cell x h c
attribute [local semireducible] CallV in
theorem call_rp_does {vargs : List V} {r0 : V} (hC : CallV T f vargs (· = r0)) (ho : o.op = .call c) (hc : c.callee = .value x) (hx : callee (ev T E 0 x) = some (f, caps)) (hargs : evL T E c.args.toList c.argTypes.toList = some ds) (hv : DPs H (ds ++ caps) vargs)
    (hflat : r0.safe = true) : Does T o E H [] (fun d ups => ups = [] ∧ d = .v r0) := by
  intro X ρ w a Q' K' r _ hK'
  obtain ⟨⟨fn, hf, hb, hn⟩, hC⟩ := hC
  cases hx' : ev T E 0 x with
  | none => rw [hx'] at hx; simp [callee] at hx
  | some dx =>
    rw [hx'] at hx
    obtain ⟨us, hv1, hc1, hl1⟩ := callee_val hx (ev_cell r hx')
    obtain ⟨hc2, hl2⟩ := evL_cells r hargs
    have happ : DCells X ρ w (ds ++ caps) (c.args.toList.map a.eval ++ us) := DCells.append (DCells.more hc2) (by rw [← hl2, List.drop_left]; exact hc1)
    obtain ⟨h1, h2⟩ := DPs_cell (Y := fun _ => False) r.obs (fun _ h => h.elim) (fun _ _ _ _ _ _ h => h) _ _ _ hv happ
    unfold Oper.wp
    rw [run_enter ho hc hv1 hf hb hn]
    refine (hC (fun _ => False) w _ (fun _ h => h.elim) (fun g cs h => VCell.keep ⟨fun _ _ _ h => h, fun _ _ _ => rfl⟩ _ _ (r.glob g cs h)) h1 (by rw [← h2]; simp [hl2, hl1])).mono ?_
    rintro e w' ⟨q, v, rfl, rfl, hcell, hbel⟩
    exact hK' (.v q) [] v w' X ρ ⟨rfl, rfl⟩ (below_step r.mem hbel) (V.safe_cell hflat hcell) (by simp)
theorem call_rp {vargs : List V} {r0 : V} (hC : CallV T f vargs (· = r0)) (ho : o.op = .call c) (hc : c.callee = .value x) (hx : callee (ev T E 0 x) = some (f, caps)) (hargs : evL T E c.args.toList c.argTypes.toList = some ds) (hv : DPs H (ds ++ caps) vargs)
    (hflat : r0.safe = true) (hK : K (.v r0) [] []) : CallOp T o E H nx K :=
  CallOp.mk (nw := []) (by simp) (call_rp_does hC ho hc hx hargs hv hflat) (fun d ups ⟨e1, e2⟩ => by subst e1 e2; exact hK)
theorem call_rpD {vargs : List V} {r0 : V} (hC : CallV T f vargs (· = r0)) (ho : o.op = .call c) (hc : c.callee = .value x) (hx : callee (ev T E 0 x) = some (f, caps)) (hargs : evL T E c.args.toList c.argTypes.toList = some ds) (hv : DPs H (ds ++ caps) vargs)
    (hflat : r0.safe = true) (hK : K (.v r0) [] []) : CallDet T o E H nx K := by
  refine CallDet.mk (nw := []) (d := .v r0) (ups := []) (by simp) ?_ hK
  intro X ρ w a Q' K' r hn hK'
  refine call_rp_does hC ho hc hx hargs hv hflat X ρ w a Q' K' r hn ?_
  rintro d ups v w' X' ρ' ⟨e1, e2⟩ st hcell hobs
  exact hK' d ups v w' X' ρ' ⟨e2, e1⟩ st hcell hobs
end
end Go.DL

/- DL, part 27: of a result it need not be known whether it is nil. Own work; no condition. -/
set_option linter.unusedVariables false
set_option linter.unusedSimpArgs false
namespace Go.DL
open Go.RowKit
section
variable {P : Program} {T : Tab P} {f : FuncId} {args : List V}
theorem VCell.weak {X : Nat → Prop} {w : World} {sz : Nat} {z : Bool} {xs : List (List V)} {v : Value} (h : VCell X w (.sl sz z xs) v) : VCell X w (.sl sz false xs) v := by
  unfold VCell at h ⊢
  obtain ⟨h0, h1, h2, h3, h4⟩ := h
  exact ⟨h0, h1, h2, (fun h => by cases h), h4⟩
attribute [local semireducible] CallV in
theorem CallV.weak {sz : Nat} {xs : List (List V)} (h : CallV T f args (fun r => ∃ z, r = .sl sz z xs)) : CallV T f args (· = .sl sz false xs) := by
  refine ⟨h.1, fun X w vs hX hg hv hl => (h.2 X w vs hX hg hv hl).mono ?_⟩
  rintro e w' ⟨r, v, he, ⟨z, rfl⟩, hc, hb⟩
  exact ⟨_, v, he, rfl, VCell.weak hc, hb⟩
end
end Go.DL

/- DL, part 28: an object of which one row holds a reference; forgetting objects. Own work; no condition. -/
set_option linter.unusedVariables false
set_option linter.unusedSimpArgs false
namespace Go.DL
open Go.RowKit
theorem vrows_set (xs : List (List V)) (i : Nat) (r : List V) : vrows (xs.set i r) = (vrows xs).set i (r.map D.v) := by simp [vrows, List.map_set]
theorem obLe_set {th : List Nat} {sz i : Nat} {rows : List (List D)} {xs : List (List V)} {row : List D} (h : rows = (vrows xs).set i (renDs (th.getD · 0) row)) (hr : refsLts th.length row = true) : obLe th (.arr sz rows) (.arr sz ((vrows xs).set i row)) := by
  refine ⟨rfl, ?_, ?_⟩
  · rw [h, List.map_set]
    congr 1
    rw [vrows, List.map_map]
    apply List.map_congr_left
    intro x _
    simp only [Function.comp, renDs_map_v]
  · rw [List.all_eq_true]
    intro r hr'
    rcases List.mem_or_eq_of_mem_set hr' with h1 | h1
    · obtain ⟨x, _, rfl⟩ := List.mem_map.1 h1
      exact refsLts_map_v _ _
    · rw [h1]; exact hr
theorem rowSetNe {rows : List (List D)} {i k : Nat} {r : List D} {K : List D → Prop} (h : i ≠ k) (hk : rowK rows[k]? K) : rowK (rows.set i r)[k]? K := by
  rw [List.getElem?_set_ne h]; exact hk
theorem renDs_v (g : Nat → Nat) : ∀ r : List V, renDs g (r.map D.v) = r.map D.v
  | [] => rfl
  | x :: r => by simp only [List.map_cons, renDs, renD, renDs_v g r]
theorem renRows_v (g : Nat → Nat) (xs : List (List V)) : (vrows xs).map (renDs g) = vrows xs := by
  rw [vrows, List.map_map]
  apply List.map_congr_left
  intro x _
  simp only [Function.comp, renDs_v]
theorem renRows_set (g : Nat → Nat) (xs : List (List V)) (i : Nat) (row : List D) : ((vrows xs).set i row).map (renDs g) = (vrows xs).set i (renDs g row) := by
  rw [List.map_set, renRows_v]
theorem DVs_v (H : Nat → Ob) : ∀ r : List V, DVs H (r.map D.v) r
  | [] => trivial
  | x :: r => ⟨rfl, DVs_v H r⟩
theorem RowsV_v (H : Nat → Ob) : ∀ A : List (List V), RowsV H (vrows A) A
  | [] => trivial
  | r :: A => ⟨DVs_v H r, RowsV_v H A⟩
theorem RowsV_set {H : Nat → Ob} {row : List D} {vrow : List V} (h : DVs H row vrow) : ∀ (A : List (List V)) (i : Nat), RowsV H ((vrows A).set i row) (A.set i vrow)
  | [], i => trivial
  | r :: A, 0 => ⟨h, RowsV_v H A⟩
  | r :: A, i + 1 => ⟨DVs_v H r, RowsV_set h A i⟩
theorem DW_set {H : Nat → Ob} {p n sz i : Nat} {A : List (List V)} {row : List D} {vrow : List V} (hp : H p = .arr sz ((vrows A).set i row)) (hn : n = A.length) (h : DVs H row vrow) : DW H (.arr p 0 n) (.sl sz false (A.set i vrow)) := by
  subst hn
  refine ⟨rfl, by simp, _, hp, ?_⟩
  rw [List.drop_zero, List.take_of_length_le (by simp)]
  exact RowsV_set h A i
section
variable {P : Program} {T : Tab P} {f : FuncId} {args : List V}
attribute [local semireducible] CallD in
theorem CallD.weak {ds : List D} {L : List Ob} {d0 : D} {L0 L1 : List Ob} (h : CallD T f ds L fun d L' => d = d0 ∧ L' = L0) (hl : L1.length = L0.length) (ho : ∀ i, obAt L1 i = .gone ∨ obAt L1 i = obAt L0 i) : CallD T f ds L fun d L' => d = d0 ∧ L' = L1 := by
  refine ⟨h.1, fun X ρ w vs hm hg hc hlen hob hh => (h.2 X ρ w vs hm hg hc hlen hob hh).mono ?_⟩
  rintro e w' ⟨v, d, L', X', ρ', he, ⟨rfl, rfl⟩, st, hd, hob', hh'⟩
  refine ⟨v, _, L1, X', ρ', he, ⟨rfl, rfl⟩, st, hd, fun p => ?_, fun p hp => hh' p (by omega)⟩
  rcases ho p with e | e
  · rw [e]; trivial
  · rw [e]; exact hob' p
theorem call_newE {o : Oper} {E : Nat → Option D} {H : Nat → Ob} {nx : Nat} {K : KT} {c : Call} {x : Operand} {ds caps : List D} {vargs : List V} {d0 d1 : D} {L0 : List Ob} {U1 : List (Nat × Ob)} (hC : CallN T f vargs d0 L0) (ho : o.op = .call c) (hc : c.callee = .value x) (hx : callee (ev T E 0 x) = some (f, caps)) (hargs : evL T E c.args.toList c.argTypes.toList = some ds) (hv : D.toVs (ds ++ caps) = some vargs)
    (e1 : renD (· + nx) d0 = d1) (e2 : upsN nx 0 L0 = U1) (hK : K d1 U1 (nwN nx L0.length)) : CallOp T o E H nx K := by
  subst e1 e2; exact call_new hC ho hc hx hargs hv hK
theorem call_newED {o : Oper} {E : Nat → Option D} {H : Nat → Ob} {nx : Nat} {K : KT} {c : Call} {x : Operand} {ds caps : List D} {vargs : List V} {d0 d1 : D} {L0 : List Ob} {U1 : List (Nat × Ob)} (hC : CallN T f vargs d0 L0) (ho : o.op = .call c) (hc : c.callee = .value x) (hx : callee (ev T E 0 x) = some (f, caps)) (hargs : evL T E c.args.toList c.argTypes.toList = some ds) (hv : D.toVs (ds ++ caps) = some vargs)
    (e1 : renD (· + nx) d0 = d1) (e2 : upsN nx 0 L0 = U1) (hK : K d1 U1 (nwN nx L0.length)) : CallDet T o E H nx K := by
  subst e1 e2; exact call_newD hC ho hc hx hargs hv hK
theorem CallN.weak {d0 : D} {L0 L1 : List Ob} (h : CallN T f args d0 L0) (hl : L1.length = L0.length) (ho : ∀ i, obAt L1 i = .gone ∨ obAt L1 i = obAt L0 i) : CallN T f args d0 L1 := CallD.weak h hl ho
end
end Go.DL

/- DL, part 29: a function that answers with one of its arguments. Own work; no condition. -/
set_option linter.unusedVariables false
set_option linter.unusedSimpArgs false
namespace Go.DL
open Go.RowKit
section
variable {P : Program} {T : Tab P} {o : Oper} {E : Nat → Option D} {H : Nat → Ob} {nx : Nat} {K : KT} {c : Call} {f : FuncId} {x : Operand} {d1 d2 : D} {b : Bool}
attribute [local semireducible] CallV in
theorem call_sel_does (hC : ∀ u1 u2 : Value, CallV T f [.raw u1, .raw u2, .bool b] (· = .raw (if b then u2 else u1))) (ho : o.op = .call c) (hc : c.callee = .value x) (hx : callee (ev T E 0 x) = some (f, [])) (hargs : evL T E c.args.toList c.argTypes.toList = some [d1, d2, .v (.bool b)]) :
    Does T o E H [] (fun d ups => ups = [] ∧ d = if b then d2 else d1) := by
  intro X ρ w a Q' K' r _ hK'
  cases hx' : ev T E 0 x with
  | none => rw [hx'] at hx; simp [callee] at hx
  | some dx =>
    rw [hx'] at hx
    obtain ⟨us, hv1, hc1, hl1⟩ := callee_val hx (ev_cell r hx')
    have hus : us = [] := List.length_eq_zero_iff.1 (by simpa using hl1)
    subst hus
    obtain ⟨hc2, hl2⟩ := evL_cells r hargs
    match hvs : c.args.toList.map a.eval, hl2 with
    | [v1, v2, v3], _ =>
      rw [hvs] at hc2
      obtain ⟨k1, k2, k3, _⟩ := hc2
      obtain ⟨⟨fn, hf, hb, hn⟩, hC'⟩ := hC v1 v2
      unfold Oper.wp
      rw [run_enter ho hc hv1 hf hb hn, hvs]
      refine (hC' X w [v1, v2, v3] r.mem.lt r.glob ⟨rfl, rfl, k3, trivial⟩ rfl).mono ?_
      rintro e w' ⟨q, v, rfl, rfl, hcell, hbel⟩
      have hv : v = if b then v2 else v1 := hcell
      refine hK' (if b then d2 else d1) [] v w' X ρ ⟨rfl, rfl⟩ (below_step r.mem hbel) ?_ (by simp)
      have st := below_step r.mem hbel
      rw [hv]
      cases b with
      | true => exact DCell.keep (st.keeps r.mem) st.slots _ _ k2
      | false => exact DCell.keep (st.keeps r.mem) st.slots _ _ k1
theorem call_sel (hC : ∀ u1 u2 : Value, CallV T f [.raw u1, .raw u2, .bool b] (· = .raw (if b then u2 else u1))) (ho : o.op = .call c) (hc : c.callee = .value x) (hx : callee (ev T E 0 x) = some (f, [])) (hargs : evL T E c.args.toList c.argTypes.toList = some [d1, d2, .v (.bool b)])
    (hK : K (if b then d2 else d1) [] []) : CallOp T o E H nx K :=
  CallOp.mk (nw := []) (by simp) (call_sel_does hC ho hc hx hargs) (fun d ups ⟨e1, e2⟩ => by subst e1 e2; exact hK)
theorem call_selD (hC : ∀ u1 u2 : Value, CallV T f [.raw u1, .raw u2, .bool b] (· = .raw (if b then u2 else u1))) (ho : o.op = .call c) (hc : c.callee = .value x) (hx : callee (ev T E 0 x) = some (f, [])) (hargs : evL T E c.args.toList c.argTypes.toList = some [d1, d2, .v (.bool b)])
    (hK : K (if b then d2 else d1) [] []) : CallDet T o E H nx K := by
  refine CallDet.mk (nw := []) (d := if b then d2 else d1) (ups := []) (by simp) ?_ hK
  intro X ρ w a Q' K' r hn hK'
  refine call_sel_does hC ho hc hx hargs X ρ w a Q' K' r hn ?_
  rintro d ups v w' X' ρ' ⟨e1, e2⟩ st hcell hobs
  exact hK' d ups v w' X' ρ' ⟨e2, e1⟩ st hcell hobs
end
end Go.DL

/- DL, part 30: a nil slice that lies in an object as an object that is appended to. Own work; no condition. -/
set_option linter.unusedVariables false
set_option linter.unusedSimpArgs false
namespace Go.DL
open Go.RowKit

section
variable {X : Nat → Prop} {ρ : Nat → Slot} {w : World} {p sz : Nat}
theorem DCells.nilAt (hp : ρ p = .null) : ∀ {ds : List D} {vs : List Value} {j : Nat}, DCells X ρ w ds vs → ds[j]? = some (.v (.sl sz true [])) → DCells X ρ w (ds.set j (.arr p 0 0)) vs
  | [], _, _, _, h => by simp at h
  | d :: ds, [], _, h, _ => absurd h (by simp [DCells])
  | d :: ds, v :: vs, 0, h, hj => by
    simp only [List.getElem?_cons_zero, Option.some.injEq] at hj
    subst hj
    refine ⟨?_, h.2⟩
    have hd := h.1
    unfold DCell VCell at hd
    obtain ⟨A, hA⟩ := hd.2.2.2.1 rfl
    unfold DCell
    rw [hp]
    exact ⟨⟨A, hA⟩, rfl, rfl⟩
  | d :: ds, v :: vs, j + 1, h, hj => ⟨h.1, DCells.nilAt hp h.2 (by simpa using hj)⟩
theorem DRows.nilAt (hp : ρ p = .null) : ∀ {rs : List (List D)} {vs : List Value} {i j : Nat} {r : List D}, DRows X ρ w rs vs → rs[i]? = some r → r[j]? = some (.v (.sl sz true [])) → DRows X ρ w (rs.set i (r.set j (.arr p 0 0))) vs
  | [], _, _, _, _, _, h, _ => by simp at h
  | x :: rs, vs, 0, j, r, h, hi, hj => by
    simp only [List.getElem?_cons_zero, Option.some.injEq] at hi
    subst hi
    refine ⟨DCells.nilAt hp h.1 hj, ?_⟩
    simpa using h.2
  | x :: rs, vs, i + 1, j, r, h, hi, hj => ⟨h.1, DRows.nilAt hp h.2 (by simpa using hi) hj⟩
end
section
variable {P : Program} {T : Tab P} {m N : Nat} {σ : St} {Q : Exit → St → Prop}
theorem setOb_len : ∀ {l : List Ob} {x : Ob} {q : Nat}, q < l.length → (setOb l q x).length = l.length
  | [], _, _, h => absurd h (Nat.not_lt_zero _)
  | y :: l, x, 0, _ => by simp [setOb]
  | y :: l, x, q + 1, h => by simp [setOb, setOb_len (l := l) (x := x) (q := q) (by simpa using h)]
attribute [local semireducible] WpD in
/-- A nil slice in a row of an object is an object without rows. -/
theorem WpD.nilH {c : Code} (q i j sz p : Nat) {sz0 : Nat} {rows : List (List D)} {r : List D} (hz : Nat.blt 0 sz = true) (hp : σ.heap.length = p) (hm : Nat.ble m p = true) (hl : Nat.blt q p = true) (hq : obAt σ.heap q = .arr sz0 rows) (hi : rows[i]? = some r) (hj : r[j]? = some (.v (.sl sz true [])))
    (h : WpD T m N c ⟨σ.env, setOb σ.heap q (.arr sz0 (rows.set i (r.set j (.arr p 0 0)))) ++ [.arr sz []], σ.dec⟩ Q) : WpD T m N c σ Q := by
  subst hp
  have hm := Nat.le_of_ble_eq_true hm
  have hl : q < σ.heap.length := by unfold Nat.blt at hl; exact Nat.le_of_ble_eq_true hl
  intro C hN hmm a w k
  obtain ⟨X, ρ, rr, s, hh⟩ := k.real
  have hp : ρ σ.heap.length = .hole := hh _ (Nat.le_refl _)
  have st := Step.null (w := w) rr.mem hp
  refine h C hN hmm a w ⟨k.size, k.defers, k.dec, X, setSlot ρ σ.heap.length .null, ⟨fun g cs hg => VCell.keep (st.keeps rr.mem) _ _ (rr.glob g cs hg), st.mem, fun u d hu => ?_, fun u => ?_⟩, ?_, fun u hu => ?_⟩
  · obtain ⟨v, hv, hd⟩ := rr.env u d hu
    exact ⟨v, hv, DCell.keep (st.keeps rr.mem) st.slots _ _ hd⟩
  · show ObOK _ _ _ _ (obAt (setOb σ.heap q _ ++ [.arr sz []]) u)
    rw [obAt_app, setOb_len hl]
    split
    · rename_i e; subst e
      exact ⟨Nat.le_of_ble_eq_true hz, by simp, by simp, by simp [setSlot]⟩
    · rename_i e
      rw [obAt_set]
      split
      · rename_i e2; subst e2
        have ho := (rr.obs u).keep st rr.mem e
        rw [hq] at ho
        unfold ObOK at ho ⊢
        obtain ⟨h0, h1, h2, h3⟩ := ho
        have hnul : setSlot ρ σ.heap.length .null σ.heap.length = .null := by simp [setSlot]
        refine ⟨h0, fun x hx => ?_, by simpa using h2, ?_⟩
        · rcases List.mem_or_eq_of_mem_set hx with hx | rfl
          · exact h1 x hx
          · obtain ⟨a1, a2⟩ := h1 r (List.mem_of_getElem? hi)
            refine ⟨by simpa using a1, ?_⟩
            rw [List.all_eq_true] at a2 ⊢
            intro y hy
            rcases List.mem_or_eq_of_mem_set hy with hy | rfl
            · exact a2 y hy
            · rfl
        · split at h3
          · rename_i b s' cap hb
            obtain ⟨e1, e2, e3, cs, t, fr, g1, g2, g3, g4⟩ := h3
            exact ⟨e1, by simpa using e2, e3, cs, t, fr, g1, g2, g3, DRows.nilAt hnul g4 hi hj⟩
          · rw [h3] at hi; simp at hi
          · exact h3
      · rename_i e2
        exact (rr.obs u).keep st rr.mem e
  · refine ⟨s.os, s.tape, s.output, s.size, fun b hb hn => s.block b hb hn, fun u => ?_, fun u h => absurd trivial h, s.xin, s.xout, fun u b z cap hu => ?_, st.mem⟩
    · by_cases e : u = σ.heap.length
      · subst e; exact .inl (hmm _ hm)
      · rcases s.slots u with g | g | g
        · exact .inl g
        · exact .inr (.inl (by simp [setSlot, e, g]))
        · exact .inr (.inr (by simp [setSlot, e, g]))
    · unfold setSlot at hu
      split at hu
      · cases hu
      · exact s.src u b z cap hu
  · simp only [List.length_append, setOb_len hl, List.length_singleton] at hu
    have e : u ≠ σ.heap.length := by omega
    simp only [setSlot, if_neg e]
    exact hh u (by omega)
end
end Go.DL

/- DL, part 31: a call that works on one object in place. Own work; no condition. -/
set_option linter.unusedVariables false
set_option linter.unusedSimpArgs false
namespace Go.DL
open Go.RowKit
section
variable {P : Program} {T : Tab P} {f : FuncId} {o : Oper} {E : Nat → Option D} {H : Nat → Ob} {nx : Nat} {K : KT} {c : Call} {x : Operand} {ds caps args : List D} {sz : Nat} {xs : List (List V)} {Q : List (List V) → Prop}
/-- The call turns the rows of object 0 into others, and answers nothing. -/
def CallI (T : Tab P) (f : FuncId) (args : List D) (sz : Nat) (xs : List (List V)) (Q : List (List V) → Prop) : Prop :=
  CallD T f args [.arr sz (vrows xs)] fun d L' => d = .tup [] ∧ ∃ ys, Q ys ∧ obAt L' 0 = .arr sz (vrows ys)
attribute [local semireducible] CallD in
theorem call_inp_does (p : Nat) (hC : CallI T f args sz xs Q) (ho : o.op = .call c) (hc : c.callee = .value x) (hx : callee (ev T E 0 x) = some (f, caps)) (hargs : evL T E c.args.toList c.argTypes.toList = some ds)
    (hren : ds ++ caps = renDs ([p].getD · 0) args) (hlt : refsLts 1 args = true) (hob : obLe [p] (H p) (.arr sz (vrows xs))) :
    Does T o E H [] (fun d ups => d = .tup [] ∧ ∃ ys, Q ys ∧ ups = [(p, .arr sz (vrows ys))]) := by
  intro X ρ w a Q' K' r hn hK'
  obtain ⟨⟨fn, hf, hb, hname⟩, hC⟩ := hC
  cases hx' : ev T E 0 x with
  | none => rw [hx'] at hx; simp [callee] at hx
  | some dx =>
    rw [hx'] at hx
    obtain ⟨us, hv1, hc1, hl1⟩ := callee_val hx (ev_cell r hx')
    obtain ⟨hc2, hl2⟩ := evL_cells r hargs
    have happ : DCells X ρ w (ds ++ caps) (c.args.toList.map a.eval ++ us) := DCells.append (DCells.more hc2) (by rw [← hl2, List.drop_left]; exact hc1)
    rw [hren] at happ
    obtain ⟨h1, h2⟩ := renDs_cell [p] args hlt happ
    have s0 : slotsBy [p] ρ 0 = ρ p := rfl
    have s1 : ∀ q, slotsBy [p] ρ (q + 1) = .hole := fun q => rfl
    have live1 : ∀ q b s k, slotsBy [p] ρ q = .live b s k → q = 0 ∧ ρ p = .live b s k := by
      intro q b s k h
      cases q with
      | zero => exact ⟨rfl, h⟩
      | succ q => rw [s1] at h; cases h
    have hm1 : Mem X (slotsBy [p] ρ) w := by
      refine ⟨r.mem.lt, fun q b s k h => ?_, fun q q' b s k s' k' h h' => ?_⟩
      · obtain ⟨_, h⟩ := live1 q b s k h; exact r.mem.live p b s k h
      · rw [(live1 q b s k h).1, (live1 q' b s' k' h').1]
    have hob0 : ObOK X (slotsBy [p] ρ) w 0 (.arr sz (vrows xs)) := ob_ren rfl hob (r.obs p)
    unfold Oper.wp
    rw [run_enter ho hc hv1 hf hb hname]
    refine (hC X (slotsBy [p] ρ) w _ hm1 r.glob h1 ?_ ?_ ?_).mono ?_
    · rw [← h2, ← hren]; simp [hl2, hl1]
    · intro q
      cases q with
      | zero => exact hob0
      | succ q => trivial
    · intro q hq
      cases q with
      | zero => simp at hq
      | succ q => rfl
    · rintro e w' ⟨v, d, L', X', ρ1', rfl, ⟨rfl, ys, hQ, hL⟩, st, hd, hob', hh'⟩
      have h0 := hob' 0
      rw [hL] at h0
      have hsame : ρ1' 0 = ρ p := by
        rcases st.slots 0 with h | h | h
        · obtain ⟨_, _, _, h3⟩ := hob0
          rw [h] at h3; exact h3.elim
        · exact h
        · obtain ⟨_, _, _, h3⟩ := h0
          rw [h] at h3; exact h3.elim
      refine hK' _ _ v w' X' ρ ⟨rfl, ys, hQ, rfl⟩ ?_ ?_ ?_
      · refine ⟨st.os, st.tape, st.output, st.size, ?_, fun q => .inr (.inl rfl), fun q _ => rfl, ?_, st.xout, fun q b z k h => .inl ⟨q, z, k, h⟩, ⟨st.mem.lt, ?_, r.mem.inj⟩⟩
        · intro b hb hno
          refine st.block b hb fun q z k _ e => ?_
          obtain ⟨_, hq'⟩ := live1 _ _ _ _ e
          exact hno p z k (by simp) hq'
        · intro b hX
          rcases st.xin b hX with h | ⟨q, z, k, _, h⟩
          · exact .inl h
          · obtain ⟨_, hq'⟩ := live1 _ _ _ _ h
            exact .inr ⟨p, z, k, by simp, hq'⟩
        · intro q b z k h
          rcases st.xin b (r.mem.live q b z k h) with g | ⟨q', z', k', _, g⟩
          · exact g
          · obtain ⟨_, hu'⟩ := live1 _ _ _ _ g
            have := r.mem.inj _ _ b _ _ _ _ h hu'
            subst this
            exact st.mem.live 0 b z k (by rw [hsame]; exact h)
      · unfold DCell at hd ⊢
        obtain ⟨vs, e1, e2, e3⟩ := hd
        refine ⟨vs, e1, e2, ?_⟩
        cases vs with
        | nil => exact e3
        | cons => simp at e2
      · intro y hy
        simp at hy
        subst hy
        obtain ⟨z0, z1, z2, z3⟩ := h0
        refine ⟨z0, z1, z2, ?_⟩
        rw [hsame] at z3
        cases hq : ρ p with
        | live b z k =>
          simp only [hq] at z3 ⊢
          obtain ⟨a1, a2, a3, cs, t, fr, b1, b2, b3, b4⟩ := z3
          exact ⟨a1, a2, a3, cs, t, fr, b1, b2, b3, VRows.toD (sz := sz) (fun q hq => by
            have := (z1 _ (List.mem_map.2 ⟨q, hq, rfl⟩)).1
            simpa using this) (DRows.toV b4)⟩
        | null => simp only [hq] at z3 ⊢; exact z3
        | hole => simp only [hq] at z3
        | dead => simp only [hq] at z3
theorem call_inp (p : Nat) (hC : CallI T f args sz xs Q) (ho : o.op = .call c) (hc : c.callee = .value x) (hx : callee (ev T E 0 x) = some (f, caps)) (hargs : evL T E c.args.toList c.argTypes.toList = some ds)
    (hren : ds ++ caps = renDs ([p].getD · 0) args) (hlt : refsLts 1 args = true) (hob : obLe [p] (H p) (.arr sz (vrows xs)))
    (hK : ∀ ys, Q ys → K (.tup []) [(p, .arr sz (vrows ys))] []) : CallOp T o E H nx K :=
  CallOp.mk (nw := []) (by simp) (call_inp_does p hC ho hc hx hargs hren hlt hob) (fun d ups ⟨e1, ys, q, e2⟩ => by subst e1 e2; exact hK ys q)
theorem call_inpD (p : Nat) {ys : List (List V)} (hC : CallI T f args sz xs (· = ys)) (ho : o.op = .call c) (hc : c.callee = .value x) (hx : callee (ev T E 0 x) = some (f, caps)) (hargs : evL T E c.args.toList c.argTypes.toList = some ds)
    (hren : ds ++ caps = renDs ([p].getD · 0) args) (hlt : refsLts 1 args = true) (hob : obLe [p] (H p) (.arr sz (vrows xs)))
    (hK : K (.tup []) [(p, .arr sz (vrows ys))] []) : CallDet T o E H nx K := by
  refine CallDet.mk (nw := []) (by simp) ?_ hK
  intro X ρ w a Q' K' r hn hK'
  refine call_inp_does (Q := (· = ys)) p hC ho hc hx hargs hren hlt hob X ρ w a Q' K' r hn ?_
  rintro d ups v w' X' ρ' ⟨e1, y, rfl, e2⟩ st hcell hobs
  exact hK' d ups v w' X' ρ' ⟨e1, e2⟩ st hcell hobs
end
end Go.DL

/- DL, part 32: a walk over a text; a new slice of one-cell values. Own work; no condition. -/
set_option linter.unusedVariables false
set_option linter.unusedSimpArgs false
namespace Go.DL
open Go.RowKit
section
variable {P : Program} {T : Tab P} {o : Oper} {E : Nat → Option D} {H : Nat → Ob} {nx : Nat} {K : KT} {x : Operand}
attribute [local semireducible] CallOp in
theorem CallOp.just {nw : List Nat} {d : D} {ups : List (Nat × Ob)} (hn : ∀ p ∈ nw, nx ≤ p) (h : Does T o E H nw (Just d ups)) (hK : K d ups nw) : CallOp T o E H nx K :=
  CallOp.mk hn h (fun d' u' ⟨e1, e2⟩ => by subst e1 e2; exact hK)
theorem range_does {t : Nat} {s : ByteArray} (ho : o.op = .range t x) (ht : (T.ty t).d = .str) (hx : ev T E t x = some (.v (.str s))) : Does T o E H [nx] (Just (.ptr nx 0 0) [(nx, .iter s 0)]) := by
  intro X ρ w a Q K' r hnw hK
  have hv := ev_cell r hx
  unfold DCell VCell at hv
  have hu := T.str ht
  have st := Step.new r.mem (hnw nx (by simp)) 1 1 (.stringIter s 0) { w with heap := w.heap.push (.stringIter s 0) } rfl rfl rfl rfl
  have hrun : (execOp a.eval o).run P w = .ok (.value (.pointer (some ⟨w.heap.size, 0, none⟩))) { w with heap := w.heap.push (.stringIter s 0) } := by
    simp [execOp, ho, Instr.range, run_underlying hu, hv, newObj, Sem.run, Result.andThen]
  unfold Oper.wp
  rw [hrun]
  have hslot : setSlot ρ nx (.live w.heap.size 1 1) nx = .live w.heap.size 1 1 := if_pos rfl
  refine hK _ _ _ _ (fun b => X b ∨ b = w.heap.size) (setSlot ρ nx (.live w.heap.size 1 1)) ⟨rfl, rfl⟩ ?_ ?_ ?_
  · have : (fun p => p ∈ [(nx, Ob.iter s 0)].map (·.1)) = fun q => q = nx := by funext q; simp
    rw [this]; exact st
  · unfold DCell; simp [hslot]
  · intro y hy
    simp at hy; subst hy
    exact ⟨_, _, _, hslot, by simp⟩
theorem op_range {t : Nat} {s : ByteArray} (ho : o.op = .range t x) (ht : (T.ty t).d = .str) (hx : ev T E t x = some (.v (.str s))) (hK : K (.ptr nx 0 0) [(nx, .iter s 0)] [nx]) : CallOp T o E H nx K :=
  CallOp.just (by simp) (range_does ho ht hx) hK
theorem op_nextF {p n : Nat} {s : ByteArray} (ho : o.op = .next x true) (hx : ev T E 0 x = some (.ptr p 0 0)) (hp : H p = .iter s n) (hn : s.size ≤ n) (hK : K (.tup [.v (.bool false)]) [] []) : CallOp T o E H nx K := by
  refine CallOp.just (nw := []) (by simp) ?_ hK
  intro X ρ w a Q K' r hnw hK
  have hv := ev_cell r hx
  have hob := r.obs p
  rw [hp] at hob
  obtain ⟨b, z, k, h1, h2⟩ := hob
  unfold DCell at hv
  simp only [h1] at hv
  have hrun : (execOp a.eval o).run P w = .ok (.value (.tuple #[.bool false])) w := by
    simp [execOp, ho, Instr.next, hv, getObj, Sem.run, h2, Result.andThen, show ¬ n < s.size by omega]
  unfold Oper.wp
  rw [hrun]
  refine hK _ _ _ w X ρ ⟨rfl, rfl⟩ (Step.refl r.mem) ?_ (by simp)
  unfold DCell DCells
  exact ⟨[.bool false], rfl, rfl, rfl, trivial⟩
theorem op_nextT {p n k : Nat} {r : Int} {s : ByteArray} (ho : o.op = .next x true) (hx : ev T E 0 x = some (.ptr p 0 0)) (hp : H p = .iter s n) (hn : n < s.size) (hd : ((Utf8.decode s n).1 : Int) = r) (hd2 : (Utf8.decode s n).2 = k) (hK : K (.tup [.v (.bool true), .v (.int .i64 n), .v (.int .i32 r)]) [(p, .iter s (n + k))] []) : CallOp T o E H nx K := by
  refine CallOp.just (nw := []) (by simp) ?_ hK
  subst hd hd2
  intro X ρ w a Q K' r hnw hK
  have hv := ev_cell r hx
  have hob := r.obs p
  rw [hp] at hob
  obtain ⟨b, z, k', h1, h2⟩ := hob
  unfold DCell at hv
  simp only [h1] at hv
  have hlt := heap_lt h2
  have hrun : (execOp a.eval o).run P w = .ok (.value (.tuple #[.bool true, .int .i64 n, .int .i32 (Utf8.decode s n).1])) { w with heap := w.heap.set! b (.stringIter s (n + (Utf8.decode s n).2)) } := by
    simp [execOp, ho, Instr.next, hv, getObj, setObj, Sem.run, h2, Result.andThen, hn, goInt]
  unfold Oper.wp
  rw [hrun]
  refine hK _ _ _ _ X ρ ⟨rfl, rfl⟩ ?_ ?_ ?_
  · refine ⟨rfl, rfl, rfl, by simp, ?_, Slots.refl _, fun _ _ => rfl, fun _ h => .inl h, fun _ h => .inl h, fun q b' sz cap h => .inl ⟨q, sz, cap, h⟩, ⟨fun b' hb => by simpa using r.mem.lt b' hb, r.mem.live, r.mem.inj⟩⟩
    intro b' hb' hno
    have : b ≠ b' := fun e => by subst e; exact hno p z k' (by simp) h1
    simp [Array.getElem?_setIfInBounds, this]
  · unfold DCell DCells
    exact ⟨[.bool true, .int .i64 n, .int .i32 (Utf8.decode s n).1], rfl, rfl, rfl, rfl, rfl, trivial⟩
  · intro y hy
    simp at hy; subst hy
    exact ⟨b, z, k', h1, by simp [Array.getElem?_setIfInBounds, hlt]⟩
theorem rep_cells {X : Nat → Prop} {ρ : Nat → Slot} {w : World} {z : V} {v0 : Value} (h : VCell X w z v0) : ∀ m : Nat, DCells X ρ w (List.replicate m [D.v z]).flatten (List.replicate m v0)
  | 0 => trivial
  | m + 1 => ⟨h, rep_cells h m⟩
theorem make_does {t e b1 : Nat} {z : V} {n : Int} {k1 k2 : IntKind} {ln cp : Operand} (ho : o.op = .makeSlice t ln cp) (hs : (T.ty t).d = .slice e) (hz : (T.ty e).zero = [z]) (hone : (D.v z).one = true) (hsz : (T.ty e).size = 1) (hby : (T.ty e).bytes = b1 + 1)
    (hl : ev T E 0 ln = some (.v (.int k1 n))) (hc : ev T E 0 cp = some (.v (.int k2 n))) (h0 : 0 ≤ n) (hroom : n * ((b1 : Int) + 1) ≤ 100000000000000) : Does T o E H [nx] (Just (.arr nx 0 n.toNat) [(nx, .arr 1 (List.replicate n.toNat [.v z]))]) := by
  obtain ⟨m, rfl⟩ : ∃ m : Nat, n = m := ⟨n.toNat, by omega⟩
  rw [Int.toNat_natCast]
  have hroom' : m * (b1 + 1) ≤ 100000000000000 := by
    have : ((m * (b1 + 1) : Nat) : Int) ≤ 100000000000000 := by simpa using hroom
    omega
  have hm : m ≤ m * (b1 + 1) := Nat.le_mul_of_pos_right m (by omega)
  refine does_new (by decide) (fun r hr => by obtain ⟨_, rfl⟩ := List.mem_replicate.1 hr; exact ⟨rfl, by simpa using hone⟩) (by simp [lenMax]; omega) fun X ρ w a r => ?_
  have hs0 : 0 < (T.ty e).size := by omega
  obtain ⟨inf, u, hi1, hu, his, hib, hti⟩ := T.info hs0
  have hne : (T.ty e).zero ≠ [] := by rw [hz]; simp
  obtain ⟨i', z', hi2, hzv, hzs⟩ := T.zero_info hne
  rw [hi1] at hi2; injection hi2 with hi2; subst hi2
  obtain ⟨zr, hzr1, hzr2, hzr3⟩ := T.run_zero hne w
  have hzz : zr = z' := by
    simp [Go.zeroValue, Go.typeInfo, hi1, hzv] at hzr1
    exact hzr1.symm
  subst hzz
  have hzl : zr.cells.size = 1 := by rw [hzs, hz]; rfl
  obtain ⟨v0, hv0⟩ : ∃ v0, zr.cells = #[v0] := by
    cases hcc : zr.cells with
    | mk l =>
      rw [hcc] at hzl
      match l, hzl with
      | [v], _ => exact ⟨v, rfl⟩
  have hlv := ev_cell r hl
  have hcv := ev_cell r hc
  unfold DCell VCell at hlv hcv
  have hcell : (Array.range m).map (fun x => zr.cells[x % zr.cells.size]!) = Array.replicate m v0 := by
    rw [hv0]
    apply Array.ext
    · simp
    · intro i h1 h2
      simp [Nat.mod_one]
  have hw : IntKind.i64.wrap (m : Int) = m := by rw [IntKind.wrap_i64]; omega
  have hbb : inf.bytes = b1 + 1 := by rw [hib, hby]
  have c1 : ¬ (281474976710656 < ((b1 : Int) + 1) * (m : Int)) := by
    have e : ((b1 : Int) + 1) * (m : Int) = ((m * (b1 + 1) : Nat) : Int) := by rw [Int.mul_comm]; simp
    rw [e]; omega
  have c2 : ¬ (140737488355328 < m * (b1 + 1)) := by omega
  have c3 : ¬ ((m : Int) < 0) := by omega
  refine ⟨.slice (some ⟨w.heap.size, 0, none⟩) m m, (List.replicate m v0).toArray, e, { w with heap := w.heap.push (.cells (List.replicate m v0).toArray e (0, 0)) }, m, ?_, rfl, rfl, rfl, rfl, by simp, by simp [capMax]; omega, by simp, ?_, fun X' ρ' hsl => ?_⟩
  · by_cases hm0 : m = 0
    · subst hm0
      have hw0 : IntKind.i64.wrap 0 = 0 := by decide
      simp [execOp, ho, Instr.makeSlice, run_underlying (T.slice hs), typeInfo, hi1, hlv, hcv, asInt, asIntOf, hw0, askRoom, sizeOf, newRow, newObj, Sem.run, Result.andThen]
      have hz0 : ∀ f : Nat → Value, (Array.range 0).map f = #[] := fun f => by apply Array.ext <;> simp
      rw [hz0]
    · simp [execOp, ho, Instr.makeSlice, run_underlying (T.slice hs), typeInfo, hi1, hlv, hcv, asInt, asIntOf, hw, hbb, c1, c2, c3, askRoom, roomBytes, sizeOf, zeroValue, hzv, newRow, newObj, Sem.run, Result.andThen, hm0, his, hsz]
      rw [hcell]
  · have hzc := hzr3 X w
    rw [hz, hv0] at hzc
    have h1 := hzc.1
    exact rep_cells h1 m
  · unfold DCell
    simp only [hsl]
    refine ⟨by omega, fun h => by simp, fun h => ⟨_, by rw [← h]⟩⟩
theorem op_make {t e b1 : Nat} {z : V} {n : Int} {k1 k2 : IntKind} {ln cp : Operand} (ho : o.op = .makeSlice t ln cp) (hs : (T.ty t).d = .slice e) (hz : (T.ty e).zero = [z]) (hone : (D.v z).one = true) (hsz : (T.ty e).size = 1) (hby : (T.ty e).bytes = b1 + 1)
    (hl : ev T E 0 ln = some (.v (.int k1 n))) (hc : ev T E 0 cp = some (.v (.int k2 n))) (h0 : 0 ≤ n) (hroom : n * ((b1 : Int) + 1) ≤ 100000000000000) (hK : K (.arr nx 0 n.toNat) [(nx, .arr 1 (List.replicate n.toNat [.v z]))] [nx]) : CallOp T o E H nx K :=
  CallOp.just (by simp) (make_does ho hs hz hone hsz hby hl hc h0 hroom) hK
end
end Go.DL

/- DL, part 33: a call that works on one object in place and answers. Own work; no condition. -/
set_option linter.unusedVariables false
set_option linter.unusedSimpArgs false
namespace Go.DL
open Go.RowKit
section
variable {P : Program} {T : Tab P} {f : FuncId} {o : Oper} {E : Nat → Option D} {H : Nat → Ob} {nx : Nat} {K : KT} {c : Call} {x : Operand} {ds caps args : List D} {sz : Nat} {xs : List (List V)} {Q : V → List (List V) → Prop}
/-- The call turns the rows of object 0 into others, and answers. -/
def CallW (T : Tab P) (f : FuncId) (args : List D) (sz : Nat) (xs : List (List V)) (Q : V → List (List V) → Prop) : Prop :=
  CallD T f args [.arr sz (vrows xs)] fun d L' => ∃ r ys, d = .v r ∧ Q r ys ∧ obAt L' 0 = .arr sz (vrows ys)
attribute [local semireducible] CallD in
theorem call_inw_does (p : Nat) (hC : CallW T f args sz xs Q) (ho : o.op = .call c) (hc : c.callee = .value x) (hx : callee (ev T E 0 x) = some (f, caps)) (hargs : evL T E c.args.toList c.argTypes.toList = some ds)
    (hren : ds ++ caps = renDs ([p].getD · 0) args) (hlt : refsLts 1 args = true) (hob : obLe [p] (H p) (.arr sz (vrows xs))) :
    Does T o E H [] (fun d ups => ∃ r ys, d = .v r ∧ Q r ys ∧ ups = [(p, .arr sz (vrows ys))]) := by
  intro X ρ w a Q' K' r hn hK'
  obtain ⟨⟨fn, hf, hb, hname⟩, hC⟩ := hC
  cases hx' : ev T E 0 x with
  | none => rw [hx'] at hx; simp [callee] at hx
  | some dx =>
    rw [hx'] at hx
    obtain ⟨us, hv1, hc1, hl1⟩ := callee_val hx (ev_cell r hx')
    obtain ⟨hc2, hl2⟩ := evL_cells r hargs
    have happ : DCells X ρ w (ds ++ caps) (c.args.toList.map a.eval ++ us) := DCells.append (DCells.more hc2) (by rw [← hl2, List.drop_left]; exact hc1)
    rw [hren] at happ
    obtain ⟨h1, h2⟩ := renDs_cell [p] args hlt happ
    have s0 : slotsBy [p] ρ 0 = ρ p := rfl
    have s1 : ∀ q, slotsBy [p] ρ (q + 1) = .hole := fun q => rfl
    have live1 : ∀ q b s k, slotsBy [p] ρ q = .live b s k → q = 0 ∧ ρ p = .live b s k := by
      intro q b s k h
      cases q with
      | zero => exact ⟨rfl, h⟩
      | succ q => rw [s1] at h; cases h
    have hm1 : Mem X (slotsBy [p] ρ) w := by
      refine ⟨r.mem.lt, fun q b s k h => ?_, fun q q' b s k s' k' h h' => ?_⟩
      · obtain ⟨_, h⟩ := live1 q b s k h; exact r.mem.live p b s k h
      · rw [(live1 q b s k h).1, (live1 q' b s' k' h').1]
    have hob0 : ObOK X (slotsBy [p] ρ) w 0 (.arr sz (vrows xs)) := ob_ren rfl hob (r.obs p)
    unfold Oper.wp
    rw [run_enter ho hc hv1 hf hb hname]
    refine (hC X (slotsBy [p] ρ) w _ hm1 r.glob h1 ?_ ?_ ?_).mono ?_
    · rw [← h2, ← hren]; simp [hl2, hl1]
    · intro q
      cases q with
      | zero => exact hob0
      | succ q => trivial
    · intro q hq
      cases q with
      | zero => simp at hq
      | succ q => rfl
    · rintro e w' ⟨v, d, L', X', ρ1', rfl, ⟨r0, ys, rfl, hQ, hL⟩, st, hd, hob', hh'⟩
      have h0 := hob' 0
      rw [hL] at h0
      have hsame : ρ1' 0 = ρ p := by
        rcases st.slots 0 with h | h | h
        · obtain ⟨_, _, _, h3⟩ := hob0
          rw [h] at h3; exact h3.elim
        · exact h
        · obtain ⟨_, _, _, h3⟩ := h0
          rw [h] at h3; exact h3.elim
      refine hK' _ _ v w' X' ρ ⟨r0, ys, rfl, hQ, rfl⟩ ?_ ?_ ?_
      · refine ⟨st.os, st.tape, st.output, st.size, ?_, fun q => .inr (.inl rfl), fun q _ => rfl, ?_, st.xout, fun q b z k h => .inl ⟨q, z, k, h⟩, ⟨st.mem.lt, ?_, r.mem.inj⟩⟩
        · intro b hb hno
          refine st.block b hb fun q z k _ e => ?_
          obtain ⟨_, hq'⟩ := live1 _ _ _ _ e
          exact hno p z k (by simp) hq'
        · intro b hX
          rcases st.xin b hX with h | ⟨q, z, k, _, h⟩
          · exact .inl h
          · obtain ⟨_, hq'⟩ := live1 _ _ _ _ h
            exact .inr ⟨p, z, k, by simp, hq'⟩
        · intro q b z k h
          rcases st.xin b (r.mem.live q b z k h) with g | ⟨q', z', k', _, g⟩
          · exact g
          · obtain ⟨_, hu'⟩ := live1 _ _ _ _ g
            have := r.mem.inj _ _ b _ _ _ _ h hu'
            subst this
            exact st.mem.live 0 b z k (by rw [hsame]; exact h)
      · exact hd
      · intro y hy
        simp at hy
        subst hy
        obtain ⟨z0, z1, z2, z3⟩ := h0
        refine ⟨z0, z1, z2, ?_⟩
        rw [hsame] at z3
        cases hq : ρ p with
        | live b z k =>
          simp only [hq] at z3 ⊢
          obtain ⟨a1, a2, a3, cs, t, fr, b1, b2, b3, b4⟩ := z3
          exact ⟨a1, a2, a3, cs, t, fr, b1, b2, b3, VRows.toD (sz := sz) (fun q hq => by
            have := (z1 _ (List.mem_map.2 ⟨q, hq, rfl⟩)).1
            simpa using this) (DRows.toV b4)⟩
        | null => simp only [hq] at z3 ⊢; exact z3
        | hole => simp only [hq] at z3
        | dead => simp only [hq] at z3
theorem call_inw (p : Nat) (hC : CallW T f args sz xs Q) (ho : o.op = .call c) (hc : c.callee = .value x) (hx : callee (ev T E 0 x) = some (f, caps)) (hargs : evL T E c.args.toList c.argTypes.toList = some ds)
    (hren : ds ++ caps = renDs ([p].getD · 0) args) (hlt : refsLts 1 args = true) (hob : obLe [p] (H p) (.arr sz (vrows xs)))
    (hK : ∀ r ys, Q r ys → K (.v r) [(p, .arr sz (vrows ys))] []) : CallOp T o E H nx K :=
  CallOp.mk (nw := []) (by simp) (call_inw_does p hC ho hc hx hargs hren hlt hob) (fun d ups ⟨r, ys, e1, q, e2⟩ => by subst e1 e2; exact hK r ys q)
theorem call_inwD (p : Nat) {r0 : V} {ys : List (List V)} (hC : CallW T f args sz xs (fun r y => r = r0 ∧ y = ys)) (ho : o.op = .call c) (hc : c.callee = .value x) (hx : callee (ev T E 0 x) = some (f, caps)) (hargs : evL T E c.args.toList c.argTypes.toList = some ds)
    (hren : ds ++ caps = renDs ([p].getD · 0) args) (hlt : refsLts 1 args = true) (hob : obLe [p] (H p) (.arr sz (vrows xs)))
    (hK : K (.v r0) [(p, .arr sz (vrows ys))] []) : CallDet T o E H nx K := by
  refine CallDet.mk (nw := []) (by simp) ?_ hK
  intro X ρ w a Q' K' r hn hK'
  refine call_inw_does (Q := fun r y => r = r0 ∧ y = ys) p hC ho hc hx hargs hren hlt hob X ρ w a Q' K' r hn ?_
  rintro d ups v w' X' ρ' ⟨r1, y, e1, ⟨rfl, rfl⟩, e2⟩ st hcell hobs
  exact hK' d ups v w' X' ρ' ⟨e1, e2⟩ st hcell hobs
end
end Go.DL

/- DL, part 34: what a text's bytes decode to. Own work; no condition. -/
set_option linter.unusedVariables false
set_option linter.unusedSimpArgs false
namespace Go.DL
open Go.RowKit
theorem dec_lo {s : ByteArray} {i : Nat} (h : (s.get! i).toNat < 128) : Utf8.decode s i = ((s.get! i).toNat, 1) := by
  unfold Utf8.decode
  simp only [Nat.add_zero]
  rw [if_pos h]
theorem dec_hi {s : ByteArray} {i : Nat} (h : 128 ≤ (s.get! i).toNat) : 128 ≤ (Utf8.decode s i).1 ∧ (Utf8.decode s i).1 < 1114112 ∧ Utf8.valid ((Utf8.decode s i).1 : Nat) = true ∧ 1 ≤ (Utf8.decode s i).2 := by
  have hv : Utf8.valid ((65533 : Nat) : Int) = true := by decide
  have hb : (s.get! i).toNat < 256 := UInt8.toNat_lt _
  unfold Utf8.decode
  simp only [Nat.add_zero]
  rw [if_neg (by omega)]
  split
  · rename_i h1
    simp at h1
    split
    · rename_i h2
      refine ⟨by simpa using h2, by omega, ?_, by simp⟩
      unfold Utf8.valid
      simp
      omega
    · exact ⟨by decide, by decide, hv, by simp⟩
  · split
    · split
      · rename_i h2
        simp at h2
        refine ⟨by simp; omega, ?_, h2.2, by simp⟩
        have := h2.2
        unfold Utf8.valid at this
        simp at this
        omega
      · exact ⟨by decide, by decide, hv, by simp⟩
    · split
      · split
        · rename_i h2
          simp at h2
          refine ⟨by simp; omega, ?_, h2.2, by simp⟩
          have := h2.2
          unfold Utf8.valid at this
          simp at this
          omega
        · exact ⟨by decide, by decide, hv, by simp⟩
      · exact ⟨by decide, by decide, hv, by simp⟩
/-- The text of a rune beyond the first 128: two to four bytes, the last one beyond 127. -/
theorem enc_hi {c : Nat} (h : 128 ≤ c) (hv : Utf8.valid (c : Int) = true) : ∃ k, 2 ≤ k ∧ k ≤ 4 ∧ (Utf8.encode (c : Int)).size = k ∧ 128 ≤ ((Utf8.encode (c : Int)).get! (k - 1)).toNat := by
  unfold Utf8.encode
  simp only [hv, if_true, Int.toNat_natCast]
  rw [if_neg (by omega)]
  have hm : ∀ n : Nat, 128 ≤ (UInt8.ofNat (128 + n % 64)).toNat := fun n => by
    rw [UInt8.toNat_ofNat']
    have : n % 64 < 64 := Nat.mod_lt _ (by decide)
    omega
  split
  · exact ⟨2, by decide, by decide, rfl, hm _⟩
  · split
    · exact ⟨3, by decide, by decide, rfl, hm _⟩
    · exact ⟨4, by decide, by decide, rfl, hm _⟩
end Go.DL

/- DL, part 35: texts as lists of bytes. Own work; no condition. -/
set_option linter.unusedVariables false
set_option linter.unusedSimpArgs false
namespace Go.DL
open Go.RowKit
def tl (s : ByteArray) : List UInt8 := s.data.toList
theorem tl_inj {a b : ByteArray} (h : tl a = tl b) : a = b := by
  cases a with
  | mk x =>
    cases b with
    | mk y =>
      unfold tl at h
      simp only at h
      have : x = y := by
        rw [← Array.toList_inj]; exact h
      rw [this]
theorem tl_app (a b : ByteArray) : tl (a ++ b) = tl a ++ tl b := by
  unfold tl
  rw [ByteArray.data_append]
  simp
theorem tl_len (a : ByteArray) : (tl a).length = a.size := by
  rfl
theorem tl_ext (a : ByteArray) (i j : Nat) : tl (a.extract i j) = ((tl a).take j).drop i := by
  unfold tl
  rw [ByteArray.data_extract]
  rw [Array.toList_extract, List.extract_eq_take_drop, List.take_drop]
  rcases Nat.le_total i j with h | h
  · rw [show i + (j - i) = j by omega]
  · rw [show j - i = 0 by omega]
    simp only [Nat.add_zero]
    rw [List.drop_eq_nil_of_le (by rw [List.length_take]; omega), List.drop_eq_nil_of_le (by rw [List.length_take]; omega)]
theorem get_tl {s : ByteArray} {i : Nat} (h : i < s.size) : (tl s)[i]? = some (s.get! i) := by
  have h' : i < s.data.size := h
  unfold tl
  rw [Array.getElem?_toList, Array.getElem?_eq_getElem h']
  show _ = some (s.data[i]!)
  rw [getElem!_pos s.data i h']
theorem sAt_tl {s : ByteArray} {i : Nat} {b : UInt8} (h : (tl s)[i]? = some b) : sAt s i = (b.toNat : Int) := by
  unfold sAt tl at *
  simp [List.getD_eq_getElem?_getD, h]
end Go.DL

/- DL, part 36: bytealg's IndexByteString and CountString. Own work; no condition. -/
set_option linter.unusedVariables false
set_option linter.unusedSimpArgs false
namespace Go.DL
open Go.RowKit
/-- The place of the first byte n, or -1. -/
def idxB (l : List UInt8) (n : Int) : Int := match l.findIdx? (fun c => (c.toNat : Int) == n) with | some i => i | none => -1
def cntB (l : List UInt8) (n : Int) : Nat := l.countP (fun c => (c.toNat : Int) == n)
theorem toU8 {n : Int} (h : 0 ≤ n ∧ n < 256) (c : UInt8) : (c == n.toNat.toUInt8) = ((c.toNat : Int) == n) := by
  have e : n.toNat.toUInt8.toNat = n.toNat := by
    show (UInt8.ofNat n.toNat).toNat = _
    rw [UInt8.toNat_ofNat', Nat.mod_eq_of_lt (by omega)]
  rw [Bool.eq_iff_iff, beq_iff_eq, beq_iff_eq]
  constructor
  · intro h1; rw [h1, e]; omega
  · intro h1
    apply UInt8.toNat_inj.1
    rw [e]; omega
theorem ib_idx (l : List UInt8) {n : Int} (h : 0 ≤ n ∧ n < 256) : Lib.indexByte l n.toNat.toUInt8 = idxB l n := by
  induction l with
  | nil => rfl
  | cons c l ih =>
    unfold Lib.indexByte
    rw [toU8 h, ih]
    unfold idxB
    rw [List.findIdx?_cons]
    cases hc : ((c.toNat : Int) == n) with
    | true => simp
    | false =>
      simp only [Bool.false_eq_true, if_false]
      cases hf : l.findIdx? (fun c => (c.toNat : Int) == n) with
      | none => simp
      | some i => (simp; try omega)
theorem ib_cnt (l : List UInt8) {n : Int} (h : 0 ≤ n ∧ n < 256) : Lib.countByte l n.toNat.toUInt8 = cntB l n := by
  unfold Lib.countByte cntB List.count
  congr 1
  funext c
  rw [toU8 h]
section
variable {P : Program} {T : Tab P} {o : Oper} {E : Nat → Option D} {H : Nat → Ob} {nx : Nat} {K : KT} {c : Call} {f : FuncId} {fn : Func}
/-- A function that the machine has itself, of a text and a byte. -/
theorem call_ext {a : ByteArray} {b : Int} {g : Array Value → Sem Value} {r0 : V} {v0 : Value} (hg : ∀ w, (g #[.string a, .int .u8 b]).run P w = .ok v0 w) (hv : ∀ X w, VCell X w r0 v0) (hf : P.funcs[f]? = some fn) (hb : fn.body = none) (hn : (fn.name == "runtime.NumGoroutine") = false) (h1 : Extern.findNext fn = none) (h2 : Extern.find fn = some g)
    (ho : o.op = .call c) (hc : c.callee = .value (.func f)) (hargs : evL T E c.args.toList c.argTypes.toList = some [.v (.str a), .v (.int .u8 b)]) (hK : K (.v r0) [] []) : CallOp T o E H nx K := by
  unfold CallOp
  refine ⟨[], Just (.v r0) [], by simp, does_value fun X ρ w a' r => ⟨v0, ?_, hv X w⟩, fun d ups ⟨h1, h2⟩ => by subst h1 h2; exact hK⟩
  obtain ⟨hc2, hl2⟩ := evL_cells r hargs
  obtain ⟨u1, u2, hu⟩ : ∃ u1 u2, c.args.toList.map a'.eval = [u1, u2] := by
    rcases h : c.args.toList.map a'.eval with _ | ⟨u1, _ | ⟨u2, _ | ⟨u3, t⟩⟩⟩
    · rw [h] at hl2; simp at hl2
    · rw [h] at hl2; simp at hl2
    · exact ⟨u1, u2, rfl⟩
    · rw [h] at hl2; simp at hl2
  rw [hu] at hc2
  have e1 : u1 = .string a := hc2.1
  have e2 : u2 = .int .u8 b := hc2.2.1
  subst e1 e2
  have hargs' : c.args.map a'.eval = #[.string a, .int .u8 b] := by rw [← Array.toList_inj, Array.toList_map, hu]
  have hn' : fn.name ≠ "runtime.NumGoroutine" := by simpa using hn
  simp only [execOp, ho, resolve, hc, Act.eval, Deferred.ofValue, Sem.run_bind, Sem.run_pure, Result.andThen_ok, invoke, callFunc, hargs']
  simp [program, Sem.run, hf, hb, hn', h1, h2]
  have e := hg w
  unfold Sem.run at e ⊢
  rw [e]
  rfl
theorem call_idxb {a : ByteArray} {b : Int} (hr : 0 ≤ b ∧ b < 256) (hf : P.funcs[f]? = some fn) (hb : fn.body = none) (hn : (fn.name == "runtime.NumGoroutine") = false) (h1 : Extern.findNext fn = none) (h2 : Extern.find fn = some Extern.BytealgIndexByte.indexByte)
    (ho : o.op = .call c) (hc : c.callee = .value (.func f)) (hargs : evL T E c.args.toList c.argTypes.toList = some [.v (.str a), .v (.int .u8 b)]) (hK : K (.v (.int .i64 (idxB (tl a) b))) [] []) : CallOp T o E H nx K :=
  call_ext (r0 := .int .i64 (idxB (tl a) b)) (v0 := .int .i64 (idxB (tl a) b)) (fun w => by rw [← ib_idx (tl a) hr]; exact Lib.run_indexByteString a b w) (fun X w => rfl) hf hb hn h1 h2 ho hc hargs hK
theorem call_cntb {a : ByteArray} {b : Int} (hr : 0 ≤ b ∧ b < 256) (hf : P.funcs[f]? = some fn) (hb : fn.body = none) (hn : (fn.name == "runtime.NumGoroutine") = false) (h1 : Extern.findNext fn = none) (h2 : Extern.find fn = some Extern.BytealgCount.count)
    (ho : o.op = .call c) (hc : c.callee = .value (.func f)) (hargs : evL T E c.args.toList c.argTypes.toList = some [.v (.str a), .v (.int .u8 b)]) (hK : K (.v (.int .i64 (cntB (tl a) b))) [] []) : CallOp T o E H nx K :=
  call_ext (r0 := .int .i64 (cntB (tl a) b)) (v0 := .int .i64 (cntB (tl a) b)) (fun w => by rw [← ib_cnt (tl a) hr]; exact Lib.run_countString a b w) (fun X w => rfl) hf hb hn h1 h2 ho hc hargs hK
end
end Go.DL

/- DL, part 37: a scope through which the run goes without a goto. Own work; no condition. -/
set_option linter.unusedVariables false
set_option linter.unusedSimpArgs false
namespace Go.DL
open Go.RowKit
section
variable {P : Program} {T : Tab P} {m N : Nat} {σ : St} {Q : Exit → St → Prop}
def noG (Q : Exit → St → Prop) : Exit → St → Prop
  | .normal, σ => Q .normal σ
  | .exit i, σ => Q (.exit i) σ
  | .ret, σ => Q .ret σ
  | _, _ => False
attribute [local semireducible] WpD in
theorem WpD.scope {c : Code} (h : WpD T m N c σ (noG Q)) : WpD T m N (.scope c) σ Q := fun C hN hm a w k =>
  wp_scope_straight (wp_mono (h C hN hm a w k) fun e a' w' ⟨σ', c', q⟩ => by
    cases e with
    | normal => exact ⟨σ', c', q⟩
    | exit i => exact ⟨σ', c', q⟩
    | ret => exact ⟨σ', c', q⟩
    | goto l => exact q.elim
    | panic ch => exact q.elim
    | outgrown => exact q.elim)
attribute [local semireducible] WpD in
theorem WpD.label {l : Nat} (h : Q .normal σ) : WpD T m N (.label l) σ Q := fun C _ _ a w c => wp_label ⟨σ, c, h⟩
end
end Go.DL
