import Derived.Test.YtdadnjhfennenaaDl11
import Derived.Lib.Bytealg
set_option linter.unusedVariables false
set_option linter.unusedSimpArgs false
namespace Go.DL

theorem bl_tri : ∀ a b : List UInt8, (Op.bytesLess a b || decide (a = b)) = !Op.bytesLess b a
  | [], [] => by simp [Op.bytesLess]
  | [], b :: y => by simp [Op.bytesLess]
  | a :: x, [] => by simp [Op.bytesLess]
  | a :: x, b :: y => by
    have ih := bl_tri x y
    have key : a < b ∨ a = b ∨ b < a := by
      rw [UInt8.lt_iff_toNat_lt, UInt8.lt_iff_toNat_lt, ← UInt8.toNat_inj]; omega
    rcases key with h | rfl | h
    · have h1 : ¬ b < a := by rw [UInt8.lt_iff_toNat_lt] at *; omega
      have h2 : ¬ b = a := by intro e; subst e; rw [UInt8.lt_iff_toNat_lt] at h; omega
      simp [Op.bytesLess, h, h1, h2]
    · have h1 : ¬ a < a := by rw [UInt8.lt_iff_toNat_lt]; omega
      simp [Op.bytesLess, h1, ← ih]
    · have h1 : ¬ a < b := by rw [UInt8.lt_iff_toNat_lt] at *; omega
      have h2 : ¬ a = b := by intro e; subst e; rw [UInt8.lt_iff_toNat_lt] at h; omega
      simp [Op.bytesLess, h, h1, h2]
theorem bl_trans : ∀ a b c : List UInt8, Op.bytesLess a b = true → Op.bytesLess b c = true → Op.bytesLess a c = true
  | [], b, c, h1, h2 => by
    cases c with
    | nil => cases b <;> simp [Op.bytesLess] at h2
    | cons => simp [Op.bytesLess]
  | a :: x, [], c, h1, h2 => by simp [Op.bytesLess] at h1
  | a :: x, b :: y, [], h1, h2 => by simp [Op.bytesLess] at h2
  | a :: x, b :: y, c :: z, h1, h2 => by
    simp only [Op.bytesLess, Bool.or_eq_true, decide_eq_true_eq, Bool.and_eq_true, beq_iff_eq] at *
    rcases h1 with h1 | ⟨rfl, h1⟩
    · rcases h2 with h2 | ⟨rfl, h2⟩
      · left; rw [UInt8.lt_iff_toNat_lt] at *; omega
      · exact .inl h1
    · rcases h2 with h2 | ⟨rfl, h2⟩
      · exact .inl h2
      · exact .inr ⟨rfl, bl_trans x y z h1 h2⟩
theorem bl_cmp : ∀ a b : List UInt8, Lib.compareBytes a b = if Op.bytesLess a b then -1 else if a = b then 0 else 1
  | [], [] => by simp [Op.bytesLess, Lib.compareBytes]
  | [], b :: y => by simp [Op.bytesLess, Lib.compareBytes]
  | a :: x, [] => by simp [Op.bytesLess, Lib.compareBytes]
  | a :: x, b :: y => by
    have ih := bl_cmp x y
    have key : a < b ∨ a = b ∨ b < a := by
      rw [UInt8.lt_iff_toNat_lt, UInt8.lt_iff_toNat_lt, ← UInt8.toNat_inj]; omega
    rcases key with h | rfl | h
    · simp [Op.bytesLess, Lib.compareBytes, h]
    · have h1 : ¬ a < a := by rw [UInt8.lt_iff_toNat_lt]; omega
      simp [Op.bytesLess, Lib.compareBytes, h1, ih]
    · have h1 : ¬ a < b := by rw [UInt8.lt_iff_toNat_lt] at *; omega
      have h2 : ¬ a = b := by intro e; subst e; rw [UInt8.lt_iff_toNat_lt] at h; omega
      simp [Op.bytesLess, Lib.compareBytes, h, h1, h2]
theorem toList_inj {a b : ByteArray} : a.toList = b.toList ↔ a = b := by
  rw [Lib.toList_data, Lib.toList_data]
  constructor
  · intro h
    obtain ⟨⟨x⟩⟩ := a; obtain ⟨⟨y⟩⟩ := b
    simp at h; subst h; rfl
  · rintro rfl; rfl
theorem sLe_eq (a b : ByteArray) : (sLt a b || decide (a = b)) = !sLt b a := by
  have := bl_tri a.toList b.toList
  rw [show decide (a = b) = decide (a.toList = b.toList) by rw [decide_eq_decide, toList_inj]]
  exact this
theorem sLt_trans {a b c : ByteArray} (h1 : sLt a b = true) (h2 : sLt b c = true) : sLt a c = true := bl_trans _ _ _ h1 h2
theorem sLt_irrefl (a : ByteArray) : sLt a a = false := by
  have := sLe_eq a a
  simp at this; simpa using this
theorem sLt_asymm {a b : ByteArray} (h : sLt a b = true) : sLt b a = false := by
  have := sLe_eq a b
  rw [h] at this; simpa using this.symm
theorem sLt_tri (a b : ByteArray) : sLt a b = true ∨ a = b ∨ sLt b a = true := by
  have := sLe_eq a b
  cases h : sLt b a with
  | true => exact .inr (.inr rfl)
  | false =>
    rw [h] at this; simp at this
    rcases this with h | h
    · exact .inl h
    · exact .inr (.inl h)
/-- strings.Compare -/
def sCmp (a b : ByteArray) : Int := if sLt a b then -1 else if a = b then 0 else 1
theorem sCmp_eq (a b : ByteArray) : Lib.compareBytes a.data.toList b.data.toList = sCmp a b := by
  rw [bl_cmp, ← Lib.toList_data, ← Lib.toList_data, sCmp]
  simp only [toList_inj]; rfl
theorem sCmp_neg {a b : ByteArray} : sCmp a b < 0 ↔ sLt a b = true := by
  unfold sCmp
  by_cases h : sLt a b = true
  · simp [h]
  · rw [if_neg h]; split <;> simp [h]
theorem sCmp_zero {a b : ByteArray} : sCmp a b = 0 ↔ a = b := by
  unfold sCmp
  by_cases h : sLt a b = true
  · rw [if_pos h]; simp; rintro rfl; rw [sLt_irrefl] at h; cases h
  · rw [if_neg h]; split <;> simp [*]
theorem Br.of_t {b : Bool} {A B : Prop} (h : b = true) (a : A) : Br b A B := Br.mk (fun _ => a) (fun e => by rw [h] at e; cases e)
theorem Br.of_f {b : Bool} {A B : Prop} (h : b = false) (a : B) : Br b A B := Br.mk (fun e => by rw [h] at e; cases e) (fun _ => a)
/-! numbers -/
theorem wr {x : Int} (h1 : -9223372036854775808 ≤ x) (h2 : x ≤ 9223372036854775807) : IntKind.wrap .i64 x = x := by
  simp [IntKind.wrap, IntKind.bits, IntKind.signed]
  omega
theorem wru {x : Int} (h1 : 0 ≤ x) (h2 : x ≤ 18446744073709551615) : IntKind.wrap .u64 x = x := by
  simp [IntKind.wrap, IntKind.bits, IntKind.signed]
  omega
theorem shr1 (x : Int) : x.fdiv (2 ^ min (Int.toNat 1) (IntKind.bits .u64)) = x / 2 := by
  rw [Int.fdiv_eq_ediv_of_nonneg _ (by decide)]; rfl
section
variable {P : Program} {T : Tab P} {o : Oper} {E : Nat → Option D} {H : Nat → Ob} {nx : Nat} {K : KT} {c : Call} {f : FuncId} {fn : Func}
/-- The compiler's own compare of strings. -/
theorem call_cmp {a b : ByteArray} (hf : P.funcs[f]? = some fn) (hb : fn.body = none) (hn : (fn.name == "runtime.NumGoroutine") = false) (h1 : Extern.findNext fn = none) (h2 : Extern.find fn = some Extern.BytealgCompare.compare)
    (ho : o.op = .call c) (hc : c.callee = .value (.func f)) (hargs : evL T E c.args.toList c.argTypes.toList = some [.v (.str a), .v (.str b)]) (hK : K (.v (.int .i64 (sCmp a b))) [] []) : CallOp T o E H nx K := by
  unfold CallOp
  refine ⟨[], Just (.v (.int .i64 (sCmp a b))) [], by simp, does_value fun X ρ w a' r => ⟨.int .i64 (sCmp a b), ?_, rfl⟩, fun d ups ⟨h1, h2⟩ => by subst h1 h2; exact hK⟩
  obtain ⟨hc2, hl2⟩ := evL_cells r hargs
  obtain ⟨u1, u2, hu⟩ : ∃ u1 u2, c.args.toList.map a'.eval = [u1, u2] := by
    rcases h : c.args.toList.map a'.eval with _ | ⟨u1, _ | ⟨u2, _ | ⟨u3, t⟩⟩⟩
    · rw [h] at hl2; simp at hl2
    · rw [h] at hl2; simp at hl2
    · exact ⟨u1, u2, rfl⟩
    · rw [h] at hl2; simp at hl2
  rw [hu] at hc2
  have e1 : u1 = .string a := hc2.1
  have e2 : u2 = .string b := hc2.2.1
  subst e1 e2
  have hargs' : c.args.map a'.eval = #[.string a, .string b] := by rw [← Array.toList_inj, Array.toList_map, hu]
  have hn' : fn.name ≠ "runtime.NumGoroutine" := by simpa using hn
  simp only [execOp, ho, resolve, hc, Act.eval, Deferred.ofValue, Sem.run_bind, Sem.run_pure, Result.andThen_ok, invoke, callFunc, hargs']
  simp [program, Sem.run, hf, hb, hn', h1, h2]
  have e := Lib.run_compareString (P := P) a b w
  unfold Sem.run at e ⊢
  rw [e, sCmp_eq]; rfl
attribute [local semireducible] CallDet in
theorem call_pureD {x : Operand} {ds caps : List D} {vargs : List V} {r0 : V} (hC : CallV T f vargs (· = r0)) (ho : o.op = .call c) (hc : c.callee = .value x) (hx : callee (ev T E 0 x) = some (f, caps)) (hargs : evL T E c.args.toList c.argTypes.toList = some ds) (hv : D.toVs (ds ++ caps) = some vargs)
    (hK : K (.v r0) [] []) : CallDet T o E H nx K := by
  refine ⟨.v r0, [], [], by simp, ?_, hK⟩
  have h := call_pure_does (H := H) hC ho hc hx hargs hv
  intro X ρ w a Q K r hn hK
  refine h X ρ w a Q K r hn ?_
  rintro d ups v w' X' ρ' ⟨e1, r', e2, e3⟩ st hcell hob
  exact hK d ups v w' X' ρ' ⟨by rw [e2, e3], e1⟩ st hcell hob
theorem call_pure1 {x : Operand} {ds caps : List D} {vargs : List V} {r0 : V} (hC : CallV T f vargs (· = r0)) (ho : o.op = .call c) (hc : c.callee = .value x) (hx : callee (ev T E 0 x) = some (f, caps)) (hargs : evL T E c.args.toList c.argTypes.toList = some ds) (hv : D.toVs (ds ++ caps) = some vargs)
    (hK : K (.v r0) [] []) : CallOp T o E H nx K := call_pure hC ho hc hx hargs hv fun r h => by rw [h]; exact hK
theorem call_pureP {p : Prop} {x : Operand} {ds caps : List D} {vargs : List V} {r0 : V} (hC : p → CallV T f vargs (· = r0)) (ho : o.op = .call c) (hc : c.callee = .value x) (hx : callee (ev T E 0 x) = some (f, caps)) (hargs : evL T E c.args.toList c.argTypes.toList = some ds) (hv : D.toVs (ds ++ caps) = some vargs)
    (hp : p) (hK : K (.v r0) [] []) : CallOp T o E H nx K := call_pure1 (hC hp) ho hc hx hargs hv hK
theorem call_purePD {p : Prop} {x : Operand} {ds caps : List D} {vargs : List V} {r0 : V} (hC : p → CallV T f vargs (· = r0)) (ho : o.op = .call c) (hc : c.callee = .value x) (hx : callee (ev T E 0 x) = some (f, caps)) (hargs : evL T E c.args.toList c.argTypes.toList = some ds) (hv : D.toVs (ds ++ caps) = some vargs)
    (hp : p) (hK : K (.v r0) [] []) : CallDet T o E H nx K := call_pureD (hC hp) ho hc hx hargs hv hK
end
end Go.DL
