/- DL, part 15: append of make, overlaps. Own work; no condition. -/
import Derived.Test.YtdadnjhfennenaaDl14
set_option linter.unusedVariables false
set_option linter.unusedSimpArgs false
namespace Go.DL
open Go.RowKit

section
variable {P : Program} {T : Tab P} {o : Oper} {E : Nat → Option D} {H : Nat → Ob} {nx : Nat} {K : KT}

theorem zeroCells_list (z : Array Value) : ∀ n : Nat, (Builtin.zeroCells z n).toList = (List.replicate n z.toList).flatten := by
  intro n
  by_cases hz : z.size = 0
  · have : z = #[] := by simpa using hz
    subst this
    simp [Builtin.zeroCells]
  apply List.ext_getElem?
  intro i
  have hl : (List.replicate n z.toList).flatten.length = n * z.size := by simp [List.length_flatten]
  have key : ∀ (n i : Nat), i < n * z.size → (List.replicate n z.toList).flatten[i]? = some z[i % z.size]! := by
    intro n
    induction n with
    | zero => intro i hi; simp at hi
    | succ n ih =>
      intro i hi
      rw [List.replicate_succ, List.flatten_cons]
      by_cases hlt : i < z.size
      · rw [List.getElem?_append_left (by simpa using hlt), Nat.mod_eq_of_lt hlt]
        simp [hlt]
      · rw [List.getElem?_append_right (by simp; omega)]
        simp only [Array.length_toList]
        rw [ih (i - z.size) (by rw [Nat.add_mul] at hi; omega)]
        rw [Nat.mod_eq_sub_mod (by omega : i ≥ z.size)]
  by_cases hi : i < n * z.size
  · rw [key n i hi]
    simp [Builtin.zeroCells, hi]
  · rw [List.getElem?_eq_none (l := (List.replicate n z.toList).flatten) (by rw [hl]; omega), List.getElem?_eq_none (by simp [Builtin.zeroCells]; omega)]
theorem run_append_make (w : World) (t tn ty e : TypeId) (i : TypeInfo) (z : Value) (k kn : IntKind) (ht : P.underlying t = some (.slice e)) (htn : P.underlying tn = some (.int kn)) (hi : P.info? e = some i) (hz : i.zero = some z)
    (base : Option Addr) (sLen sCap n : Nat) (olds : List Value) (hold : (Builtin.firstCells i.size sLen (.slice base sLen sCap)).run P w.drew = .ok olds.toArray w.drew) (hg : sCap < sLen + n) (h0 : 0 < n) (hs : 0 < i.size)
    (h63 : ((sLen + n : Nat) : Int) ≤ 9223372036854775807) (hb : n * i.bytes ≤ 281474976710656) (hfit : Builtin.nextslicecap (sLen + n) sCap * i.bytes ≤ 281474976710656) :
    (Builtin.append_ #[t, tn] ty #[.slice base sLen sCap, .int k n]).run P w =
      .ok (.slice (some ⟨w.heap.size, 0, none⟩) (sLen + n) (grownCap w (sLen + n) sCap e)) (w.drew.alloc (.cells (olds.toArray ++ Builtin.zeroCells z.cells n ++ Builtin.zeroCells z.cells (grownCap w (sLen + n) sCap e - (sLen + n))) e)) := by
  have hw : IntKind.i64.wrap (n : Int) = n := by rw [IntKind.wrap_i64]; omega
  have h63' : ¬ (9223372036854775807 < (sLen : Int) + (n : Int)) := by omega
  have h48' : ¬ (281474976710656 < Builtin.nextslicecap (sLen + n) sCap * i.bytes) := by omega
  have h48i : ¬ (281474976710656 < (n : Int) * (i.bytes : Int)) := by rw [← Int.natCast_mul]; omega
  have hneg : ¬ ((n : Int) < 0) := by omega
  have hns : ¬ (n * i.size = 0) := Nat.mul_ne_zero (by omega) (by omega)
  have hn : n ≠ 0 := by omega
  have hle : ¬ (sLen + n ≤ sCap) := by omega
  have hi0 : i.size ≠ 0 := by omega
  simp [Builtin.append_, run_underlying ht, run_underlying htn, sizeOf, typeInfo, zeroValue, hi, hz, asInt, asIntOf, hw, hn, hle, hneg, hns, hi0, h63', h48', h48i, Question.forced, hold, newRow, grownCap]
theorem V.one_all {X : Nat → Prop} {w : World} : ∀ {l : List V}, (l.map D.v).all D.one = true → l.all V.one = true := fun h => all_d h
theorem op_append_make {c : Call} {x y : Operand} {t tn e p q i k b1 sz : Nat} {v : Int} {kn kv : IntKind} {z : V} {zs : List V} {rows : List (List D)} (ho : o.op = .call c) (hc : c.callee = .builtin .append) (ha : c.args.toList = [x, y]) (ht : c.argTypes.toList = [t, tn])
    (hs : (T.ty t).d = .slice e) (htn : (T.ty tn).d = .int kn) (hz : (T.ty e).zero = z :: zs) (hone : ((z :: zs).map D.v).all D.one = true) (hsz : (T.ty e).size = sz) (hzl : zs.length + 1 = sz) (hby : (T.ty e).bytes = b1 + 1)
    (hx : ev T E t x = some (.arr p 0 i)) (hp : H p = .arr sz rows) (hq : H q = .cap p k) (hy : ev T E tn y = some (.v (.int kv v))) (hi : i ≤ rows.length) (h0' : 0 < v) (hroom' : (k : Int) < i + v) (hmax' : (i + v.toNat) * (b1 + 1) ≤ lenMax)
    (hK : K (.arr nx 0 (i + v.toNat)) [(nx, .arr sz (rows.take i ++ List.replicate v.toNat ((z :: zs).map .v)))] [nx]) : CallOp T o E H nx K := by
  refine CallOp.mk (nw := [nx]) (R := Just (.arr nx 0 (i + v.toNat)) [(nx, .arr sz (rows.take i ++ List.replicate v.toNat ((z :: zs).map .v)))]) (by simp) ?_ (fun d ups ⟨e1, e2⟩ => by subst e1 e2; exact hK)
  obtain ⟨kk, rfl⟩ : ∃ kk : Nat, v = kk := ⟨v.toNat, by omega⟩
  rw [Int.toNat_natCast] at *
  have h0 : 0 < kk := by omega
  have hroom : k < i + kk := by omega
  have hmax := hmax'
  intro X ρ w a Q' K' r hn hK'
  have hnx := hn nx (by simp)
  have hv := ev_cell r hx
  have hy' := ev_cell r hy
  unfold DCell VCell at hy'
  have hob := r.obs p
  have hgh := r.obs q
  rw [hp] at hob
  rw [hq] at hgh
  obtain ⟨g1, g2, g3⟩ := hgh
  obtain ⟨hz0, hr, hm, hob⟩ := hob
  have hs0 : 0 < (T.ty e).size := by omega
  obtain ⟨inf, u, hi1, hu, his, hib, hti⟩ := T.info hs0
  have hne : (T.ty e).zero ≠ [] := by rw [hz]; simp
  obtain ⟨i', z', hi2, hzv, hzs⟩ := T.zero_info hne
  rw [hi1] at hi2; injection hi2 with hi2; subst hi2
  obtain ⟨zr, hzr1, hzr2, hzr3⟩ := T.run_zero hne w
  have hzz : zr = z' := by
    simp [Go.zeroValue, Go.typeInfo, hi1, hzv] at hzr1
    exact hzr1.symm
  subst hzz
  have hzc : ∀ X w', VCells X w' (z :: zs) zr.cells.toList := by rw [← hz]; exact hzr3
  have hzl' : zr.cells.size = sz := by rw [hzs, hz]; simpa using hzl
  have hlen : (i + kk) ≤ lenMax := by
    have : (i + kk) * 1 ≤ (i + kk) * (b1 + 1) := Nat.mul_le_mul_left _ (by omega)
    omega
  have hib' : inf.bytes = b1 + 1 := by rw [hib, hby]
  unfold DCell at hv
  obtain ⟨a1, a2⟩ := args2 ha ht a
  have hrows : ∀ r' ∈ rows.take i ++ List.replicate kk ((z :: zs).map D.v), r'.length = sz ∧ r'.all D.one = true := by
    intro r' hr'
    rcases List.mem_append.1 hr' with h | h
    · exact hr r' (List.mem_of_mem_take h)
    · obtain ⟨_, rfl⟩ := List.mem_replicate.1 h
      exact ⟨by simpa using hzl, hone⟩
  have hlr : (rows.take i ++ List.replicate kk ((z :: zs).map D.v)).length = i + kk := by simp; omega
  have fin : ∀ (A : Option Addr) (cap : Nat) (olds : List Value), (Builtin.firstCells inf.size i (.slice A i cap)).run P w.drew = .ok olds.toArray w.drew → a.eval x = .slice A i cap → cap = k → DCells X ρ w (rows.take i).flatten olds → olds.length = i * sz → o.wp P a w K' Q' := by
    intro A cap olds hfc he hcap hdo hol
    subst hcap
    have hfit : Builtin.nextslicecap (i + kk) cap * inf.bytes ≤ 281474976710656 := by
      have h1 := nextcap_le (need := i + kk) (old := cap) (by omega)
      have h2 := Nat.mul_le_mul_right inf.bytes h1
      rw [hib'] at h2 ⊢
      simp only [lenMax] at h2 hmax ⊢
      rw [Nat.mul_assoc] at h2; omega
    have hb : kk * inf.bytes ≤ 281474976710656 := by
      rw [hib']
      have : kk * (b1 + 1) ≤ (i + kk) * (b1 + 1) := Nat.mul_le_mul_right _ (by omega)
      simp only [lenMax] at hmax; omega
    have hrun := run_append_make (P := P) w t tn o.type e inf zr kv kn (T.slice hs) (T.int htn) hi1 hzv A i cap kk olds hfc hroom h0 (by omega) (by simp [lenMax] at hlen; omega) hb hfit
    unfold Oper.wp
    have he2 : (execOp a.eval o).run P w = _ := run_append_call ho hc ha ht a w (by rw [he, hy']; exact hrun)
    rw [he2]
    have hcap := grownCap_bounds w (i + kk) cap e (by simp [lenMax, capMax] at hlen ⊢; omega)
    refine app_new (J := K') r (p := nx) hnx (.inl ⟨rfl, rfl⟩) hK' hlr.symm hz0 hrows (by rw [hlr]; exact hlen) (by omega) hcap.1 hcap.2 ?_ ?_
    · simp [zeroCells_size, hzl', hol]
      rw [← Nat.add_mul, ← Nat.add_mul]; congr 1; omega
    · rw [List.flatten_append]
      simp only [Array.toList_append, List.append_assoc]
      refine DCells.append (DCells.more hdo) ?_
      have : (rows.take i).flatten.length = olds.length := by
        rw [flat_len (sz := sz) (fun r' hr' => (hr r' (List.mem_of_mem_take hr')).1), hol]; congr 1; simp; omega
      rw [this, List.drop_left, zeroCells_list]
      have reps : ∀ n : Nat, DCells X ρ w (List.replicate n ((z :: zs).map D.v)).flatten (List.replicate n zr.cells.toList).flatten := by
        intro n
        induction n with
        | zero => trivial
        | succ n ih =>
          rw [List.replicate_succ, List.flatten_cons, List.replicate_succ, List.flatten_cons]
          refine DCells.append (DCells.more (VCells.toD (hzc X w))) ?_
          have e1 : ((z :: zs).map D.v).length = zr.cells.toList.length := by simp; omega
          rw [e1, List.drop_left]; exact ih
      exact DCells.more (reps kk)
  cases hρ : ρ p with
  | hole => exact absurd hρ g1
  | dead => simp only [hρ] at hob
  | null =>
    have hk := g2 hρ
    simp only [hρ] at hv hob
    obtain ⟨⟨A, hv⟩, _, rfl⟩ := hv
    subst hob
    exact fin A 0 [] (by cases A <;> simp [Builtin.firstCells, loadCells, loadCellsFrom]) hv hk.symm (by simp [DCells]) (by simp)
  | live b s cap =>
    have hk := g3 b s cap hρ
    simp only [hρ] at hv hob
    obtain ⟨rfl, hrc, hcm, arr, ty, fr, hh, hcs, hf, hrr⟩ := hob
    obtain ⟨hv1, hv2, hv3⟩ := hv
    have hfl : (rows.take i).flatten.length = i * s := by
      rw [flat_len (sz := s) (fun r' hr' => (hr r' (List.mem_of_mem_take hr')).1)]; congr 1; simp; omega
    have hdc : DCells X ρ w (rows.take i).flatten arr.toList := DRows.to_cells (sz := s) (DRows.take i hrr)
    have hdt := DCells.takeLen hdc
    rw [hfl] at hdt
    have hl : i * s ≤ arr.size := by rw [hcs]; exact Nat.mul_le_mul_right _ (by omega)
    by_cases hoc : 0 < cap
    · refine fin _ cap (arr.toList.take (i * s)) ?_ (by rw [hv2 hoc]; rfl) hk hdt (by simp; omega)
      rw [his, hsz]
      refine run_firstCells_some (P := P) w.drew s i ⟨b, 0 * s, none⟩ i cap (arr.toList.take (i * s)) (by simp; omega) (fun j v hj => ?_)
      have hj' : (arr.toList.drop (0 * s))[j]? = some v := by
        rw [List.getElem?_take] at hj
        split at hj
        · simpa using hj
        · cases hj
      exact cell_at (w := w.drew) hh j v hj'
    · obtain ⟨A, hA⟩ := hv3 (by omega)
      have hn : i = 0 := by omega
      subst hn
      exact fin (some A) 0 [] (by simp [Builtin.firstCells, loadCells, loadCellsFrom]) hA (by omega) (by simp [DCells]) (by simp)
theorem run_overlaps_triv {P : Program} (w : World) (tS tR e : TypeId) (ht : P.underlying tS = some (.slice e)) (size : Nat) (hz : ∀ w, (Go.sizeOf e).run P w = .ok size w) (A B : Option Addr) (la ca lb cb : Nat) (h : A = none ∨ B = none ∨ la = 0 ∨ lb = 0) :
    (Extern.SlicesOverlaps.overlaps #[tS, tS] #[tR] #[.slice A la ca, .slice B lb cb]).run P w = .ok (.bool false) w := by
  have e1 : ∀ (f : TypeDesc → Sem Value), ((do let d ← underlying tS; f d) : Sem Value).run P w = (f (.slice e)).run P w := by
    intro f; simp [run_underlying ht]
  have e2 : ∀ (f : Nat → Sem Value), ((do let d ← Go.sizeOf e; f d) : Sem Value).run P w = (f size).run P w := by
    intro f; simp [hz]
  refine (e1 _).trans ?_
  refine (e2 _).trans ?_
  cases A with
  | none => rfl
  | some a =>
    cases B with
    | none => rfl
    | some b =>
      have h' : la = 0 ∨ lb = 0 ∨ size = 0 := by
        rcases h with h | h | h | h
        · cases h
        · cases h
        · exact .inl h
        · exact .inr (.inl h)
      have e3 : ∀ (x y : Sem Value), (if la = 0 ∨ lb = 0 ∨ size = 0 then x else y) = x := fun x y => if_pos h'
      exact congrArg (fun s : Sem Value => s.run P w) (e3 _ _)
/-- The compiler's question whether two slices lie over each other: of two objects. -/
theorem op_overlaps {c : Call} {f : FuncId} {fn : Func} {t tr e p p' o1 o2 n1 n2 sz : Nat} {rows rows' : List (List D)} (hf : P.funcs[f]? = some fn) (hb : fn.body = none) (hn : (fn.name == "runtime.NumGoroutine") = false) (h1 : Extern.findNext fn = none)
    (h2 : Extern.find fn = some (Extern.SlicesOverlaps.overlaps #[t, t] #[tr])) (hs : (T.ty t).d = .slice e) (hsz : (T.ty e).size = sz) (ho : o.op = .call c) (hc : c.callee = .value (.func f)) (hargs : evL T E c.args.toList c.argTypes.toList = some [.arr p o1 n1, .arr p' o2 n2])
    (hp : H p = .arr sz rows) (hp' : H p' = .arr sz rows') (hne : p ≠ p') (hK : K (.v (.bool false)) [] []) : CallOp T o E H nx K := by
  refine CallOp.mk (nw := []) (R := Just (.v (.bool false)) []) (by simp) (does_value fun X ρ w a r => ⟨.bool false, ?_, rfl⟩) (fun d ups ⟨h1, h2⟩ => by subst h1 h2; exact hK)
  obtain ⟨hc2, hl2⟩ := evL_cells r hargs
  obtain ⟨u1, u2, hu⟩ : ∃ u1 u2, c.args.toList.map a.eval = [u1, u2] := by
    rcases h : c.args.toList.map a.eval with _ | ⟨u1, _ | ⟨u2, _ | ⟨u3, t⟩⟩⟩
    · rw [h] at hl2; simp at hl2
    · rw [h] at hl2; simp at hl2
    · exact ⟨u1, u2, rfl⟩
    · rw [h] at hl2; simp at hl2
  rw [hu] at hc2
  have hargs' : c.args.map a.eval = #[u1, u2] := by rw [← Array.toList_inj, Array.toList_map, hu]
  have hn' : fn.name ≠ "runtime.NumGoroutine" := by simpa using hn
  have key : ∃ v, (Extern.SlicesOverlaps.overlaps #[t, t] #[tr] #[u1, u2]).run P w = .ok v w ∧ v = .bool false := by
    refine ⟨_, ?_, rfl⟩
    obtain ⟨hd1, hd2, _⟩ := hc2
    have ob1 := r.obs p
    have ob2 := r.obs p'
    rw [hp] at ob1
    rw [hp'] at ob2
    obtain ⟨hz0, _, _, ob1⟩ := ob1
    obtain ⟨_, _, _, ob2⟩ := ob2
    have hrs : ∀ w, (Go.sizeOf e).run P w = .ok sz w := fun w => by rw [T.run_size (by omega) w, hsz]
    have triv : ∀ (A B : Option Addr) (la ca lb cb : Nat), (A = none ∨ B = none ∨ la = 0 ∨ lb = 0) → (Extern.SlicesOverlaps.overlaps #[t, t] #[tr] #[.slice A la ca, .slice B lb cb]).run P w = .ok (.bool false) w :=
      fun A B la ca lb cb h => run_overlaps_triv w t tr e (T.slice hs) sz hrs A B la ca lb cb h
    unfold DCell at hd1 hd2
    cases hq1 : ρ p with
    | hole => simp only [hq1] at hd1
    | dead => simp only [hq1] at ob1
    | null =>
      simp only [hq1] at hd1
      obtain ⟨⟨A, rfl⟩, _, rfl⟩ := hd1
      have : ∃ B n c, u2 = .slice B n c := by
        cases hq2 : ρ p' with
        | hole => simp only [hq2] at hd2
        | dead => simp only [hq2] at ob2
        | null => simp only [hq2] at hd2; obtain ⟨⟨B, h⟩, _, _⟩ := hd2; exact ⟨B, _, _, h⟩
        | live b s cap =>
          simp only [hq2] at hd2
          obtain ⟨_, g2, g3⟩ := hd2
          by_cases hc : o2 < cap
          · exact ⟨_, _, _, g2 hc⟩
          · obtain ⟨B, h⟩ := g3 (by omega); exact ⟨_, _, _, h⟩
      obtain ⟨B, n, cc, rfl⟩ := this
      exact triv _ _ _ _ _ _ (.inr (.inr (.inl rfl)))
    | live b s cap =>
      simp only [hq1] at hd1 ob1
      obtain ⟨rfl, _, _, arr, ty, fr, hh, hcs, hf', _⟩ := ob1
      obtain ⟨_, g2, g3⟩ := hd1
      cases hq2 : ρ p' with
      | hole => simp only [hq2] at hd2
      | dead => simp only [hq2] at ob2
      | null =>
        simp only [hq2] at hd2; obtain ⟨⟨B, rfl⟩, _, rfl⟩ := hd2
        by_cases hc : o1 < cap
        · rw [g2 hc]; exact triv _ _ _ _ _ _ (.inr (.inr (.inr rfl)))
        · obtain ⟨A, rfl⟩ := g3 (by omega); exact triv _ _ _ _ _ _ (.inr (.inr (.inr rfl)))
      | live b' s' cap' =>
        simp only [hq2] at hd2 ob2
        obtain ⟨rfl, _, _, arr', ty', fr', hh', hcs', hf'', _⟩ := ob2
        obtain ⟨_, k2, k3⟩ := hd2
        have hbb : b ≠ b' := fun e => hne (r.mem.inj _ _ b _ _ _ _ hq1 (e ▸ hq2))
        by_cases hc : o1 < cap
        · by_cases hc' : o2 < cap'
          · rw [g2 hc, k2 hc']
            refine Lib.run_overlaps_apart w t tr e (T.slice hs) s' hrs _ _ _ _ _ _ hbb ty ty' arr.size arr'.size ?_ ?_ ?_ ?_ ?_
            · simp [World.shape?, hh]
            · simp [World.shape?, hh']
            · rw [hcs']
              have : 0 < cap' * s' := Nat.mul_pos (by omega) hz0
              omega
            · have hlt : o1 * s' < arr.size := by rw [hcs]; exact Nat.mul_lt_mul_of_pos_right hc hz0
              have := hf' (o1 * s') (Nat.le_of_lt hlt)
              simp [World.frozen?, hh]
              omega
            · have := hf' arr.size (Nat.le_refl _)
              simp [World.frozen?, hh]
              omega
          · obtain ⟨B, h⟩ := k3 (by omega)
            rw [h, g2 hc]
            have hn2 : n2 = 0 := by omega
            subst hn2
            first
              | exact triv _ _ _ _ _ _ (.inr (.inr (.inr rfl)))
        · obtain ⟨A, h⟩ := g3 (by omega)
          have hn1 : n1 = 0 := by omega
          have : ∃ B n c, u2 = .slice B n c := by
            by_cases hc2 : o2 < cap'
            · exact ⟨_, _, _, k2 hc2⟩
            · obtain ⟨B, h⟩ := k3 (by omega); exact ⟨_, _, _, h⟩
          obtain ⟨B, n, cc, rfl⟩ := this
          rw [h]
          exact triv _ _ _ _ _ _ (.inr (.inr (.inl (by first | rfl | exact hn1))))
  obtain ⟨v, hrun, rfl⟩ := key
  simp only [execOp, ho, resolve, hc, Act.eval, Deferred.ofValue, Sem.run_bind, Sem.run_pure, Result.andThen_ok, invoke, hargs']
  simp [run_callFunc_extern hf hn (by rw [hb]; rfl) h1 h2, hrun]
end
end Go.DL
