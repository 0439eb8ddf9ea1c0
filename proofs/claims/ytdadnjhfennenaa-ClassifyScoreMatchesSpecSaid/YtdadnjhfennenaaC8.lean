/- Classify: the reference's Changed. No condition. -/
import Derived.Test.YtdadnjhfennenaaC7
import Derived.Test.YtdadnjhfennenaaDC
set_option linter.unusedVariables false
set_option linter.unusedSimpArgs false
set_option maxHeartbeats 4000000
namespace Go.DL
open Go.Proofs

def keepT (x : Tk) : List Tk := if x.g = 0 ∧ x.j = 0 then [] else [x]
/-- The merge. -/
def mrg (junk : Bool) (n : Int) : List Tk → List ByteArray → List Tk
  | [], [] => []
  | x :: R, [] => keepT x ++ mrg junk n R []
  | [], s :: l => keepT (upT junk n ⟨s, 0, 0⟩) ++ mrg junk n [] l
  | x :: R, s :: l => if sLt x.s s = true then keepT x ++ mrg junk n R (s :: l) else if sLt s x.s = true then keepT (upT junk n ⟨s, 0, 0⟩) ++ mrg junk n (x :: R) l else keepT (upT junk n x) ++ mrg junk n R l
termination_by R l => R.length + l.length
structure chP (w : Wd) (l : List ByteArray) (junk : Bool) (n : Int) (q : Nat × Nat × List Tk) : Prop where
  i : q.1 ≤ w.l.length
  k : q.2.1 ≤ l.length
  o : q.2.2.length ≤ q.1 + q.2.1
  m : mrg junk n w.l l = q.2.2 ++ mrg junk n (w.l.drop q.1) (l.drop q.2.1)
theorem keep_len (x : Tk) : (keepT x).length ≤ 1 := by unfold keepT; split <;> simp
theorem keep_n {x : Tk} (h : ¬ (x.g = 0 ∧ x.j = 0)) : keepT x = [x] := if_neg h
theorem keep_z {x : Tk} (h : x.g = 0 ∧ x.j = 0) : keepT x = [] := if_pos h
theorem mrg_a {junk : Bool} {n : Int} {W : List Tk} {l : List ByteArray} {i k : Nat} {x : Tk} (hx : W[i]? = some x) (hk : k = l.length ∨ ∃ s, l[k]? = some s ∧ sLt x.s s = true) : mrg junk n (W.drop i) (l.drop k) = keepT x ++ mrg junk n (W.drop (i + 1)) (l.drop k) := by
  rw [drop_get' hx]
  rcases hk with rfl | ⟨s, hs, h⟩
  · rw [List.drop_length]; rw [mrg]
  · rw [drop_get' hs, mrg, if_pos h]
theorem mrg_b {junk : Bool} {n : Int} {W : List Tk} {l : List ByteArray} {i k : Nat} {s : ByteArray} (hs : l[k]? = some s) (hk : i = W.length ∨ ∃ x, W[i]? = some x ∧ sLt s x.s = true) : mrg junk n (W.drop i) (l.drop k) = keepT (upT junk n ⟨s, 0, 0⟩) ++ mrg junk n (W.drop i) (l.drop (k + 1)) := by
  rw [drop_get' hs]
  rcases hk with rfl | ⟨x, hx, h⟩
  · rw [List.drop_length]; rw [mrg]
  · rw [drop_get' hx, mrg, if_neg (by rw [sOrd.asymm h]; simp), if_pos h]
theorem mrg_c {junk : Bool} {n : Int} {W : List Tk} {l : List ByteArray} {i k : Nat} {x : Tk} {s : ByteArray} (hx : W[i]? = some x) (hs : l[k]? = some s) (h1 : sLt x.s s = false) (h2 : sLt s x.s = false) : mrg junk n (W.drop i) (l.drop k) = keepT (upT junk n x) ++ mrg junk n (W.drop (i + 1)) (l.drop (k + 1)) := by
  rw [drop_get' hs, drop_get' hx, mrg, if_neg (by rw [h1]; simp), if_neg (by rw [h2]; simp)]
def chS (w : Wd) (z : Bool) (l : List ByteArray) (junk : Bool) (n : Int) (q : Nat × Nat × List Tk) : St := ⟨[(1, .v (strs z l)), (2, .v (.bool junk)), (3, .v (.int .i64 n)), (4, .ptr 0 0 0), (8, .ptr 1 0 0), (9, .ptr 2 0 0), (10, .v (.int .i64 q.1)), (11, .v (.int .i64 q.2.1))], [.arr 3 (vrows [w.row]), .arr 3 (vrows [[.int .i64 0, .int .i64 0, .sl 3 true []]]), .arr 3 [[.v (.int .i64 (upW w junk n).g), .v (.int .i64 (upW w junk n).j), .arr 3 0 q.2.2.length]], .arr 3 (vrows (q.2.2.map Tk.row))], []⟩
theorem c_Changed_true (w : Wd) (z : Bool) (l : List ByteArray) (n : Int) (hn : -1 ≤ n ∧ n ≤ 1) (hn0 : n ≠ 0) (hw : okW w) (hll : l.length ≤ 1000) : CallV tab 58 [.agg w.row, strs z l, .bool true, .int .i64 n] (· = .agg [.int .i64 (upW w true n).g, .int .i64 (upW w true n).j, .sl 3 false ((mrg true n w.l l).map Tk.row)]) := by
  have hwr : ∀ a : Int, 0 ≤ a → a ≤ 1100000 → IntKind.i64.wrap (a + n) = a + n := fun a _ _ => wr (by omega) (by omega)
  have hwg := hwr w.g hw.g.1 (by have := hw.g; omega)
  have hwj := hwr w.j hw.j.1 (by have := hw.j; omega)
  have hwl := hw.l
  refine callV_of Try.func58 rfl (Nat.le_of_ble_eq_true rfl) (by kernel_rfl) ?_
  repeat' first
    | (apply Br.id; first
      | (apply Br.tt; try conv => whnf)
      | (apply Br.ff; try conv => whnf)
      | (refine Br.of_t (by assumption) ?_; conv => whnf)
      | (refine Br.of_f (by assumption) ?_; conv => whnf)
      | (refine Br.mk (fun _ => ?_) (fun _ => ?_) <;> try conv => whnf))
    | (apply CallOp.id; first
      | (refine call_at rfl rfl rfl rfl rfl ?_)
      | (refine call_rd rfl rfl rfl rfl rfl ?_)
      | (refine CallOp.std ?_; (conv => whnf); fail_if_success refine (?_ : False)))
    | (apply CallDet.id; first
      | (refine call_atD rfl rfl rfl rfl rfl ?_)
      | (refine call_rdD rfl rfl rfl rfl rfl ?_)
      | (refine CallDet.std ?_; (conv => whnf); fail_if_success refine (?_ : False)))
    | (refine EndOk.mk (by kernel_rfl) ?_; conv => whnf)
    | (refine And.intro (by (first | decide | exact trivial | omega | exact Nat.le_refl _ | (((try simp only [decide_eq_true_eq, decide_eq_false_iff_not, cond_true, cond_false, beq_iff_eq, beq_eq_false_iff_ne, bne_iff_ne, bne_eq_false_iff_eq, ne_eq, Bool.not_eq_true', Bool.not_eq_false', Bool.not_eq_eq_eq_not, Bool.not_true, Bool.not_false, sLe_eq, Bool.and_eq_true, Bool.and_eq_false_iff, List.length_map, List.length_set, List.length_append, List.length_take, List.length_drop, List.length_replicate, List.length_cons, List.length_nil, lenMax, capMax, Int.toNat_natCast, gt_iff_lt, ge_iff_le] at *); (try simp (disch := omega) only [wr, wru, shr1, Int.tdiv_eq_ediv_of_nonneg] at *)); omega) | (((try simp only [decide_eq_true_eq, decide_eq_false_iff_not, cond_true, cond_false, beq_iff_eq, beq_eq_false_iff_ne, bne_iff_ne, bne_eq_false_iff_eq, ne_eq, Bool.not_eq_true', Bool.not_eq_false', Bool.not_eq_eq_eq_not, Bool.not_true, Bool.not_false, sLe_eq, Bool.and_eq_true, Bool.and_eq_false_iff, List.length_map, List.length_set, List.length_append, List.length_take, List.length_drop, List.length_replicate, List.length_cons, List.length_nil, lenMax, capMax, Int.toNat_natCast, gt_iff_lt, ge_iff_le] at *); (try simp (disch := omega) only [wr, wru, shr1, Int.tdiv_eq_ediv_of_nonneg] at *)); assumption))) ?_; conv => whnf)
    | (refine idxOld (by assumption) ?_; conv => whnf)
    | (refine idxMap (by (first | decide | exact trivial | omega | exact Nat.le_refl _ | (((try simp only [decide_eq_true_eq, decide_eq_false_iff_not, cond_true, cond_false, beq_iff_eq, beq_eq_false_iff_ne, bne_iff_ne, bne_eq_false_iff_eq, ne_eq, Bool.not_eq_true', Bool.not_eq_false', Bool.not_eq_eq_eq_not, Bool.not_true, Bool.not_false, sLe_eq, Bool.and_eq_true, Bool.and_eq_false_iff, List.length_map, List.length_set, List.length_append, List.length_take, List.length_drop, List.length_replicate, List.length_cons, List.length_nil, lenMax, capMax, Int.toNat_natCast, gt_iff_lt, ge_iff_le] at *); (try simp (disch := omega) only [wr, wru, shr1, Int.tdiv_eq_ediv_of_nonneg] at *)); omega) | (((try simp only [decide_eq_true_eq, decide_eq_false_iff_not, cond_true, cond_false, beq_iff_eq, beq_eq_false_iff_ne, bne_iff_ne, bne_eq_false_iff_eq, ne_eq, Bool.not_eq_true', Bool.not_eq_false', Bool.not_eq_eq_eq_not, Bool.not_true, Bool.not_false, sLe_eq, Bool.and_eq_true, Bool.and_eq_false_iff, List.length_map, List.length_set, List.length_append, List.length_take, List.length_drop, List.length_replicate, List.length_cons, List.length_nil, lenMax, capMax, Int.toNat_natCast, gt_iff_lt, ge_iff_le] at *); (try simp (disch := omega) only [wr, wru, shr1, Int.tdiv_eq_ediv_of_nonneg] at *)); assumption))) (fun _ _ => ?_); conv => whnf)
    | refine Exists.intro _ (And.intro (DV_toV rfl) ?_)
    | (refine rowSet (by (first | decide | exact trivial | omega | exact Nat.le_refl _ | (((try simp only [decide_eq_true_eq, decide_eq_false_iff_not, cond_true, cond_false, beq_iff_eq, beq_eq_false_iff_ne, bne_iff_ne, bne_eq_false_iff_eq, ne_eq, Bool.not_eq_true', Bool.not_eq_false', Bool.not_eq_eq_eq_not, Bool.not_true, Bool.not_false, sLe_eq, Bool.and_eq_true, Bool.and_eq_false_iff, List.length_map, List.length_set, List.length_append, List.length_take, List.length_drop, List.length_replicate, List.length_cons, List.length_nil, lenMax, capMax, Int.toNat_natCast, gt_iff_lt, ge_iff_le] at *); (try simp (disch := omega) only [wr, wru, shr1, Int.tdiv_eq_ediv_of_nonneg] at *)); omega) | (((try simp only [decide_eq_true_eq, decide_eq_false_iff_not, cond_true, cond_false, beq_iff_eq, beq_eq_false_iff_ne, bne_iff_ne, bne_eq_false_iff_eq, ne_eq, Bool.not_eq_true', Bool.not_eq_false', Bool.not_eq_eq_eq_not, Bool.not_true, Bool.not_false, sLe_eq, Bool.and_eq_true, Bool.and_eq_false_iff, List.length_map, List.length_set, List.length_append, List.length_take, List.length_drop, List.length_replicate, List.length_cons, List.length_nil, lenMax, capMax, Int.toNat_natCast, gt_iff_lt, ge_iff_le] at *); (try simp (disch := omega) only [wr, wru, shr1, Int.tdiv_eq_ediv_of_nonneg] at *)); assumption))) ?_; conv => whnf)
    | (refine rowOld (by assumption) ?_; conv => whnf)
    | (refine rowNew (by (first | decide | exact trivial | omega | exact Nat.le_refl _ | (((try simp only [decide_eq_true_eq, decide_eq_false_iff_not, cond_true, cond_false, beq_iff_eq, beq_eq_false_iff_ne, bne_iff_ne, bne_eq_false_iff_eq, ne_eq, Bool.not_eq_true', Bool.not_eq_false', Bool.not_eq_eq_eq_not, Bool.not_true, Bool.not_false, sLe_eq, Bool.and_eq_true, Bool.and_eq_false_iff, List.length_map, List.length_set, List.length_append, List.length_take, List.length_drop, List.length_replicate, List.length_cons, List.length_nil, lenMax, capMax, Int.toNat_natCast, gt_iff_lt, ge_iff_le] at *); (try simp (disch := omega) only [wr, wru, shr1, Int.tdiv_eq_ediv_of_nonneg] at *)); omega) | (((try simp only [decide_eq_true_eq, decide_eq_false_iff_not, cond_true, cond_false, beq_iff_eq, beq_eq_false_iff_ne, bne_iff_ne, bne_eq_false_iff_eq, ne_eq, Bool.not_eq_true', Bool.not_eq_false', Bool.not_eq_eq_eq_not, Bool.not_true, Bool.not_false, sLe_eq, Bool.and_eq_true, Bool.and_eq_false_iff, List.length_map, List.length_set, List.length_append, List.length_take, List.length_drop, List.length_replicate, List.length_cons, List.length_nil, lenMax, capMax, Int.toNat_natCast, gt_iff_lt, ge_iff_le] at *); (try simp (disch := omega) only [wr, wru, shr1, Int.tdiv_eq_ediv_of_nonneg] at *)); assumption))) (fun _ _ => ?_); conv => whnf)
    | (apply WpD.id; first
      | (refine WpD.nilH 2 0 2 3 3 rfl rfl rfl rfl rfl rfl rfl ?_; refine WpD.loopAt 30 rfl (chS w z l true n) (chP w l true n) (fun q => (w.l.length - q.1) + (l.length - q.2.1)) ?_ (fun ⟨i, k, out⟩ hq => ?_); rotate_left; obtain ⟨q1, q2, q3, q4⟩ := hq; dsimp only at q1 q2 q3 q4; rcases Nat.lt_or_ge i w.l.length with hi | hi; (obtain ⟨x, hx⟩ : ∃ x, w.l[i]? = some x := ⟨_, List.getElem?_eq_getElem hi⟩); (have hxb := hw.t x (List.mem_of_getElem? hx)); (have di : decide ((i : Int) < (w.l.length : Int)) = true := by { simp; omega }); (have ei : ((i : Int) == (w.l.length : Int)) = false := by { simp; omega }); (have hx0 : w.l[((i : Nat) : Int).toNat]? = some x := hx); rcases Nat.lt_or_ge k l.length with hk | hk; (obtain ⟨s, hs⟩ : ∃ s, l[k]? = some s := ⟨_, List.getElem?_eq_getElem hk⟩); (have dk : decide ((k : Int) < (l.length : Int)) = true := by { simp; omega }); (have ek : ((k : Int) == (l.length : Int)) = false := by { simp; omega }); (have hs0 : l[((k : Nat) : Int).toNat]? = some s := hs); (rcases Bool.eq_false_or_eq_true (sLt x.s s) with h1 | h1); dsimp only [chS]; rotate_left; (rcases Bool.eq_false_or_eq_true (sLt s x.s) with h2 | h2); dsimp only [chS]; rotate_left; dsimp only [chS]; rotate_left; (have hkk : k = l.length := Nat.le_antisymm q2 hk); (have dk : decide ((k : Int) < (l.length : Int)) = false := by { simp; omega }); (have ek : ((k : Int) == (l.length : Int)) = true := by { simp; omega }); dsimp only [chS]; rotate_left; (have hii : i = w.l.length := Nat.le_antisymm q1 hi); (have di : decide ((i : Int) < (w.l.length : Int)) = false := by { simp; omega }); (have ei : ((i : Int) == (w.l.length : Int)) = true := by { simp; omega }); rcases Nat.lt_or_ge k l.length with hk | hk; (obtain ⟨s, hs⟩ : ∃ s, l[k]? = some s := ⟨_, List.getElem?_eq_getElem hk⟩); (have dk : decide ((k : Int) < (l.length : Int)) = true := by { simp; omega }); (have ek : ((k : Int) == (l.length : Int)) = false := by { simp; omega }); (have hs0 : l[((k : Nat) : Int).toNat]? = some s := hs); dsimp only [chS]; rotate_left; (have hkk : k = l.length := Nat.le_antisymm q2 hk); (have dk : decide ((k : Int) < (l.length : Int)) = false := by { simp; omega }); dsimp only [chS]; rotate_left)
      | (refine WpD.walk rfl ?_; conv => whnf))
  all_goals clear hwr hwg hwj
  all_goals try have hxt := hxb.2
  all_goals try unfold tOk at hxt
  all_goals have hwgb := hw.g
  all_goals have hwjb := hw.j
  all_goals ((try simp only [decide_eq_true_eq, decide_eq_false_iff_not, cond_true, cond_false, beq_iff_eq, beq_eq_false_iff_ne, bne_iff_ne, bne_eq_false_iff_eq, ne_eq, Bool.not_eq_true', Bool.not_eq_false', Bool.not_eq_eq_eq_not, Bool.not_true, Bool.not_false, sLe_eq, Bool.and_eq_true, Bool.and_eq_false_iff, List.length_map, List.length_set, List.length_append, List.length_take, List.length_drop, List.length_replicate, List.length_cons, List.length_nil, lenMax, capMax, Int.toNat_natCast, gt_iff_lt, ge_iff_le] at *); (try simp (disch := omega) only [wr, wru, shr1, Int.tdiv_eq_ediv_of_nonneg] at *))
  all_goals try (have hxw1 : IntKind.wrap .i64 (x.g + n) = x.g + n := wr (by omega) (by omega)
                 have hxw2 : IntKind.wrap .i64 (x.j + n) = x.j + n := wr (by omega) (by omega)
                 simp only [hxw1, hxw2] at *)
  all_goals first
    | (exfalso; omega)
    | (exfalso; simp_all; done)
    | (refine ⟨(0, 0, []), [0, 1, 2, 3], ⟨by simp, by simp, by simp, rfl⟩, ⟨by decide, rfl, ?_, ?_, rfl⟩⟩
       · (repeat' first | exact trivial | rfl | apply And.intro | (refine leInt rfl ?_; first | omega | (dsimp only; omega)) | (refine leArr rfl ?_ rfl; (simp; try omega)) | (refine leBool rfl ?_; assumption))
         done
       · refine ⟨⟨rfl, rfl, rfl⟩, obLe_v rfl, ⟨rfl, ?_, rfl⟩, obLe_v rfl, trivial⟩
         rw [wr (by have := hw.g; have := hw.j; omega) (by have := hw.g; have := hw.j; omega)]; rfl)
    | (have hii' : i = w.l.length := by omega
       have hkk' : k = l.length := by omega
       rw [hii', hkk', List.drop_length, List.drop_length] at q4
       rw [show mrg true n [] [] = [] by rw [mrg], List.append_nil] at q4
       rw [q4]
       refine ⟨_, ?_, rfl⟩
       exact ⟨rfl, rfl, DV_arr rfl (by simp), trivial⟩)
    | (have hm := mrg_a (junk := true) (n := n) (l := l) (k := k) hx (by first | exact .inl (by omega) | exact .inr ⟨s, hs, h1⟩)
       rw [keep_n (by first | (simp only [upT, if_true, Bool.false_eq_true, if_false]; omega) | omega)] at hm
       refine ⟨(i + 1, k, out ++ [x]), [0, 1, 2, 6], ⟨by dsimp only; omega, by dsimp only; omega, by simp; omega, by rw [q4, hm]; simp⟩, ⟨⟨by decide, rfl, ?_, ?_, rfl⟩, by dsimp only; omega⟩⟩
       · try dsimp only
         (repeat' first | exact trivial | apply And.intro | (refine leInt rfl ?_; first | omega | (dsimp only; omega)) | rfl | (refine leArr rfl ?_ rfl; (simp; try omega)) | (refine leBool rfl ?_; assumption))
         done
       · refine ⟨obLe_v rfl, obLe_v rfl, ⟨rfl, ?_, rfl⟩, obLe_v ?_, trivial⟩
         · simp [renDs, renD]
         · simp [vrows, Tk.row, upT, List.take_of_length_le]; try (first | rfl | omega | (refine ⟨?_, ?_⟩ <;> first | rfl | omega)))
    | (have hm := mrg_a (junk := true) (n := n) (l := l) (k := k) hx (by first | exact .inl (by omega) | exact .inr ⟨s, hs, h1⟩)
       rw [keep_z (by first | (simp only [upT, if_true, Bool.false_eq_true, if_false]; omega) | omega)] at hm
       refine ⟨(i + 1, k, out), [0, 1, 2, 3], ⟨by dsimp only; omega, by dsimp only; omega, by dsimp only; omega, by rw [q4, hm]; simp⟩, ⟨⟨by decide, rfl, ?_, ?_, rfl⟩, by dsimp only; omega⟩⟩
       · try dsimp only
         (repeat' first | exact trivial | apply And.intro | (refine leInt rfl ?_; first | omega | (dsimp only; omega)) | rfl | (refine leArr rfl ?_ rfl; (simp; try omega)) | (refine leBool rfl ?_; assumption))
         done
       · refine ⟨obLe_v rfl, obLe_v rfl, ⟨rfl, rfl, rfl⟩, obLe_v rfl, trivial⟩)
    | (have hm := mrg_b (junk := true) (n := n) (W := w.l) (i := i) hs (by first | exact .inl (by omega) | exact .inr ⟨x, hx, h2⟩)
       rw [keep_n (by first | (simp only [upT, if_true, Bool.false_eq_true, if_false]; omega) | omega)] at hm
       refine ⟨(i, k + 1, out ++ [upT true n ⟨s, 0, 0⟩]), [0, 1, 2, 6], ⟨by dsimp only; omega, by dsimp only; omega, by simp; omega, by rw [q4, hm]; simp⟩, ⟨⟨by decide, rfl, ?_, ?_, rfl⟩, by dsimp only; omega⟩⟩
       · try dsimp only
         (repeat' first | exact trivial | apply And.intro | (refine leInt rfl ?_; first | omega | (dsimp only; omega)) | rfl | (refine leArr rfl ?_ rfl; (simp; try omega)) | (refine leBool rfl ?_; assumption))
         done
       · refine ⟨obLe_v rfl, obLe_v rfl, ⟨rfl, ?_, rfl⟩, obLe_v ?_, trivial⟩
         · simp [renDs, renD]
         · simp [vrows, Tk.row, upT, List.take_of_length_le]; try (first | rfl | omega | (refine ⟨?_, ?_⟩ <;> first | rfl | omega)))
    | (have hm := mrg_b (junk := true) (n := n) (W := w.l) (i := i) hs (by first | exact .inl (by omega) | exact .inr ⟨x, hx, h2⟩)
       rw [keep_z (by first | (simp only [upT, if_true, Bool.false_eq_true, if_false]; omega) | omega)] at hm
       refine ⟨(i, k + 1, out), [0, 1, 2, 3], ⟨by dsimp only; omega, by dsimp only; omega, by dsimp only; omega, by rw [q4, hm]; simp⟩, ⟨⟨by decide, rfl, ?_, ?_, rfl⟩, by dsimp only; omega⟩⟩
       · try dsimp only
         (repeat' first | exact trivial | apply And.intro | (refine leInt rfl ?_; first | omega | (dsimp only; omega)) | rfl | (refine leArr rfl ?_ rfl; (simp; try omega)) | (refine leBool rfl ?_; assumption))
         done
       · refine ⟨obLe_v rfl, obLe_v rfl, ⟨rfl, rfl, rfl⟩, obLe_v rfl, trivial⟩)
    | (have hm := mrg_c (junk := true) (n := n) hx hs h1 h2
       rw [keep_n (by first | (simp only [upT, if_true, Bool.false_eq_true, if_false]; omega) | omega)] at hm
       refine ⟨(i + 1, k + 1, out ++ [upT true n x]), [0, 1, 2, 6], ⟨by dsimp only; omega, by dsimp only; omega, by simp; omega, by rw [q4, hm]; simp⟩, ⟨⟨by decide, rfl, ?_, ?_, rfl⟩, by dsimp only; omega⟩⟩
       · try dsimp only
         (repeat' first | exact trivial | apply And.intro | (refine leInt rfl ?_; first | omega | (dsimp only; omega)) | rfl | (refine leArr rfl ?_ rfl; (simp; try omega)) | (refine leBool rfl ?_; assumption))
         done
       · refine ⟨obLe_v rfl, obLe_v rfl, ⟨rfl, ?_, rfl⟩, obLe_v ?_, trivial⟩
         · simp [renDs, renD]
         · simp [vrows, Tk.row, upT, List.take_of_length_le]; try (first | rfl | omega | (refine ⟨?_, ?_⟩ <;> first | rfl | omega)))
    | (have hm := mrg_c (junk := true) (n := n) hx hs h1 h2
       rw [keep_z (by first | (simp only [upT, if_true, Bool.false_eq_true, if_false]; omega) | omega)] at hm
       refine ⟨(i + 1, k + 1, out), [0, 1, 2, 3], ⟨by dsimp only; omega, by dsimp only; omega, by dsimp only; omega, by rw [q4, hm]; simp⟩, ⟨⟨by decide, rfl, ?_, ?_, rfl⟩, by dsimp only; omega⟩⟩
       · try dsimp only
         (repeat' first | exact trivial | apply And.intro | (refine leInt rfl ?_; first | omega | (dsimp only; omega)) | rfl | (refine leArr rfl ?_ rfl; (simp; try omega)) | (refine leBool rfl ?_; assumption))
         done
       · refine ⟨obLe_v rfl, obLe_v rfl, ⟨rfl, rfl, rfl⟩, obLe_v rfl, trivial⟩)
    | skip
  · refine ⟨(0, 0, []), [0, 1, 2, 3], ⟨by simp, by simp, by simp, rfl⟩, ⟨by decide, rfl, ?_, ?_, rfl⟩⟩
    · (repeat' first | exact trivial | rfl | apply And.intro | (refine leInt rfl ?_; first | omega | (dsimp only; omega)) | (refine leArr rfl ?_ rfl; (simp; try omega)) | (refine leBool rfl ?_; assumption))
      done
    · refine ⟨⟨rfl, rfl, rfl⟩, obLe_v rfl, ⟨rfl, ?_, rfl⟩, obLe_v rfl, trivial⟩
      simp [renDs, renD, upW]
      try rw [wr (by have := hw.g; have := hw.j; omega) (by have := hw.g; have := hw.j; omega)]
  all_goals trace_state
theorem c_Changed_false (w : Wd) (z : Bool) (l : List ByteArray) (n : Int) (hn : -1 ≤ n ∧ n ≤ 1) (hn0 : n ≠ 0) (hw : okW w) (hll : l.length ≤ 1000) : CallV tab 58 [.agg w.row, strs z l, .bool false, .int .i64 n] (· = .agg [.int .i64 (upW w false n).g, .int .i64 (upW w false n).j, .sl 3 false ((mrg false n w.l l).map Tk.row)]) := by
  have hwr : ∀ a : Int, 0 ≤ a → a ≤ 1100000 → IntKind.i64.wrap (a + n) = a + n := fun a _ _ => wr (by omega) (by omega)
  have hwg := hwr w.g hw.g.1 (by have := hw.g; omega)
  have hwj := hwr w.j hw.j.1 (by have := hw.j; omega)
  have hwl := hw.l
  refine callV_of Try.func58 rfl (Nat.le_of_ble_eq_true rfl) (by kernel_rfl) ?_
  repeat' first
    | (apply Br.id; first
      | (apply Br.tt; try conv => whnf)
      | (apply Br.ff; try conv => whnf)
      | (refine Br.of_t (by assumption) ?_; conv => whnf)
      | (refine Br.of_f (by assumption) ?_; conv => whnf)
      | (refine Br.mk (fun _ => ?_) (fun _ => ?_) <;> try conv => whnf))
    | (apply CallOp.id; first
      | (refine call_at rfl rfl rfl rfl rfl ?_)
      | (refine call_rd rfl rfl rfl rfl rfl ?_)
      | (refine CallOp.std ?_; (conv => whnf); fail_if_success refine (?_ : False)))
    | (apply CallDet.id; first
      | (refine call_atD rfl rfl rfl rfl rfl ?_)
      | (refine call_rdD rfl rfl rfl rfl rfl ?_)
      | (refine CallDet.std ?_; (conv => whnf); fail_if_success refine (?_ : False)))
    | (refine EndOk.mk (by kernel_rfl) ?_; conv => whnf)
    | (refine And.intro (by (first | decide | exact trivial | omega | exact Nat.le_refl _ | (((try simp only [decide_eq_true_eq, decide_eq_false_iff_not, cond_true, cond_false, beq_iff_eq, beq_eq_false_iff_ne, bne_iff_ne, bne_eq_false_iff_eq, ne_eq, Bool.not_eq_true', Bool.not_eq_false', Bool.not_eq_eq_eq_not, Bool.not_true, Bool.not_false, sLe_eq, Bool.and_eq_true, Bool.and_eq_false_iff, List.length_map, List.length_set, List.length_append, List.length_take, List.length_drop, List.length_replicate, List.length_cons, List.length_nil, lenMax, capMax, Int.toNat_natCast, gt_iff_lt, ge_iff_le] at *); (try simp (disch := omega) only [wr, wru, shr1, Int.tdiv_eq_ediv_of_nonneg] at *)); omega) | (((try simp only [decide_eq_true_eq, decide_eq_false_iff_not, cond_true, cond_false, beq_iff_eq, beq_eq_false_iff_ne, bne_iff_ne, bne_eq_false_iff_eq, ne_eq, Bool.not_eq_true', Bool.not_eq_false', Bool.not_eq_eq_eq_not, Bool.not_true, Bool.not_false, sLe_eq, Bool.and_eq_true, Bool.and_eq_false_iff, List.length_map, List.length_set, List.length_append, List.length_take, List.length_drop, List.length_replicate, List.length_cons, List.length_nil, lenMax, capMax, Int.toNat_natCast, gt_iff_lt, ge_iff_le] at *); (try simp (disch := omega) only [wr, wru, shr1, Int.tdiv_eq_ediv_of_nonneg] at *)); assumption))) ?_; conv => whnf)
    | (refine idxOld (by assumption) ?_; conv => whnf)
    | (refine idxMap (by (first | decide | exact trivial | omega | exact Nat.le_refl _ | (((try simp only [decide_eq_true_eq, decide_eq_false_iff_not, cond_true, cond_false, beq_iff_eq, beq_eq_false_iff_ne, bne_iff_ne, bne_eq_false_iff_eq, ne_eq, Bool.not_eq_true', Bool.not_eq_false', Bool.not_eq_eq_eq_not, Bool.not_true, Bool.not_false, sLe_eq, Bool.and_eq_true, Bool.and_eq_false_iff, List.length_map, List.length_set, List.length_append, List.length_take, List.length_drop, List.length_replicate, List.length_cons, List.length_nil, lenMax, capMax, Int.toNat_natCast, gt_iff_lt, ge_iff_le] at *); (try simp (disch := omega) only [wr, wru, shr1, Int.tdiv_eq_ediv_of_nonneg] at *)); omega) | (((try simp only [decide_eq_true_eq, decide_eq_false_iff_not, cond_true, cond_false, beq_iff_eq, beq_eq_false_iff_ne, bne_iff_ne, bne_eq_false_iff_eq, ne_eq, Bool.not_eq_true', Bool.not_eq_false', Bool.not_eq_eq_eq_not, Bool.not_true, Bool.not_false, sLe_eq, Bool.and_eq_true, Bool.and_eq_false_iff, List.length_map, List.length_set, List.length_append, List.length_take, List.length_drop, List.length_replicate, List.length_cons, List.length_nil, lenMax, capMax, Int.toNat_natCast, gt_iff_lt, ge_iff_le] at *); (try simp (disch := omega) only [wr, wru, shr1, Int.tdiv_eq_ediv_of_nonneg] at *)); assumption))) (fun _ _ => ?_); conv => whnf)
    | refine Exists.intro _ (And.intro (DV_toV rfl) ?_)
    | (refine rowSet (by (first | decide | exact trivial | omega | exact Nat.le_refl _ | (((try simp only [decide_eq_true_eq, decide_eq_false_iff_not, cond_true, cond_false, beq_iff_eq, beq_eq_false_iff_ne, bne_iff_ne, bne_eq_false_iff_eq, ne_eq, Bool.not_eq_true', Bool.not_eq_false', Bool.not_eq_eq_eq_not, Bool.not_true, Bool.not_false, sLe_eq, Bool.and_eq_true, Bool.and_eq_false_iff, List.length_map, List.length_set, List.length_append, List.length_take, List.length_drop, List.length_replicate, List.length_cons, List.length_nil, lenMax, capMax, Int.toNat_natCast, gt_iff_lt, ge_iff_le] at *); (try simp (disch := omega) only [wr, wru, shr1, Int.tdiv_eq_ediv_of_nonneg] at *)); omega) | (((try simp only [decide_eq_true_eq, decide_eq_false_iff_not, cond_true, cond_false, beq_iff_eq, beq_eq_false_iff_ne, bne_iff_ne, bne_eq_false_iff_eq, ne_eq, Bool.not_eq_true', Bool.not_eq_false', Bool.not_eq_eq_eq_not, Bool.not_true, Bool.not_false, sLe_eq, Bool.and_eq_true, Bool.and_eq_false_iff, List.length_map, List.length_set, List.length_append, List.length_take, List.length_drop, List.length_replicate, List.length_cons, List.length_nil, lenMax, capMax, Int.toNat_natCast, gt_iff_lt, ge_iff_le] at *); (try simp (disch := omega) only [wr, wru, shr1, Int.tdiv_eq_ediv_of_nonneg] at *)); assumption))) ?_; conv => whnf)
    | (refine rowOld (by assumption) ?_; conv => whnf)
    | (refine rowNew (by (first | decide | exact trivial | omega | exact Nat.le_refl _ | (((try simp only [decide_eq_true_eq, decide_eq_false_iff_not, cond_true, cond_false, beq_iff_eq, beq_eq_false_iff_ne, bne_iff_ne, bne_eq_false_iff_eq, ne_eq, Bool.not_eq_true', Bool.not_eq_false', Bool.not_eq_eq_eq_not, Bool.not_true, Bool.not_false, sLe_eq, Bool.and_eq_true, Bool.and_eq_false_iff, List.length_map, List.length_set, List.length_append, List.length_take, List.length_drop, List.length_replicate, List.length_cons, List.length_nil, lenMax, capMax, Int.toNat_natCast, gt_iff_lt, ge_iff_le] at *); (try simp (disch := omega) only [wr, wru, shr1, Int.tdiv_eq_ediv_of_nonneg] at *)); omega) | (((try simp only [decide_eq_true_eq, decide_eq_false_iff_not, cond_true, cond_false, beq_iff_eq, beq_eq_false_iff_ne, bne_iff_ne, bne_eq_false_iff_eq, ne_eq, Bool.not_eq_true', Bool.not_eq_false', Bool.not_eq_eq_eq_not, Bool.not_true, Bool.not_false, sLe_eq, Bool.and_eq_true, Bool.and_eq_false_iff, List.length_map, List.length_set, List.length_append, List.length_take, List.length_drop, List.length_replicate, List.length_cons, List.length_nil, lenMax, capMax, Int.toNat_natCast, gt_iff_lt, ge_iff_le] at *); (try simp (disch := omega) only [wr, wru, shr1, Int.tdiv_eq_ediv_of_nonneg] at *)); assumption))) (fun _ _ => ?_); conv => whnf)
    | (apply WpD.id; first
      | (refine WpD.nilH 2 0 2 3 3 rfl rfl rfl rfl rfl rfl rfl ?_; refine WpD.loopAt 30 rfl (chS w z l false n) (chP w l false n) (fun q => (w.l.length - q.1) + (l.length - q.2.1)) ?_ (fun ⟨i, k, out⟩ hq => ?_); rotate_left; obtain ⟨q1, q2, q3, q4⟩ := hq; dsimp only at q1 q2 q3 q4; rcases Nat.lt_or_ge i w.l.length with hi | hi; (obtain ⟨x, hx⟩ : ∃ x, w.l[i]? = some x := ⟨_, List.getElem?_eq_getElem hi⟩); (have hxb := hw.t x (List.mem_of_getElem? hx)); (have di : decide ((i : Int) < (w.l.length : Int)) = true := by { simp; omega }); (have ei : ((i : Int) == (w.l.length : Int)) = false := by { simp; omega }); (have hx0 : w.l[((i : Nat) : Int).toNat]? = some x := hx); rcases Nat.lt_or_ge k l.length with hk | hk; (obtain ⟨s, hs⟩ : ∃ s, l[k]? = some s := ⟨_, List.getElem?_eq_getElem hk⟩); (have dk : decide ((k : Int) < (l.length : Int)) = true := by { simp; omega }); (have ek : ((k : Int) == (l.length : Int)) = false := by { simp; omega }); (have hs0 : l[((k : Nat) : Int).toNat]? = some s := hs); (rcases Bool.eq_false_or_eq_true (sLt x.s s) with h1 | h1); dsimp only [chS]; rotate_left; (rcases Bool.eq_false_or_eq_true (sLt s x.s) with h2 | h2); dsimp only [chS]; rotate_left; dsimp only [chS]; rotate_left; (have hkk : k = l.length := Nat.le_antisymm q2 hk); (have dk : decide ((k : Int) < (l.length : Int)) = false := by { simp; omega }); (have ek : ((k : Int) == (l.length : Int)) = true := by { simp; omega }); dsimp only [chS]; rotate_left; (have hii : i = w.l.length := Nat.le_antisymm q1 hi); (have di : decide ((i : Int) < (w.l.length : Int)) = false := by { simp; omega }); (have ei : ((i : Int) == (w.l.length : Int)) = true := by { simp; omega }); rcases Nat.lt_or_ge k l.length with hk | hk; (obtain ⟨s, hs⟩ : ∃ s, l[k]? = some s := ⟨_, List.getElem?_eq_getElem hk⟩); (have dk : decide ((k : Int) < (l.length : Int)) = true := by { simp; omega }); (have ek : ((k : Int) == (l.length : Int)) = false := by { simp; omega }); (have hs0 : l[((k : Nat) : Int).toNat]? = some s := hs); dsimp only [chS]; rotate_left; (have hkk : k = l.length := Nat.le_antisymm q2 hk); (have dk : decide ((k : Int) < (l.length : Int)) = false := by { simp; omega }); dsimp only [chS]; rotate_left)
      | (refine WpD.walk rfl ?_; conv => whnf))
  all_goals clear hwr hwg hwj
  all_goals try have hxt := hxb.2
  all_goals try unfold tOk at hxt
  all_goals have hwgb := hw.g
  all_goals have hwjb := hw.j
  all_goals ((try simp only [decide_eq_true_eq, decide_eq_false_iff_not, cond_true, cond_false, beq_iff_eq, beq_eq_false_iff_ne, bne_iff_ne, bne_eq_false_iff_eq, ne_eq, Bool.not_eq_true', Bool.not_eq_false', Bool.not_eq_eq_eq_not, Bool.not_true, Bool.not_false, sLe_eq, Bool.and_eq_true, Bool.and_eq_false_iff, List.length_map, List.length_set, List.length_append, List.length_take, List.length_drop, List.length_replicate, List.length_cons, List.length_nil, lenMax, capMax, Int.toNat_natCast, gt_iff_lt, ge_iff_le] at *); (try simp (disch := omega) only [wr, wru, shr1, Int.tdiv_eq_ediv_of_nonneg] at *))
  all_goals try (have hxw1 : IntKind.wrap .i64 (x.g + n) = x.g + n := wr (by omega) (by omega)
                 have hxw2 : IntKind.wrap .i64 (x.j + n) = x.j + n := wr (by omega) (by omega)
                 simp only [hxw1, hxw2] at *)
  all_goals first
    | (exfalso; omega)
    | (exfalso; simp_all; done)
    | (refine ⟨(0, 0, []), [0, 1, 2, 3], ⟨by simp, by simp, by simp, rfl⟩, ⟨by decide, rfl, ?_, ?_, rfl⟩⟩
       · (repeat' first | exact trivial | rfl | apply And.intro | (refine leInt rfl ?_; first | omega | (dsimp only; omega)) | (refine leArr rfl ?_ rfl; (simp; try omega)) | (refine leBool rfl ?_; assumption))
         done
       · refine ⟨⟨rfl, rfl, rfl⟩, obLe_v rfl, ⟨rfl, ?_, rfl⟩, obLe_v rfl, trivial⟩
         rw [wr (by have := hw.g; have := hw.j; omega) (by have := hw.g; have := hw.j; omega)]; rfl)
    | (have hii' : i = w.l.length := by omega
       have hkk' : k = l.length := by omega
       rw [hii', hkk', List.drop_length, List.drop_length] at q4
       rw [show mrg false n [] [] = [] by rw [mrg], List.append_nil] at q4
       rw [q4]
       refine ⟨_, ?_, rfl⟩
       exact ⟨rfl, rfl, DV_arr rfl (by simp), trivial⟩)
    | (have hm := mrg_a (junk := false) (n := n) (l := l) (k := k) hx (by first | exact .inl (by omega) | exact .inr ⟨s, hs, h1⟩)
       rw [keep_n (by first | (simp only [upT, if_true, Bool.false_eq_true, if_false]; omega) | omega)] at hm
       refine ⟨(i + 1, k, out ++ [x]), [0, 1, 2, 6], ⟨by dsimp only; omega, by dsimp only; omega, by simp; omega, by rw [q4, hm]; simp⟩, ⟨⟨by decide, rfl, ?_, ?_, rfl⟩, by dsimp only; omega⟩⟩
       · try dsimp only
         (repeat' first | exact trivial | apply And.intro | (refine leInt rfl ?_; first | omega | (dsimp only; omega)) | rfl | (refine leArr rfl ?_ rfl; (simp; try omega)) | (refine leBool rfl ?_; assumption))
         done
       · refine ⟨obLe_v rfl, obLe_v rfl, ⟨rfl, ?_, rfl⟩, obLe_v ?_, trivial⟩
         · simp [renDs, renD]
         · simp [vrows, Tk.row, upT, List.take_of_length_le]; try (first | rfl | omega | (refine ⟨?_, ?_⟩ <;> first | rfl | omega)))
    | (have hm := mrg_a (junk := false) (n := n) (l := l) (k := k) hx (by first | exact .inl (by omega) | exact .inr ⟨s, hs, h1⟩)
       rw [keep_z (by first | (simp only [upT, if_true, Bool.false_eq_true, if_false]; omega) | omega)] at hm
       refine ⟨(i + 1, k, out), [0, 1, 2, 3], ⟨by dsimp only; omega, by dsimp only; omega, by dsimp only; omega, by rw [q4, hm]; simp⟩, ⟨⟨by decide, rfl, ?_, ?_, rfl⟩, by dsimp only; omega⟩⟩
       · try dsimp only
         (repeat' first | exact trivial | apply And.intro | (refine leInt rfl ?_; first | omega | (dsimp only; omega)) | rfl | (refine leArr rfl ?_ rfl; (simp; try omega)) | (refine leBool rfl ?_; assumption))
         done
       · refine ⟨obLe_v rfl, obLe_v rfl, ⟨rfl, rfl, rfl⟩, obLe_v rfl, trivial⟩)
    | (have hm := mrg_b (junk := false) (n := n) (W := w.l) (i := i) hs (by first | exact .inl (by omega) | exact .inr ⟨x, hx, h2⟩)
       rw [keep_n (by first | (simp only [upT, if_true, Bool.false_eq_true, if_false]; omega) | omega)] at hm
       refine ⟨(i, k + 1, out ++ [upT false n ⟨s, 0, 0⟩]), [0, 1, 2, 6], ⟨by dsimp only; omega, by dsimp only; omega, by simp; omega, by rw [q4, hm]; simp⟩, ⟨⟨by decide, rfl, ?_, ?_, rfl⟩, by dsimp only; omega⟩⟩
       · try dsimp only
         (repeat' first | exact trivial | apply And.intro | (refine leInt rfl ?_; first | omega | (dsimp only; omega)) | rfl | (refine leArr rfl ?_ rfl; (simp; try omega)) | (refine leBool rfl ?_; assumption))
         done
       · refine ⟨obLe_v rfl, obLe_v rfl, ⟨rfl, ?_, rfl⟩, obLe_v ?_, trivial⟩
         · simp [renDs, renD]
         · simp [vrows, Tk.row, upT, List.take_of_length_le]; try (first | rfl | omega | (refine ⟨?_, ?_⟩ <;> first | rfl | omega)))
    | (have hm := mrg_b (junk := false) (n := n) (W := w.l) (i := i) hs (by first | exact .inl (by omega) | exact .inr ⟨x, hx, h2⟩)
       rw [keep_z (by first | (simp only [upT, if_true, Bool.false_eq_true, if_false]; omega) | omega)] at hm
       refine ⟨(i, k + 1, out), [0, 1, 2, 3], ⟨by dsimp only; omega, by dsimp only; omega, by dsimp only; omega, by rw [q4, hm]; simp⟩, ⟨⟨by decide, rfl, ?_, ?_, rfl⟩, by dsimp only; omega⟩⟩
       · try dsimp only
         (repeat' first | exact trivial | apply And.intro | (refine leInt rfl ?_; first | omega | (dsimp only; omega)) | rfl | (refine leArr rfl ?_ rfl; (simp; try omega)) | (refine leBool rfl ?_; assumption))
         done
       · refine ⟨obLe_v rfl, obLe_v rfl, ⟨rfl, rfl, rfl⟩, obLe_v rfl, trivial⟩)
    | (have hm := mrg_c (junk := false) (n := n) hx hs h1 h2
       rw [keep_n (by first | (simp only [upT, if_true, Bool.false_eq_true, if_false]; omega) | omega)] at hm
       refine ⟨(i + 1, k + 1, out ++ [upT false n x]), [0, 1, 2, 6], ⟨by dsimp only; omega, by dsimp only; omega, by simp; omega, by rw [q4, hm]; simp⟩, ⟨⟨by decide, rfl, ?_, ?_, rfl⟩, by dsimp only; omega⟩⟩
       · try dsimp only
         (repeat' first | exact trivial | apply And.intro | (refine leInt rfl ?_; first | omega | (dsimp only; omega)) | rfl | (refine leArr rfl ?_ rfl; (simp; try omega)) | (refine leBool rfl ?_; assumption))
         done
       · refine ⟨obLe_v rfl, obLe_v rfl, ⟨rfl, ?_, rfl⟩, obLe_v ?_, trivial⟩
         · simp [renDs, renD]
         · simp [vrows, Tk.row, upT, List.take_of_length_le]; try (first | rfl | omega | (refine ⟨?_, ?_⟩ <;> first | rfl | omega)))
    | (have hm := mrg_c (junk := false) (n := n) hx hs h1 h2
       rw [keep_z (by first | (simp only [upT, if_true, Bool.false_eq_true, if_false]; omega) | omega)] at hm
       refine ⟨(i + 1, k + 1, out), [0, 1, 2, 3], ⟨by dsimp only; omega, by dsimp only; omega, by dsimp only; omega, by rw [q4, hm]; simp⟩, ⟨⟨by decide, rfl, ?_, ?_, rfl⟩, by dsimp only; omega⟩⟩
       · try dsimp only
         (repeat' first | exact trivial | apply And.intro | (refine leInt rfl ?_; first | omega | (dsimp only; omega)) | rfl | (refine leArr rfl ?_ rfl; (simp; try omega)) | (refine leBool rfl ?_; assumption))
         done
       · refine ⟨obLe_v rfl, obLe_v rfl, ⟨rfl, rfl, rfl⟩, obLe_v rfl, trivial⟩)
    | skip
  · refine ⟨(0, 0, []), [0, 1, 2, 3], ⟨by simp, by simp, by simp, rfl⟩, ⟨by decide, rfl, ?_, ?_, rfl⟩⟩
    · (repeat' first | exact trivial | rfl | apply And.intro | (refine leInt rfl ?_; first | omega | (dsimp only; omega)) | (refine leArr rfl ?_ rfl; (simp; try omega)) | (refine leBool rfl ?_; assumption))
      done
    · refine ⟨⟨rfl, rfl, rfl⟩, obLe_v rfl, ⟨rfl, ?_, rfl⟩, obLe_v rfl, trivial⟩
      simp [renDs, renD, upW]
      try rw [wr (by have := hw.g; have := hw.j; omega) (by have := hw.g; have := hw.j; omega)]
  all_goals trace_state
end Go.DL
