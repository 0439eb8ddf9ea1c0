import Derived.Test.YtdadnjhfennenaaB7
import Derived.Test.YtdadnjhfennenaaB8
set_option linter.unusedVariables false
set_option linter.unusedSimpArgs false
set_option maxHeartbeats 4000000
namespace Go.DL
open Go.Proofs

theorem c_Insert' (l : List Sd) (x : Sd) (i : Nat) (hi : i ≤ l.length) (hl : l.length ≤ 1000000) : CallE tab 38 [.arr 0 0 (l.map Sd.row).length, .v (.int .i64 i), .arr 1 0 1] [.arr 4 (l.map Sd.drow), .arr 4 [x.drow]] 4 (· = (l.take i ++ x :: l.drop i).map Sd.row) := by
  rw [List.length_map]; exact c_Insert l x i hi hl
theorem ren_v (th : List Nat) : ∀ r : List V, renDs (th.getD · 0) (r.map D.v) = r.map D.v
  | [] => rfl
  | x :: r => by simp only [List.map_cons, renDs, renD, ren_v th r]
theorem refs_v (n : Nat) : ∀ r : List V, refsLts n (r.map D.v) = true
  | [] => rfl
  | x :: r => by simp only [List.map_cons, refsLts, refsLt, refs_v n r, Bool.and_self]
theorem ob_rows (th : List Nat) (sz : Nat) (l : List Sd) : obLe th (.arr sz ((l.map Sd.row).map fun r => r.map D.v)) (.arr sz (l.map Sd.drow)) := by
  refine ⟨rfl, ?_, ?_⟩
  · rw [drows, List.map_map]
    apply List.map_congr_left
    intro x _
    simp only [Function.comp, Sd.drow, ren_v]
  · rw [List.all_eq_true]
    intro r hr
    obtain ⟨x, _, rfl⟩ := List.mem_map.1 hr
    exact refs_v _ _
/-- A message of weight 1000. -/
def bump (junk : Bool) (x : Sd) : Sd := if junk then { x with b := min (x.b + 1000) 1000000 } else { x with g := min (x.g + 1000) 1000000 }
def decd (x : Sd) (now : Int) : Sd := ⟨x.n, lv x.g (dayOf now - x.d), lv x.b (dayOf now - x.d), dayOf now⟩
def fresh (l : List Sd) (s : ByteArray) (now : Int) : List Sd := if hasF s l then l else l.take (posF s l) ++ ⟨s, 0, 0, dayOf now⟩ :: l.drop (posF s l)
def noted (l : List Sd) (s : ByteArray) (junk : Bool) (now : Int) : List Sd := match (fresh l s now)[posF s l]? with | some x => (fresh l s now).set (posF s l) (bump junk (decd x now)) | none => []
def nFault (l : List Sd) (s : ByteArray) (now : Int) : Int × Int := if aFault l s now ≠ (0, 0) then aFault l s now else if hasF s l = false ∧ l.length = 300 then (2, -1) else (0, 0)
theorem c_Note_has (z : Bool) (l : List Sd) (s : ByteArray) (junk : Bool) (now : Int) (ha : aFault l s now = (0, 0)) (hh : hasF s l = true) : CallV tab 13 [sds z l, .str s, .bool junk, .int .i64 now] (· = .tup [sds false (noted l s junk now), fv (0, 0)]) := by
  obtain ⟨hc, _⟩ := aF_ok ha
  obtain ⟨hs, _, hi⟩ := cF_ok hc
  obtain ⟨hl, _, hso⟩ := sf_ok hs
  have hl' : l.length ≤ 1000000 := by omega
  have hlt := has_lt hh
  obtain ⟨x, hx⟩ : ∃ x, l[posF s l]? = some x := ⟨l[posF s l]'(by simpa using hlt), by simp at hlt; simp [hlt]⟩
  obtain ⟨t1, t2, t3, t4, t5⟩ := there ha hh hx
  have b1 := lv_le (n := x.g) (d := dayOf now - x.d) t1.1
  have b2 := lv_le (n := x.b) (d := dayOf now - x.d) t1.2.2.1
  have b3 := t1.2.1
  have b4 := t1.2.2.2.1
  have hck := c_check_ok z hc
  rw [hh, ha] at hck
  have hcl := c_Clone z l hl'
  have hix : (List.map (fun r => List.map D.v r) (List.map Sd.row l))[0 + ((posF s l : Nat) : Int).toNat]? = some (x.row.map D.v) := by rw [Nat.zero_add, Int.toNat_natCast, List.getElem?_map, List.getElem?_map, hx]; rfl
  refine callV_of Try.func13 rfl (Nat.le_of_ble_eq_true rfl) (by kernel_rfl) ?_
  repeat' first
    | (refine call_pure1 (hck) rfl rfl rfl rfl rfl ?_; conv => whnf)
    | (refine call_pureD (hck) rfl rfl rfl rfl rfl ?_; conv => whnf)
    | (refine call_purePD (c_day _) rfl rfl rfl rfl rfl (by unfold instOk at t2; omega) ?_; conv => whnf)
    | (refine call_pure1 (c_dec t1 t3 t5) rfl rfl rfl rfl rfl ?_; conv => whnf)
    | (refine call_pureD (c_dec t1 t3 t5) rfl rfl rfl rfl rfl ?_; conv => whnf)
    | (refine call_eat [] hcl rfl rfl rfl rfl rfl rfl List.nodup_nil rfl (by simp) (fun i p h => by simp at h) (fun xs hxs => ?_); subst hxs; conv => whnf)
    | (refine idxMap (by (first | decide | exact trivial | omega | exact Nat.le_refl _ | (((try simp only [decide_eq_true_eq, decide_eq_false_iff_not, cond_true, cond_false, beq_iff_eq, beq_eq_false_iff_ne, bne_iff_ne, bne_eq_false_iff_eq, ne_eq, Bool.not_eq_true', Bool.not_eq_false', Bool.not_eq_eq_eq_not, Bool.not_true, Bool.not_false, sLe_eq, Bool.and_eq_true, Bool.and_eq_false_iff, List.length_map, List.length_append, List.length_take, List.length_drop, List.length_replicate, List.length_cons, List.length_nil, lenMax, capMax, Int.toNat_natCast, gt_iff_lt, ge_iff_le] at *); (try simp (disch := omega) only [wr, wru, shr1, Int.tdiv_eq_ediv_of_nonneg] at *)); omega) | (((try simp only [decide_eq_true_eq, decide_eq_false_iff_not, cond_true, cond_false, beq_iff_eq, beq_eq_false_iff_ne, bne_iff_ne, bne_eq_false_iff_eq, ne_eq, Bool.not_eq_true', Bool.not_eq_false', Bool.not_eq_eq_eq_not, Bool.not_true, Bool.not_false, sLe_eq, Bool.and_eq_true, Bool.and_eq_false_iff, List.length_map, List.length_append, List.length_take, List.length_drop, List.length_replicate, List.length_cons, List.length_nil, lenMax, capMax, Int.toNat_natCast, gt_iff_lt, ge_iff_le] at *); (try simp (disch := omega) only [wr, wru, shr1, Int.tdiv_eq_ediv_of_nonneg] at *)); assumption))) (fun _ _ => ?_); conv => whnf)
    | refine WpD.seq ?_
    | (refine WpD.region ?_; conv => whnf)
    | (refine WpD.draw ?_; conv => whnf)
    | (refine EndOk.mk (by kernel_rfl) ?_; conv => whnf)
    | refine WpD.block ?_
    | (refine WpD.exit ?_; conv => whnf)
    | (refine WpD.skip ?_; conv => whnf)
    | (refine WpD.ret ?_; conv => whnf)
    | refine WpD.cond rfl ?_
    | (refine Br.tt ?_; try conv => whnf)
    | (refine Br.ff ?_; try conv => whnf)
    | (refine Br.of_t (by assumption) ?_; conv => whnf)
    | (refine Br.of_f (by assumption) ?_; conv => whnf)
    | (refine Br.mk (fun _ => ?_) (fun _ => ?_) <;> try conv => whnf)
    | refine Exists.intro _ (And.intro (DV_toV rfl) ?_)
    | (refine CallOp.std ?_; (conv => whnf); fail_if_success refine (?_ : False))
    | (refine CallDet.std ?_; (conv => whnf); fail_if_success refine (?_ : False))
    | (refine And.intro (by (first | decide | exact trivial | omega | exact Nat.le_refl _ | (((try simp only [decide_eq_true_eq, decide_eq_false_iff_not, cond_true, cond_false, beq_iff_eq, beq_eq_false_iff_ne, bne_iff_ne, bne_eq_false_iff_eq, ne_eq, Bool.not_eq_true', Bool.not_eq_false', Bool.not_eq_eq_eq_not, Bool.not_true, Bool.not_false, sLe_eq, Bool.and_eq_true, Bool.and_eq_false_iff, List.length_map, List.length_append, List.length_take, List.length_drop, List.length_replicate, List.length_cons, List.length_nil, lenMax, capMax, Int.toNat_natCast, gt_iff_lt, ge_iff_le] at *); (try simp (disch := omega) only [wr, wru, shr1, Int.tdiv_eq_ediv_of_nonneg] at *)); omega) | (((try simp only [decide_eq_true_eq, decide_eq_false_iff_not, cond_true, cond_false, beq_iff_eq, beq_eq_false_iff_ne, bne_iff_ne, bne_eq_false_iff_eq, ne_eq, Bool.not_eq_true', Bool.not_eq_false', Bool.not_eq_eq_eq_not, Bool.not_true, Bool.not_false, sLe_eq, Bool.and_eq_true, Bool.and_eq_false_iff, List.length_map, List.length_append, List.length_take, List.length_drop, List.length_replicate, List.length_cons, List.length_nil, lenMax, capMax, Int.toNat_natCast, gt_iff_lt, ge_iff_le] at *); (try simp (disch := omega) only [wr, wru, shr1, Int.tdiv_eq_ediv_of_nonneg] at *)); assumption))) ?_; conv => whnf)
    | (rw [hix]; conv => whnf)
  all_goals
    have ef : fresh l s now = l := by unfold fresh; rw [hh]; rfl
    have e : noted l s junk now = l.set (posF s l) (bump junk (decd x now)) := by unfold noted; rw [ef, hx]
    refine ⟨_, ?_, rfl⟩
    refine ⟨⟨rfl, _, rfl, ?_, ?_⟩, ⟨rfl, rfl, trivial⟩, trivial⟩
  all_goals try (rw [e]; simp; done)
  all_goals
    rw [e, List.drop_zero, Nat.zero_add, Int.toNat_natCast, List.take_of_length_le (by simp), List.map_set, List.map_set]
    congr 1
  · have hj : junk = true := by assumption
    rw [wr (x := lv x.b _ + 1000) (by omega) (by omega), min_if, hj]; rfl
  · have hj : junk = false := by assumption
    rw [wr (x := lv x.g _ + 1000) (by omega) (by omega), min_if, hj]; rfl
theorem posF_le (s : ByteArray) (l : List Sd) : posF s l ≤ l.length := List.findIdx_le_length
theorem c_Note_new (z : Bool) (l : List Sd) (s : ByteArray) (junk : Bool) (now : Int) (ha : aFault l s now = (0, 0)) (hh : hasF s l = false) (hn : l.length ≠ 300) : CallV tab 13 [sds z l, .str s, .bool junk, .int .i64 now] (· = .tup [sds false (noted l s junk now), fv (0, 0)]) := by
  obtain ⟨hc, _⟩ := aF_ok ha
  obtain ⟨hs, _, hi⟩ := cF_ok hc
  obtain ⟨hl, _, hso⟩ := sf_ok hs
  have hl' : l.length ≤ 1000000 := by omega
  have t2 := hi
  unfold instOk at t2
  have hd : -795365 ≤ dayOf now ∧ dayOf now ≤ 795365 := by unfold dayOf; omega
  let x : Sd := ⟨s, 0, 0, dayOf now⟩
  let m : List Sd := l.take (posF s l) ++ x :: l.drop (posF s l)
  have hx : m[posF s l]? = some x := by
    have htk : (l.take (posF s l)).length = posF s l := by have := posF_le s l; simp; omega
    simp only [m]
    rw [List.getElem?_append_right (by omega), htk, Nat.sub_self]; rfl
  have hml : m.length = l.length + 1 := by
    have := posF_le s l
    simp only [m, List.length_append, List.length_take, List.length_cons, List.length_drop]; omega
  have hck := c_check_ok z hc
  rw [hh, ha] at hck
  have hcl := c_Clone z l hl'
  have hin := c_Insert' l x (posF s l) (posF_le s l) hl'
  have hnl : (((l.map Sd.row).length : Int) == 300) = false := by simp; omega
  have hnl' : ((l.length : Int) == 300) = false := by simp; omega
  have hix : (List.map (fun r => List.map D.v r) (List.map Sd.row m))[0 + ((posF s l : Nat) : Int).toNat]? = some (x.row.map D.v) := by rw [Nat.zero_add, Int.toNat_natCast, List.getElem?_map, List.getElem?_map, hx]; rfl
  have hdec : CallV tab 40 [.agg [.str s, .int .i64 0, .int .i64 0, .int .i64 (dayOf now)], .int .i64 (dayOf now)] (· = .agg [.str s, .int .i64 0, .int .i64 0, .int .i64 (dayOf now)]) := by
    have := c_dec (x := x) (now := now) (by unfold rOk; simp only [x]; omega) (Int.le_refl _) hd.2
    have l0 : ∀ d, lv 0 d = 0 := fun d => by simp [lv]
    simp only [x, l0] at this
    exact this
  have hlt : posF s l < m.length := by have := posF_le s l; omega
  have hob : ∀ H : Nat → Ob, H 2 = .arr 4 ((l.map Sd.row).map fun r => r.map .v) → H 3 = .arr 4 [x.drow] → ∀ (i p : Nat), [2, 3][i]? = some p → obLe [2, 3] (H p) (obAt [.arr 4 (l.map Sd.drow), .arr 4 [x.drow]] i) := by
    intro H h2 h3 i p h
    match i, h with
    | 0, h => simp at h; subst h; rw [h2]; exact ob_rows _ _ _
    | 1, h => simp at h; subst h; rw [h3]; exact ob_rows [2, 3] 4 [x]
    | i + 2, h => simp at h
  refine callV_of Try.func13 rfl (Nat.le_of_ble_eq_true rfl) (by kernel_rfl) ?_
  repeat' first
    | (refine call_pure1 (hck) rfl rfl rfl rfl rfl ?_; conv => whnf)
    | (refine call_pureD (hck) rfl rfl rfl rfl rfl ?_; conv => whnf)
    | (refine call_pure1 (c_day _ (by omega)) rfl rfl rfl rfl rfl ?_; conv => whnf)
    | (refine call_pureD (c_day _ (by omega)) rfl rfl rfl rfl rfl ?_; conv => whnf)
    | (refine call_pure1 (hdec) rfl rfl rfl rfl rfl ?_; conv => whnf)
    | (refine call_pureD (hdec) rfl rfl rfl rfl rfl ?_; conv => whnf)
    | (refine call_eat [] hcl rfl rfl rfl rfl rfl rfl List.nodup_nil rfl (by simp) (fun i p h => by simp at h) (fun xs hxs => ?_); subst hxs; conv => whnf)
    | (refine call_eat [2, 3] hin rfl rfl rfl rfl rfl rfl (by decide) rfl (show ¬ ((4 : Nat) ∈ [2, 3]) from by decide) (hob _ rfl rfl) (fun xs hxs => ?_); subst hxs; conv => whnf)
    | (refine idxMap (by (first | decide | exact trivial | omega | exact Nat.le_refl _ | (((try simp only [decide_eq_true_eq, decide_eq_false_iff_not, cond_true, cond_false, beq_iff_eq, beq_eq_false_iff_ne, bne_iff_ne, bne_eq_false_iff_eq, ne_eq, Bool.not_eq_true', Bool.not_eq_false', Bool.not_eq_eq_eq_not, Bool.not_true, Bool.not_false, sLe_eq, Bool.and_eq_true, Bool.and_eq_false_iff, List.length_map, List.length_append, List.length_take, List.length_drop, List.length_replicate, List.length_cons, List.length_nil, lenMax, capMax, Int.toNat_natCast, gt_iff_lt, ge_iff_le] at *); (try simp (disch := omega) only [wr, wru, shr1, Int.tdiv_eq_ediv_of_nonneg] at *)); omega) | (((try simp only [decide_eq_true_eq, decide_eq_false_iff_not, cond_true, cond_false, beq_iff_eq, beq_eq_false_iff_ne, bne_iff_ne, bne_eq_false_iff_eq, ne_eq, Bool.not_eq_true', Bool.not_eq_false', Bool.not_eq_eq_eq_not, Bool.not_true, Bool.not_false, sLe_eq, Bool.and_eq_true, Bool.and_eq_false_iff, List.length_map, List.length_append, List.length_take, List.length_drop, List.length_replicate, List.length_cons, List.length_nil, lenMax, capMax, Int.toNat_natCast, gt_iff_lt, ge_iff_le] at *); (try simp (disch := omega) only [wr, wru, shr1, Int.tdiv_eq_ediv_of_nonneg] at *)); assumption))) (fun _ _ => ?_); conv => whnf)
    | refine WpD.seq ?_
    | (refine WpD.region ?_; conv => whnf)
    | (refine WpD.draw ?_; conv => whnf)
    | (refine EndOk.mk (by kernel_rfl) ?_; conv => whnf)
    | refine WpD.block ?_
    | (refine WpD.exit ?_; conv => whnf)
    | (refine WpD.skip ?_; conv => whnf)
    | (refine WpD.ret ?_; conv => whnf)
    | refine WpD.cond rfl ?_
    | (refine Br.tt ?_; try conv => whnf)
    | (refine Br.ff ?_; try conv => whnf)
    | (refine Br.of_t (by assumption) ?_; conv => whnf)
    | (refine Br.of_f (by assumption) ?_; conv => whnf)
    | (refine Br.mk (fun _ => ?_) (fun _ => ?_) <;> try conv => whnf)
    | refine Exists.intro _ (And.intro (DV_toV rfl) ?_)
    | (refine CallOp.std ?_; (conv => whnf); fail_if_success refine (?_ : False))
    | (refine CallDet.std ?_; (conv => whnf); fail_if_success refine (?_ : False))
    | (refine And.intro (by (first | decide | exact trivial | omega | exact Nat.le_refl _ | (((try simp only [decide_eq_true_eq, decide_eq_false_iff_not, cond_true, cond_false, beq_iff_eq, beq_eq_false_iff_ne, bne_iff_ne, bne_eq_false_iff_eq, ne_eq, Bool.not_eq_true', Bool.not_eq_false', Bool.not_eq_eq_eq_not, Bool.not_true, Bool.not_false, sLe_eq, Bool.and_eq_true, Bool.and_eq_false_iff, List.length_map, List.length_append, List.length_take, List.length_drop, List.length_replicate, List.length_cons, List.length_nil, lenMax, capMax, Int.toNat_natCast, gt_iff_lt, ge_iff_le] at *); (try simp (disch := omega) only [wr, wru, shr1, Int.tdiv_eq_ediv_of_nonneg] at *)); omega) | (((try simp only [decide_eq_true_eq, decide_eq_false_iff_not, cond_true, cond_false, beq_iff_eq, beq_eq_false_iff_ne, bne_iff_ne, bne_eq_false_iff_eq, ne_eq, Bool.not_eq_true', Bool.not_eq_false', Bool.not_eq_eq_eq_not, Bool.not_true, Bool.not_false, sLe_eq, Bool.and_eq_true, Bool.and_eq_false_iff, List.length_map, List.length_append, List.length_take, List.length_drop, List.length_replicate, List.length_cons, List.length_nil, lenMax, capMax, Int.toNat_natCast, gt_iff_lt, ge_iff_le] at *); (try simp (disch := omega) only [wr, wru, shr1, Int.tdiv_eq_ediv_of_nonneg] at *)); assumption))) ?_; conv => whnf)
    | (rw [hix]; conv => whnf)
  all_goals
    have ef : fresh l s now = m := by unfold fresh; rw [hh]; rfl
    have l0 : ∀ d, lv 0 d = 0 := fun d => by simp [lv]
    have ed : decd x now = x := by simp only [decd, x, l0]
    have e : noted l s junk now = m.set (posF s l) (bump junk x) := by unfold noted; rw [ef, hx, ← ed]; simp only [ed]
    refine ⟨_, ?_, rfl⟩
    refine ⟨⟨rfl, _, rfl, ?_, ?_⟩, ⟨rfl, rfl, trivial⟩, trivial⟩
  all_goals try (rw [e]; simp [m]; done)
  all_goals
    rw [e, List.drop_zero, Nat.zero_add, Int.toNat_natCast, List.take_of_length_le (by simp [m]), List.map_set, List.map_set]
    congr 1
  · have hj : junk = true := by assumption
    rw [hj]; rfl
  · have hj : junk = false := by assumption
    rw [hj]; rfl
theorem full_no {l : List Sd} {s : ByteArray} (hh : hasF s l = false) (hl : l.length = 300) : (hasF s l = false ∧ l.length = 300) := ⟨hh, hl⟩
theorem c_Note_full (z : Bool) (l : List Sd) (s : ByteArray) (junk : Bool) (now : Int) (ha : aFault l s now = (0, 0)) (hh : hasF s l = false) (hn : l.length = 300) : CallV tab 13 [sds z l, .str s, .bool junk, .int .i64 now] (· = .tup [.sl 4 true [], fv (2, -1)]) := by
  obtain ⟨hc, _⟩ := aF_ok ha
  have hck := c_check_ok z hc
  rw [hh, ha] at hck
  have hnl : (((l.map Sd.row).length : Int) == 300) = true := by simp; omega
  refine callV_of Try.func13 rfl (Nat.le_of_ble_eq_true rfl) (by kernel_rfl) ?_
  repeat' first
    | (refine call_pure1 (hck) rfl rfl rfl rfl rfl ?_; conv => whnf)
    | (refine call_pureD (hck) rfl rfl rfl rfl rfl ?_; conv => whnf)
    | (refine idxMap (by (first | decide | exact trivial | omega | exact Nat.le_refl _ | (((try simp only [decide_eq_true_eq, decide_eq_false_iff_not, cond_true, cond_false, beq_iff_eq, beq_eq_false_iff_ne, bne_iff_ne, bne_eq_false_iff_eq, ne_eq, Bool.not_eq_true', Bool.not_eq_false', Bool.not_eq_eq_eq_not, Bool.not_true, Bool.not_false, sLe_eq, Bool.and_eq_true, Bool.and_eq_false_iff, List.length_map, List.length_append, List.length_take, List.length_drop, List.length_replicate, List.length_cons, List.length_nil, lenMax, capMax, Int.toNat_natCast, gt_iff_lt, ge_iff_le] at *); (try simp (disch := omega) only [wr, wru, shr1, Int.tdiv_eq_ediv_of_nonneg] at *)); omega) | (((try simp only [decide_eq_true_eq, decide_eq_false_iff_not, cond_true, cond_false, beq_iff_eq, beq_eq_false_iff_ne, bne_iff_ne, bne_eq_false_iff_eq, ne_eq, Bool.not_eq_true', Bool.not_eq_false', Bool.not_eq_eq_eq_not, Bool.not_true, Bool.not_false, sLe_eq, Bool.and_eq_true, Bool.and_eq_false_iff, List.length_map, List.length_append, List.length_take, List.length_drop, List.length_replicate, List.length_cons, List.length_nil, lenMax, capMax, Int.toNat_natCast, gt_iff_lt, ge_iff_le] at *); (try simp (disch := omega) only [wr, wru, shr1, Int.tdiv_eq_ediv_of_nonneg] at *)); assumption))) (fun _ _ => ?_); conv => whnf)
    | refine WpD.seq ?_
    | (refine WpD.region ?_; conv => whnf)
    | (refine WpD.draw ?_; conv => whnf)
    | (refine EndOk.mk (by kernel_rfl) ?_; conv => whnf)
    | refine WpD.block ?_
    | (refine WpD.exit ?_; conv => whnf)
    | (refine WpD.skip ?_; conv => whnf)
    | (refine WpD.ret ?_; conv => whnf)
    | refine WpD.cond rfl ?_
    | (refine Br.tt ?_; try conv => whnf)
    | (refine Br.ff ?_; try conv => whnf)
    | (refine Br.of_t (by assumption) ?_; conv => whnf)
    | (refine Br.of_f (by assumption) ?_; conv => whnf)
    | (refine Br.mk (fun _ => ?_) (fun _ => ?_) <;> try conv => whnf)
    | refine Exists.intro _ (And.intro (DV_toV rfl) ?_)
    | (refine CallOp.std ?_; (conv => whnf); fail_if_success refine (?_ : False))
    | (refine CallDet.std ?_; (conv => whnf); fail_if_success refine (?_ : False))
    | (refine And.intro (by (first | decide | exact trivial | omega | exact Nat.le_refl _ | (((try simp only [decide_eq_true_eq, decide_eq_false_iff_not, cond_true, cond_false, beq_iff_eq, beq_eq_false_iff_ne, bne_iff_ne, bne_eq_false_iff_eq, ne_eq, Bool.not_eq_true', Bool.not_eq_false', Bool.not_eq_eq_eq_not, Bool.not_true, Bool.not_false, sLe_eq, Bool.and_eq_true, Bool.and_eq_false_iff, List.length_map, List.length_append, List.length_take, List.length_drop, List.length_replicate, List.length_cons, List.length_nil, lenMax, capMax, Int.toNat_natCast, gt_iff_lt, ge_iff_le] at *); (try simp (disch := omega) only [wr, wru, shr1, Int.tdiv_eq_ediv_of_nonneg] at *)); omega) | (((try simp only [decide_eq_true_eq, decide_eq_false_iff_not, cond_true, cond_false, beq_iff_eq, beq_eq_false_iff_ne, bne_iff_ne, bne_eq_false_iff_eq, ne_eq, Bool.not_eq_true', Bool.not_eq_false', Bool.not_eq_eq_eq_not, Bool.not_true, Bool.not_false, sLe_eq, Bool.and_eq_true, Bool.and_eq_false_iff, List.length_map, List.length_append, List.length_take, List.length_drop, List.length_replicate, List.length_cons, List.length_nil, lenMax, capMax, Int.toNat_natCast, gt_iff_lt, ge_iff_le] at *); (try simp (disch := omega) only [wr, wru, shr1, Int.tdiv_eq_ediv_of_nonneg] at *)); assumption))) ?_; conv => whnf)
  all_goals rfl
theorem c_Note_bad (z : Bool) (l : List Sd) (s : ByteArray) (junk : Bool) (now : Int) (ha : aFault l s now ≠ (0, 0)) : CallV tab 13 [sds z l, .str s, .bool junk, .int .i64 now] (· = .tup [.sl 4 true [], fv (aFault l s now)]) := by
  have hn : ((aFault l s now).1 == 0 && ((aFault l s now).2 == 0 && true)) = false := by
    cases h : ((aFault l s now).1 == 0) with
    | false => rfl
    | true => exact absurd (aF_z (by simpa using h)) ha
  have hn' : (!((aFault l s now).1 == 0 && ((aFault l s now).2 == 0 && true))) = true := by rw [hn]; rfl
  by_cases hc : cFault l s now = (0, 0)
  · have hck := c_check_ok z hc
    refine callV_of Try.func13 rfl (Nat.le_of_ble_eq_true rfl) (by kernel_rfl) ?_
    repeat' first
      | (refine call_pure1 (hck) rfl rfl rfl rfl rfl ?_; conv => whnf)
      | (refine call_pureD (hck) rfl rfl rfl rfl rfl ?_; conv => whnf)
      | (refine idxMap (by (first | decide | exact trivial | omega | exact Nat.le_refl _ | (((try simp only [decide_eq_true_eq, decide_eq_false_iff_not, cond_true, cond_false, beq_iff_eq, beq_eq_false_iff_ne, bne_iff_ne, bne_eq_false_iff_eq, ne_eq, Bool.not_eq_true', Bool.not_eq_false', Bool.not_eq_eq_eq_not, Bool.not_true, Bool.not_false, sLe_eq, Bool.and_eq_true, Bool.and_eq_false_iff, List.length_map, List.length_append, List.length_take, List.length_drop, List.length_replicate, List.length_cons, List.length_nil, lenMax, capMax, Int.toNat_natCast, gt_iff_lt, ge_iff_le] at *); (try simp (disch := omega) only [wr, wru, shr1, Int.tdiv_eq_ediv_of_nonneg] at *)); omega) | (((try simp only [decide_eq_true_eq, decide_eq_false_iff_not, cond_true, cond_false, beq_iff_eq, beq_eq_false_iff_ne, bne_iff_ne, bne_eq_false_iff_eq, ne_eq, Bool.not_eq_true', Bool.not_eq_false', Bool.not_eq_eq_eq_not, Bool.not_true, Bool.not_false, sLe_eq, Bool.and_eq_true, Bool.and_eq_false_iff, List.length_map, List.length_append, List.length_take, List.length_drop, List.length_replicate, List.length_cons, List.length_nil, lenMax, capMax, Int.toNat_natCast, gt_iff_lt, ge_iff_le] at *); (try simp (disch := omega) only [wr, wru, shr1, Int.tdiv_eq_ediv_of_nonneg] at *)); assumption))) (fun _ _ => ?_); conv => whnf)
      | refine WpD.seq ?_
      | (refine WpD.region ?_; conv => whnf)
      | (refine WpD.draw ?_; conv => whnf)
      | (refine EndOk.mk (by kernel_rfl) ?_; conv => whnf)
      | refine WpD.block ?_
      | (refine WpD.exit ?_; conv => whnf)
      | (refine WpD.skip ?_; conv => whnf)
      | (refine WpD.ret ?_; conv => whnf)
      | refine WpD.cond rfl ?_
      | (refine Br.tt ?_; try conv => whnf)
      | (refine Br.ff ?_; try conv => whnf)
      | (refine Br.of_t (by assumption) ?_; conv => whnf)
      | (refine Br.of_f (by assumption) ?_; conv => whnf)
      | (refine Br.mk (fun _ => ?_) (fun _ => ?_) <;> try conv => whnf)
      | refine Exists.intro _ (And.intro (DV_toV rfl) ?_)
      | (refine CallOp.std ?_; (conv => whnf); fail_if_success refine (?_ : False))
      | (refine CallDet.std ?_; (conv => whnf); fail_if_success refine (?_ : False))
      | (refine And.intro (by (first | decide | exact trivial | omega | exact Nat.le_refl _ | (((try simp only [decide_eq_true_eq, decide_eq_false_iff_not, cond_true, cond_false, beq_iff_eq, beq_eq_false_iff_ne, bne_iff_ne, bne_eq_false_iff_eq, ne_eq, Bool.not_eq_true', Bool.not_eq_false', Bool.not_eq_eq_eq_not, Bool.not_true, Bool.not_false, sLe_eq, Bool.and_eq_true, Bool.and_eq_false_iff, List.length_map, List.length_append, List.length_take, List.length_drop, List.length_replicate, List.length_cons, List.length_nil, lenMax, capMax, Int.toNat_natCast, gt_iff_lt, ge_iff_le] at *); (try simp (disch := omega) only [wr, wru, shr1, Int.tdiv_eq_ediv_of_nonneg] at *)); omega) | (((try simp only [decide_eq_true_eq, decide_eq_false_iff_not, cond_true, cond_false, beq_iff_eq, beq_eq_false_iff_ne, bne_iff_ne, bne_eq_false_iff_eq, ne_eq, Bool.not_eq_true', Bool.not_eq_false', Bool.not_eq_eq_eq_not, Bool.not_true, Bool.not_false, sLe_eq, Bool.and_eq_true, Bool.and_eq_false_iff, List.length_map, List.length_append, List.length_take, List.length_drop, List.length_replicate, List.length_cons, List.length_nil, lenMax, capMax, Int.toNat_natCast, gt_iff_lt, ge_iff_le] at *); (try simp (disch := omega) only [wr, wru, shr1, Int.tdiv_eq_ediv_of_nonneg] at *)); assumption))) ?_; conv => whnf)
    all_goals rfl
  · have hck := c_check_bad z hc
    have hac : aFault l s now = cFault l s now := by unfold aFault; rw [if_pos hc]
    rw [← hac] at hck
    refine callV_of Try.func13 rfl (Nat.le_of_ble_eq_true rfl) (by kernel_rfl) ?_
    repeat' first
      | (refine call_pure1 (hck) rfl rfl rfl rfl rfl ?_; conv => whnf)
      | (refine call_pureD (hck) rfl rfl rfl rfl rfl ?_; conv => whnf)
      | (refine idxMap (by (first | decide | exact trivial | omega | exact Nat.le_refl _ | (((try simp only [decide_eq_true_eq, decide_eq_false_iff_not, cond_true, cond_false, beq_iff_eq, beq_eq_false_iff_ne, bne_iff_ne, bne_eq_false_iff_eq, ne_eq, Bool.not_eq_true', Bool.not_eq_false', Bool.not_eq_eq_eq_not, Bool.not_true, Bool.not_false, sLe_eq, Bool.and_eq_true, Bool.and_eq_false_iff, List.length_map, List.length_append, List.length_take, List.length_drop, List.length_replicate, List.length_cons, List.length_nil, lenMax, capMax, Int.toNat_natCast, gt_iff_lt, ge_iff_le] at *); (try simp (disch := omega) only [wr, wru, shr1, Int.tdiv_eq_ediv_of_nonneg] at *)); omega) | (((try simp only [decide_eq_true_eq, decide_eq_false_iff_not, cond_true, cond_false, beq_iff_eq, beq_eq_false_iff_ne, bne_iff_ne, bne_eq_false_iff_eq, ne_eq, Bool.not_eq_true', Bool.not_eq_false', Bool.not_eq_eq_eq_not, Bool.not_true, Bool.not_false, sLe_eq, Bool.and_eq_true, Bool.and_eq_false_iff, List.length_map, List.length_append, List.length_take, List.length_drop, List.length_replicate, List.length_cons, List.length_nil, lenMax, capMax, Int.toNat_natCast, gt_iff_lt, ge_iff_le] at *); (try simp (disch := omega) only [wr, wru, shr1, Int.tdiv_eq_ediv_of_nonneg] at *)); assumption))) (fun _ _ => ?_); conv => whnf)
      | refine WpD.seq ?_
      | (refine WpD.region ?_; conv => whnf)
      | (refine WpD.draw ?_; conv => whnf)
      | (refine EndOk.mk (by kernel_rfl) ?_; conv => whnf)
      | refine WpD.block ?_
      | (refine WpD.exit ?_; conv => whnf)
      | (refine WpD.skip ?_; conv => whnf)
      | (refine WpD.ret ?_; conv => whnf)
      | refine WpD.cond rfl ?_
      | (refine Br.tt ?_; try conv => whnf)
      | (refine Br.ff ?_; try conv => whnf)
      | (refine Br.of_t (by assumption) ?_; conv => whnf)
      | (refine Br.of_f (by assumption) ?_; conv => whnf)
      | (refine Br.mk (fun _ => ?_) (fun _ => ?_) <;> try conv => whnf)
      | refine Exists.intro _ (And.intro (DV_toV rfl) ?_)
      | (refine CallOp.std ?_; (conv => whnf); fail_if_success refine (?_ : False))
      | (refine CallDet.std ?_; (conv => whnf); fail_if_success refine (?_ : False))
      | (refine And.intro (by (first | decide | exact trivial | omega | exact Nat.le_refl _ | (((try simp only [decide_eq_true_eq, decide_eq_false_iff_not, cond_true, cond_false, beq_iff_eq, beq_eq_false_iff_ne, bne_iff_ne, bne_eq_false_iff_eq, ne_eq, Bool.not_eq_true', Bool.not_eq_false', Bool.not_eq_eq_eq_not, Bool.not_true, Bool.not_false, sLe_eq, Bool.and_eq_true, Bool.and_eq_false_iff, List.length_map, List.length_append, List.length_take, List.length_drop, List.length_replicate, List.length_cons, List.length_nil, lenMax, capMax, Int.toNat_natCast, gt_iff_lt, ge_iff_le] at *); (try simp (disch := omega) only [wr, wru, shr1, Int.tdiv_eq_ediv_of_nonneg] at *)); omega) | (((try simp only [decide_eq_true_eq, decide_eq_false_iff_not, cond_true, cond_false, beq_iff_eq, beq_eq_false_iff_ne, bne_iff_ne, bne_eq_false_iff_eq, ne_eq, Bool.not_eq_true', Bool.not_eq_false', Bool.not_eq_eq_eq_not, Bool.not_true, Bool.not_false, sLe_eq, Bool.and_eq_true, Bool.and_eq_false_iff, List.length_map, List.length_append, List.length_take, List.length_drop, List.length_replicate, List.length_cons, List.length_nil, lenMax, capMax, Int.toNat_natCast, gt_iff_lt, ge_iff_le] at *); (try simp (disch := omega) only [wr, wru, shr1, Int.tdiv_eq_ediv_of_nonneg] at *)); assumption))) ?_; conv => whnf)
    all_goals rfl
def noteR (l : List Sd) (s : ByteArray) (junk : Bool) (now : Int) : V := if nFault l s now = (0, 0) then sds false (noted l s junk now) else .sl 4 true []
theorem c_Note (z : Bool) (l : List Sd) (s : ByteArray) (junk : Bool) (now : Int) : CallV tab 13 [sds z l, .str s, .bool junk, .int .i64 now] (· = .tup [noteR l s junk now, fv (nFault l s now)]) := by
  by_cases ha : aFault l s now = (0, 0)
  · cases hh : hasF s l with
    | true =>
      have e : nFault l s now = (0, 0) := by unfold nFault; rw [if_neg (by simp [ha]), if_neg (by simp [hh])]
      rw [noteR, e, if_pos rfl]; exact c_Note_has z l s junk now ha hh
    | false =>
      by_cases hn : l.length = 300
      · have e : nFault l s now = (2, -1) := by unfold nFault; rw [if_neg (by simp [ha]), if_pos ⟨hh, hn⟩]
        rw [noteR, e, if_neg (by simp)]; exact c_Note_full z l s junk now ha hh hn
      · have e : nFault l s now = (0, 0) := by unfold nFault; rw [if_neg (by simp [ha]), if_neg (by simp [hn])]
        rw [noteR, e, if_pos rfl]; exact c_Note_new z l s junk now ha hh hn
  · have e : nFault l s now = aFault l s now := by unfold nFault; rw [if_pos ha]
    rw [noteR, e, if_neg ha]; exact c_Note_bad z l s junk now ha
end Go.DL
