/- The greylist: Try where no entry stands. No condition. -/
import Derived.Test.YtmeaagnamlilgaaG7
set_option linter.unusedVariables false
set_option linter.unusedSimpArgs false
set_option maxHeartbeats 4000000
namespace Go.DL
open Go.Proofs

def live' (now : Int) (l : List Ge) : List Ge := l.filter fun x => !exp' x now
theorem live_len (now : Int) (l : List Ge) : (live' now l).length ≤ l.length := List.length_filter_le _ _
theorem c_Delete' (l : List Ge) (now : Int) (hl : l.length ≤ 300) (hr : ∀ x ∈ l, nmOk x = true ∧ gOk x) (hn : rg now) : CallE tab 31 [.arr 0 0 (l.map Ge.row).length, .fn 32 [.ptr 1 0 0]] [.arr 6 (vrows (l.map Ge.row)), .arr 1 (vrows [[.int .i64 now]])] 6 (· = (live' now l).map Ge.row) := by
  rw [List.length_map]
  refine c_Delete l now (by omega) (fun x hx => ?_) hn
  have := (hr x hx).2
  unfold gOk at this
  unfold rg; omega
theorem c_Insert' (m : List Ge) (x : Ge) (i : Nat) (hi : i ≤ m.length) (hl : m.length ≤ 1000000) : CallE tab 33 [.arr 0 0 (m.map Ge.row).length, .v (.int .i64 i), .arr 1 0 1] [.arr 6 (vrows (m.map Ge.row)), .arr 6 (vrows [x.row])] 6 (· = (m.take i ++ x :: m.drop i).map Ge.row) := by
  rw [List.length_map]; exact c_Insert m x i hi hl
theorem c_Try_full0 (z : Bool) (l : List Ge) (h f t : ByteArray) (now : Int) (hb : tF0 l (ent h f t now) now = (0, 0)) (hh : hG (ent h f t now).key l = false) (hfull : (live' now l).length = 300) :
    CallV tab 11 [ges z l, .str h, .str f, .str t, .int .i64 now] (· = .tup [.sl 6 true [], .bool false, fv (2, -1)]) := by
  obtain ⟨a, b, c⟩ := tF_ok hb
  obtain ⟨hl, hr, hs⟩ := gchk_ok a
  have hmlen := live_len now l
  have hms : SG (live' now l) := sort_filter _ hs
  have h1 := c_Validate z l
  have h2 := c_named (ent h f t now)
  have h3 := c_Search z l (ent h f t now) ⟨by omega, hs⟩
  have h5 := c_Clone z l (by omega)
  have h6 := c_Delete' l now hl hr c
  have h7 := c_Search false (live' now l) (ent h f t now) ⟨by omega, hms⟩
  have hpm := posL_le (lt := lt3) (key := Ge.key) (ent h f t now).key (live' now l)
  have h8 := c_Insert' (live' now l) (ent h f t now) (pG (ent h f t now).key (live' now l)) hpm (by omega)
  rw [a] at h1
  rw [b] at h2
  rw [hh] at h3
  unfold rg at c
  have hfl : (((List.map Ge.row (live' now l)).length : Int) == 300) = true := by simp; omega
  clear hb hh hr hs
  generalize pG (ent h f t now).key l = p at *
  generalize pG (ent h f t now).key (live' now l) = q at *
  generalize hG (ent h f t now).key (live' now l) = qb at *
  generalize live' now l = m at *
  have ob1 : ∀ H : Nat → Ob, H 4 = .arr 6 ((l.map Ge.row).map fun r => r.map .v) → H 0 = .arr 1 (vrows [[.int .i64 now]]) → ∀ (i p : Nat), [4, 0][i]? = some p → obLe [4, 0] (H p) (obAt [.arr 6 (vrows (l.map Ge.row)), .arr 1 (vrows [[.int .i64 now]])] i) := by
    intro H h4 h0 i p h
    match i, h with
    | 0, h => simp at h; subst h; rw [h4]; exact obLe_v rfl
    | 1, h => simp at h; subst h; rw [h0]; exact obLe_v rfl
    | i + 2, h => simp at h
  have ob2 : ∀ H : Nat → Ob, H 5 = .arr 6 ((m.map Ge.row).map fun r => r.map .v) → H 6 = .arr 6 (vrows [(ent h f t now).row]) → ∀ (i p : Nat), [5, 6][i]? = some p → obLe [5, 6] (H p) (obAt [.arr 6 (vrows (m.map Ge.row)), .arr 6 (vrows [(ent h f t now).row])] i) := by
    intro H h4 h0 i p h
    match i, h with
    | 0, h => simp at h; subst h; rw [h4]; exact obLe_v rfl
    | 1, h => simp at h; subst h; rw [h0]; exact obLe_v rfl
    | i + 2, h => simp at h
  refine callV_of Try.func11 rfl (Nat.le_of_ble_eq_true rfl) (by kernel_rfl) ?_
  repeat' first
    | (apply Br.id; first
      | (apply Br.tt; try conv => whnf)
      | (apply Br.ff; try conv => whnf)
      | (refine Br.of_t (by assumption) ?_; conv => whnf)
      | (refine Br.of_f (by assumption) ?_; conv => whnf)
      | (refine Br.mk (fun _ => ?_) (fun _ => ?_) <;> try conv => whnf))
    | (apply CallOp.id; first
      | (refine call_eat [] h5 rfl rfl rfl rfl rfl rfl List.nodup_nil rfl (by simp) (fun i p h => by simp at h) (fun xs hxs => ?_); subst hxs; conv => whnf)
      | (refine call_eat [4, 0] h6 rfl rfl rfl rfl rfl rfl (by decide) rfl (by decide) (ob1 _ rfl rfl) (fun xs hxs => ?_); subst hxs; conv => whnf)
      | (refine call_eatD [4, 0] h6 rfl rfl rfl rfl rfl rfl (by decide) rfl (by decide) (ob1 _ rfl rfl) ?_; conv => whnf)
      | (refine call_eat [5, 6] h8 rfl rfl rfl rfl rfl rfl (by decide) rfl (by decide) (ob2 _ rfl rfl) (fun xs hxs => ?_); subst hxs; conv => whnf)
      | (refine call_eatD [5, 6] h8 rfl rfl rfl rfl rfl rfl (by decide) rfl (by decide) (ob2 _ rfl rfl) ?_; conv => whnf)
      | (refine call_rdV h7 rfl rfl rfl rfl ⟨DV_arr rfl (by simp), ⟨rfl, rfl, rfl, rfl, rfl, rfl, trivial⟩, rfl, trivial⟩ rfl ?_; conv => whnf)
      | (refine call_rdVD h7 rfl rfl rfl rfl ⟨DV_arr rfl (by simp), ⟨rfl, rfl, rfl, rfl, rfl, rfl, trivial⟩, rfl, trivial⟩ rfl ?_; conv => whnf)
      | (refine call_at rfl rfl rfl rfl rfl ?_)
      | (refine call_rd rfl rfl rfl rfl rfl ?_)
      | (refine CallOp.std ?_; (conv => whnf); fail_if_success refine (?_ : False)))
    | (apply CallDet.id; first
      | (refine call_eat [] h5 rfl rfl rfl rfl rfl rfl List.nodup_nil rfl (by simp) (fun i p h => by simp at h) (fun xs hxs => ?_); subst hxs; conv => whnf)
      | (refine call_eat [4, 0] h6 rfl rfl rfl rfl rfl rfl (by decide) rfl (by decide) (ob1 _ rfl rfl) (fun xs hxs => ?_); subst hxs; conv => whnf)
      | (refine call_eatD [4, 0] h6 rfl rfl rfl rfl rfl rfl (by decide) rfl (by decide) (ob1 _ rfl rfl) ?_; conv => whnf)
      | (refine call_eat [5, 6] h8 rfl rfl rfl rfl rfl rfl (by decide) rfl (by decide) (ob2 _ rfl rfl) (fun xs hxs => ?_); subst hxs; conv => whnf)
      | (refine call_eatD [5, 6] h8 rfl rfl rfl rfl rfl rfl (by decide) rfl (by decide) (ob2 _ rfl rfl) ?_; conv => whnf)
      | (refine call_rdV h7 rfl rfl rfl rfl ⟨DV_arr rfl (by simp), ⟨rfl, rfl, rfl, rfl, rfl, rfl, trivial⟩, rfl, trivial⟩ rfl ?_; conv => whnf)
      | (refine call_rdVD h7 rfl rfl rfl rfl ⟨DV_arr rfl (by simp), ⟨rfl, rfl, rfl, rfl, rfl, rfl, trivial⟩, rfl, trivial⟩ rfl ?_; conv => whnf)
      | (refine call_atD rfl rfl rfl rfl rfl ?_)
      | (refine call_rdD rfl rfl rfl rfl rfl ?_)
      | (refine CallDet.std ?_; (conv => whnf); fail_if_success refine (?_ : False)))
    | (apply CallAt.id; first
      | (apply CallAt.mk1 (h1); conv => whnf)
      | (apply CallAt.mk1 (h2); conv => whnf)
      | (apply CallAt.mk1 (h3); conv => whnf))
    | (apply CallRd.id; first
      | (apply CallRd.mk1 (h1); (· rfl); conv => whnf)
      | (apply CallRd.mk1 (h2); (· rfl); conv => whnf)
      | (apply CallRd.mk1 (h3); (· rfl); conv => whnf))
    | (refine EndOk.mk (by kernel_rfl) ?_; conv => whnf)
    | (refine And.intro (by (first | decide | exact trivial | omega | exact Nat.le_refl _ | (((try simp only [decide_eq_true_eq, decide_eq_false_iff_not, cond_true, cond_false, beq_iff_eq, beq_eq_false_iff_ne, bne_iff_ne, bne_eq_false_iff_eq, ne_eq, Bool.not_eq_true', Bool.not_eq_false', Bool.not_eq_eq_eq_not, Bool.not_true, Bool.not_false, sLe_eq, Bool.and_eq_true, Bool.and_eq_false_iff, List.length_map, List.length_set, List.length_append, List.length_take, List.length_drop, List.length_replicate, List.length_cons, List.length_nil, lenMax, capMax, Int.toNat_natCast, gt_iff_lt, ge_iff_le] at *); (try simp (disch := omega) only [wr, wru, shr1, Int.tdiv_eq_ediv_of_nonneg] at *)); omega) | (((try simp only [decide_eq_true_eq, decide_eq_false_iff_not, cond_true, cond_false, beq_iff_eq, beq_eq_false_iff_ne, bne_iff_ne, bne_eq_false_iff_eq, ne_eq, Bool.not_eq_true', Bool.not_eq_false', Bool.not_eq_eq_eq_not, Bool.not_true, Bool.not_false, sLe_eq, Bool.and_eq_true, Bool.and_eq_false_iff, List.length_map, List.length_set, List.length_append, List.length_take, List.length_drop, List.length_replicate, List.length_cons, List.length_nil, lenMax, capMax, Int.toNat_natCast, gt_iff_lt, ge_iff_le] at *); (try simp (disch := omega) only [wr, wru, shr1, Int.tdiv_eq_ediv_of_nonneg] at *)); assumption))) ?_; conv => whnf)
    | (refine idxOld (by assumption) ?_; conv => whnf)
    | (refine idxMap (by (first | decide | exact trivial | omega | exact Nat.le_refl _ | (((try simp only [decide_eq_true_eq, decide_eq_false_iff_not, cond_true, cond_false, beq_iff_eq, beq_eq_false_iff_ne, bne_iff_ne, bne_eq_false_iff_eq, ne_eq, Bool.not_eq_true', Bool.not_eq_false', Bool.not_eq_eq_eq_not, Bool.not_true, Bool.not_false, sLe_eq, Bool.and_eq_true, Bool.and_eq_false_iff, List.length_map, List.length_set, List.length_append, List.length_take, List.length_drop, List.length_replicate, List.length_cons, List.length_nil, lenMax, capMax, Int.toNat_natCast, gt_iff_lt, ge_iff_le] at *); (try simp (disch := omega) only [wr, wru, shr1, Int.tdiv_eq_ediv_of_nonneg] at *)); omega) | (((try simp only [decide_eq_true_eq, decide_eq_false_iff_not, cond_true, cond_false, beq_iff_eq, beq_eq_false_iff_ne, bne_iff_ne, bne_eq_false_iff_eq, ne_eq, Bool.not_eq_true', Bool.not_eq_false', Bool.not_eq_eq_eq_not, Bool.not_true, Bool.not_false, sLe_eq, Bool.and_eq_true, Bool.and_eq_false_iff, List.length_map, List.length_set, List.length_append, List.length_take, List.length_drop, List.length_replicate, List.length_cons, List.length_nil, lenMax, capMax, Int.toNat_natCast, gt_iff_lt, ge_iff_le] at *); (try simp (disch := omega) only [wr, wru, shr1, Int.tdiv_eq_ediv_of_nonneg] at *)); assumption))) (fun _ _ => ?_); conv => whnf)
    | refine Exists.intro _ (And.intro (DV_toV rfl) ?_)
    | (refine rowSet (by (first | decide | exact trivial | omega | exact Nat.le_refl _ | (((try simp only [decide_eq_true_eq, decide_eq_false_iff_not, cond_true, cond_false, beq_iff_eq, beq_eq_false_iff_ne, bne_iff_ne, bne_eq_false_iff_eq, ne_eq, Bool.not_eq_true', Bool.not_eq_false', Bool.not_eq_eq_eq_not, Bool.not_true, Bool.not_false, sLe_eq, Bool.and_eq_true, Bool.and_eq_false_iff, List.length_map, List.length_set, List.length_append, List.length_take, List.length_drop, List.length_replicate, List.length_cons, List.length_nil, lenMax, capMax, Int.toNat_natCast, gt_iff_lt, ge_iff_le] at *); (try simp (disch := omega) only [wr, wru, shr1, Int.tdiv_eq_ediv_of_nonneg] at *)); omega) | (((try simp only [decide_eq_true_eq, decide_eq_false_iff_not, cond_true, cond_false, beq_iff_eq, beq_eq_false_iff_ne, bne_iff_ne, bne_eq_false_iff_eq, ne_eq, Bool.not_eq_true', Bool.not_eq_false', Bool.not_eq_eq_eq_not, Bool.not_true, Bool.not_false, sLe_eq, Bool.and_eq_true, Bool.and_eq_false_iff, List.length_map, List.length_set, List.length_append, List.length_take, List.length_drop, List.length_replicate, List.length_cons, List.length_nil, lenMax, capMax, Int.toNat_natCast, gt_iff_lt, ge_iff_le] at *); (try simp (disch := omega) only [wr, wru, shr1, Int.tdiv_eq_ediv_of_nonneg] at *)); assumption))) ?_; conv => whnf)
    | (refine rowOld (by assumption) ?_; conv => whnf)
    | (refine rowNew (by (first | decide | exact trivial | omega | exact Nat.le_refl _ | (((try simp only [decide_eq_true_eq, decide_eq_false_iff_not, cond_true, cond_false, beq_iff_eq, beq_eq_false_iff_ne, bne_iff_ne, bne_eq_false_iff_eq, ne_eq, Bool.not_eq_true', Bool.not_eq_false', Bool.not_eq_eq_eq_not, Bool.not_true, Bool.not_false, sLe_eq, Bool.and_eq_true, Bool.and_eq_false_iff, List.length_map, List.length_set, List.length_append, List.length_take, List.length_drop, List.length_replicate, List.length_cons, List.length_nil, lenMax, capMax, Int.toNat_natCast, gt_iff_lt, ge_iff_le] at *); (try simp (disch := omega) only [wr, wru, shr1, Int.tdiv_eq_ediv_of_nonneg] at *)); omega) | (((try simp only [decide_eq_true_eq, decide_eq_false_iff_not, cond_true, cond_false, beq_iff_eq, beq_eq_false_iff_ne, bne_iff_ne, bne_eq_false_iff_eq, ne_eq, Bool.not_eq_true', Bool.not_eq_false', Bool.not_eq_eq_eq_not, Bool.not_true, Bool.not_false, sLe_eq, Bool.and_eq_true, Bool.and_eq_false_iff, List.length_map, List.length_set, List.length_append, List.length_take, List.length_drop, List.length_replicate, List.length_cons, List.length_nil, lenMax, capMax, Int.toNat_natCast, gt_iff_lt, ge_iff_le] at *); (try simp (disch := omega) only [wr, wru, shr1, Int.tdiv_eq_ediv_of_nonneg] at *)); assumption))) (fun _ _ => ?_); conv => whnf)
    | (apply WpD.id; first
      | (refine WpD.walk rfl ?_; conv => whnf))
  all_goals clear h1 h2 h3 h5 h6 h7 h8 ob1 ob2
  all_goals ((try simp only [decide_eq_true_eq, decide_eq_false_iff_not, cond_true, cond_false, beq_iff_eq, beq_eq_false_iff_ne, bne_iff_ne, bne_eq_false_iff_eq, ne_eq, Bool.not_eq_true', Bool.not_eq_false', Bool.not_eq_eq_eq_not, Bool.not_true, Bool.not_false, sLe_eq, Bool.and_eq_true, Bool.and_eq_false_iff, List.length_map, List.length_set, List.length_append, List.length_take, List.length_drop, List.length_replicate, List.length_cons, List.length_nil, lenMax, capMax, Int.toNat_natCast, gt_iff_lt, ge_iff_le] at *); (try simp (disch := omega) only [wr, wru, shr1, Int.tdiv_eq_ediv_of_nonneg] at *))
  all_goals try (exfalso; omega)
  all_goals rfl
theorem c_Try_ins0 (z : Bool) (l : List Ge) (h f t : ByteArray) (now : Int) (hb : tF0 l (ent h f t now) now = (0, 0)) (hh : hG (ent h f t now).key l = false) (hfull : (live' now l).length ≠ 300) :
    CallV tab 11 [ges z l, .str h, .str f, .str t, .int .i64 now] (· = .tup [ges false ((live' now l).take (pG (ent h f t now).key (live' now l)) ++ ent h f t now :: (live' now l).drop (pG (ent h f t now).key (live' now l))), .bool false, fv (0, 0)]) := by
  obtain ⟨a, b, c⟩ := tF_ok hb
  obtain ⟨hl, hr, hs⟩ := gchk_ok a
  have hmlen := live_len now l
  have hms : SG (live' now l) := sort_filter _ hs
  have h1 := c_Validate z l
  have h2 := c_named (ent h f t now)
  have h3 := c_Search z l (ent h f t now) ⟨by omega, hs⟩
  have h5 := c_Clone z l (by omega)
  have h6 := c_Delete' l now hl hr c
  have h7 := c_Search false (live' now l) (ent h f t now) ⟨by omega, hms⟩
  have hpm := posL_le (lt := lt3) (key := Ge.key) (ent h f t now).key (live' now l)
  have h8 := c_Insert' (live' now l) (ent h f t now) (pG (ent h f t now).key (live' now l)) hpm (by omega)
  rw [a] at h1
  rw [b] at h2
  rw [hh] at h3
  unfold rg at c
  have hfl : (((List.map Ge.row (live' now l)).length : Int) == 300) = false := by simp; omega
  clear hb hh hr hs
  generalize pG (ent h f t now).key l = p at *
  generalize pG (ent h f t now).key (live' now l) = q at *
  generalize hG (ent h f t now).key (live' now l) = qb at *
  generalize live' now l = m at *
  have ob1 : ∀ H : Nat → Ob, H 4 = .arr 6 ((l.map Ge.row).map fun r => r.map .v) → H 0 = .arr 1 (vrows [[.int .i64 now]]) → ∀ (i p : Nat), [4, 0][i]? = some p → obLe [4, 0] (H p) (obAt [.arr 6 (vrows (l.map Ge.row)), .arr 1 (vrows [[.int .i64 now]])] i) := by
    intro H h4 h0 i p h
    match i, h with
    | 0, h => simp at h; subst h; rw [h4]; exact obLe_v rfl
    | 1, h => simp at h; subst h; rw [h0]; exact obLe_v rfl
    | i + 2, h => simp at h
  have ob2 : ∀ H : Nat → Ob, H 5 = .arr 6 ((m.map Ge.row).map fun r => r.map .v) → H 6 = .arr 6 (vrows [(ent h f t now).row]) → ∀ (i p : Nat), [5, 6][i]? = some p → obLe [5, 6] (H p) (obAt [.arr 6 (vrows (m.map Ge.row)), .arr 6 (vrows [(ent h f t now).row])] i) := by
    intro H h4 h0 i p h
    match i, h with
    | 0, h => simp at h; subst h; rw [h4]; exact obLe_v rfl
    | 1, h => simp at h; subst h; rw [h0]; exact obLe_v rfl
    | i + 2, h => simp at h
  refine callV_of Try.func11 rfl (Nat.le_of_ble_eq_true rfl) (by kernel_rfl) ?_
  repeat' first
    | (apply Br.id; first
      | (apply Br.tt; try conv => whnf)
      | (apply Br.ff; try conv => whnf)
      | (refine Br.of_t (by assumption) ?_; conv => whnf)
      | (refine Br.of_f (by assumption) ?_; conv => whnf)
      | (refine Br.mk (fun _ => ?_) (fun _ => ?_) <;> try conv => whnf))
    | (apply CallOp.id; first
      | (refine call_eat [] h5 rfl rfl rfl rfl rfl rfl List.nodup_nil rfl (by simp) (fun i p h => by simp at h) (fun xs hxs => ?_); subst hxs; conv => whnf)
      | (refine call_eat [4, 0] h6 rfl rfl rfl rfl rfl rfl (by decide) rfl (by decide) (ob1 _ rfl rfl) (fun xs hxs => ?_); subst hxs; conv => whnf)
      | (refine call_eatD [4, 0] h6 rfl rfl rfl rfl rfl rfl (by decide) rfl (by decide) (ob1 _ rfl rfl) ?_; conv => whnf)
      | (refine call_eat [5, 6] h8 rfl rfl rfl rfl rfl rfl (by decide) rfl (by decide) (ob2 _ rfl rfl) (fun xs hxs => ?_); subst hxs; conv => whnf)
      | (refine call_eatD [5, 6] h8 rfl rfl rfl rfl rfl rfl (by decide) rfl (by decide) (ob2 _ rfl rfl) ?_; conv => whnf)
      | (refine call_rdV h7 rfl rfl rfl rfl ⟨DV_arr rfl (by simp), ⟨rfl, rfl, rfl, rfl, rfl, rfl, trivial⟩, rfl, trivial⟩ rfl ?_; conv => whnf)
      | (refine call_rdVD h7 rfl rfl rfl rfl ⟨DV_arr rfl (by simp), ⟨rfl, rfl, rfl, rfl, rfl, rfl, trivial⟩, rfl, trivial⟩ rfl ?_; conv => whnf)
      | (refine call_at rfl rfl rfl rfl rfl ?_)
      | (refine call_rd rfl rfl rfl rfl rfl ?_)
      | (refine CallOp.std ?_; (conv => whnf); fail_if_success refine (?_ : False)))
    | (apply CallDet.id; first
      | (refine call_eat [] h5 rfl rfl rfl rfl rfl rfl List.nodup_nil rfl (by simp) (fun i p h => by simp at h) (fun xs hxs => ?_); subst hxs; conv => whnf)
      | (refine call_eat [4, 0] h6 rfl rfl rfl rfl rfl rfl (by decide) rfl (by decide) (ob1 _ rfl rfl) (fun xs hxs => ?_); subst hxs; conv => whnf)
      | (refine call_eatD [4, 0] h6 rfl rfl rfl rfl rfl rfl (by decide) rfl (by decide) (ob1 _ rfl rfl) ?_; conv => whnf)
      | (refine call_eat [5, 6] h8 rfl rfl rfl rfl rfl rfl (by decide) rfl (by decide) (ob2 _ rfl rfl) (fun xs hxs => ?_); subst hxs; conv => whnf)
      | (refine call_eatD [5, 6] h8 rfl rfl rfl rfl rfl rfl (by decide) rfl (by decide) (ob2 _ rfl rfl) ?_; conv => whnf)
      | (refine call_rdV h7 rfl rfl rfl rfl ⟨DV_arr rfl (by simp), ⟨rfl, rfl, rfl, rfl, rfl, rfl, trivial⟩, rfl, trivial⟩ rfl ?_; conv => whnf)
      | (refine call_rdVD h7 rfl rfl rfl rfl ⟨DV_arr rfl (by simp), ⟨rfl, rfl, rfl, rfl, rfl, rfl, trivial⟩, rfl, trivial⟩ rfl ?_; conv => whnf)
      | (refine call_atD rfl rfl rfl rfl rfl ?_)
      | (refine call_rdD rfl rfl rfl rfl rfl ?_)
      | (refine CallDet.std ?_; (conv => whnf); fail_if_success refine (?_ : False)))
    | (apply CallAt.id; first
      | (apply CallAt.mk1 (h1); conv => whnf)
      | (apply CallAt.mk1 (h2); conv => whnf)
      | (apply CallAt.mk1 (h3); conv => whnf))
    | (apply CallRd.id; first
      | (apply CallRd.mk1 (h1); (· rfl); conv => whnf)
      | (apply CallRd.mk1 (h2); (· rfl); conv => whnf)
      | (apply CallRd.mk1 (h3); (· rfl); conv => whnf))
    | (refine EndOk.mk (by kernel_rfl) ?_; conv => whnf)
    | (refine And.intro (by (first | decide | exact trivial | omega | exact Nat.le_refl _ | (((try simp only [decide_eq_true_eq, decide_eq_false_iff_not, cond_true, cond_false, beq_iff_eq, beq_eq_false_iff_ne, bne_iff_ne, bne_eq_false_iff_eq, ne_eq, Bool.not_eq_true', Bool.not_eq_false', Bool.not_eq_eq_eq_not, Bool.not_true, Bool.not_false, sLe_eq, Bool.and_eq_true, Bool.and_eq_false_iff, List.length_map, List.length_set, List.length_append, List.length_take, List.length_drop, List.length_replicate, List.length_cons, List.length_nil, lenMax, capMax, Int.toNat_natCast, gt_iff_lt, ge_iff_le] at *); (try simp (disch := omega) only [wr, wru, shr1, Int.tdiv_eq_ediv_of_nonneg] at *)); omega) | (((try simp only [decide_eq_true_eq, decide_eq_false_iff_not, cond_true, cond_false, beq_iff_eq, beq_eq_false_iff_ne, bne_iff_ne, bne_eq_false_iff_eq, ne_eq, Bool.not_eq_true', Bool.not_eq_false', Bool.not_eq_eq_eq_not, Bool.not_true, Bool.not_false, sLe_eq, Bool.and_eq_true, Bool.and_eq_false_iff, List.length_map, List.length_set, List.length_append, List.length_take, List.length_drop, List.length_replicate, List.length_cons, List.length_nil, lenMax, capMax, Int.toNat_natCast, gt_iff_lt, ge_iff_le] at *); (try simp (disch := omega) only [wr, wru, shr1, Int.tdiv_eq_ediv_of_nonneg] at *)); assumption))) ?_; conv => whnf)
    | (refine idxOld (by assumption) ?_; conv => whnf)
    | (refine idxMap (by (first | decide | exact trivial | omega | exact Nat.le_refl _ | (((try simp only [decide_eq_true_eq, decide_eq_false_iff_not, cond_true, cond_false, beq_iff_eq, beq_eq_false_iff_ne, bne_iff_ne, bne_eq_false_iff_eq, ne_eq, Bool.not_eq_true', Bool.not_eq_false', Bool.not_eq_eq_eq_not, Bool.not_true, Bool.not_false, sLe_eq, Bool.and_eq_true, Bool.and_eq_false_iff, List.length_map, List.length_set, List.length_append, List.length_take, List.length_drop, List.length_replicate, List.length_cons, List.length_nil, lenMax, capMax, Int.toNat_natCast, gt_iff_lt, ge_iff_le] at *); (try simp (disch := omega) only [wr, wru, shr1, Int.tdiv_eq_ediv_of_nonneg] at *)); omega) | (((try simp only [decide_eq_true_eq, decide_eq_false_iff_not, cond_true, cond_false, beq_iff_eq, beq_eq_false_iff_ne, bne_iff_ne, bne_eq_false_iff_eq, ne_eq, Bool.not_eq_true', Bool.not_eq_false', Bool.not_eq_eq_eq_not, Bool.not_true, Bool.not_false, sLe_eq, Bool.and_eq_true, Bool.and_eq_false_iff, List.length_map, List.length_set, List.length_append, List.length_take, List.length_drop, List.length_replicate, List.length_cons, List.length_nil, lenMax, capMax, Int.toNat_natCast, gt_iff_lt, ge_iff_le] at *); (try simp (disch := omega) only [wr, wru, shr1, Int.tdiv_eq_ediv_of_nonneg] at *)); assumption))) (fun _ _ => ?_); conv => whnf)
    | refine Exists.intro _ (And.intro (DV_toV rfl) ?_)
    | (refine rowSet (by (first | decide | exact trivial | omega | exact Nat.le_refl _ | (((try simp only [decide_eq_true_eq, decide_eq_false_iff_not, cond_true, cond_false, beq_iff_eq, beq_eq_false_iff_ne, bne_iff_ne, bne_eq_false_iff_eq, ne_eq, Bool.not_eq_true', Bool.not_eq_false', Bool.not_eq_eq_eq_not, Bool.not_true, Bool.not_false, sLe_eq, Bool.and_eq_true, Bool.and_eq_false_iff, List.length_map, List.length_set, List.length_append, List.length_take, List.length_drop, List.length_replicate, List.length_cons, List.length_nil, lenMax, capMax, Int.toNat_natCast, gt_iff_lt, ge_iff_le] at *); (try simp (disch := omega) only [wr, wru, shr1, Int.tdiv_eq_ediv_of_nonneg] at *)); omega) | (((try simp only [decide_eq_true_eq, decide_eq_false_iff_not, cond_true, cond_false, beq_iff_eq, beq_eq_false_iff_ne, bne_iff_ne, bne_eq_false_iff_eq, ne_eq, Bool.not_eq_true', Bool.not_eq_false', Bool.not_eq_eq_eq_not, Bool.not_true, Bool.not_false, sLe_eq, Bool.and_eq_true, Bool.and_eq_false_iff, List.length_map, List.length_set, List.length_append, List.length_take, List.length_drop, List.length_replicate, List.length_cons, List.length_nil, lenMax, capMax, Int.toNat_natCast, gt_iff_lt, ge_iff_le] at *); (try simp (disch := omega) only [wr, wru, shr1, Int.tdiv_eq_ediv_of_nonneg] at *)); assumption))) ?_; conv => whnf)
    | (refine rowOld (by assumption) ?_; conv => whnf)
    | (refine rowNew (by (first | decide | exact trivial | omega | exact Nat.le_refl _ | (((try simp only [decide_eq_true_eq, decide_eq_false_iff_not, cond_true, cond_false, beq_iff_eq, beq_eq_false_iff_ne, bne_iff_ne, bne_eq_false_iff_eq, ne_eq, Bool.not_eq_true', Bool.not_eq_false', Bool.not_eq_eq_eq_not, Bool.not_true, Bool.not_false, sLe_eq, Bool.and_eq_true, Bool.and_eq_false_iff, List.length_map, List.length_set, List.length_append, List.length_take, List.length_drop, List.length_replicate, List.length_cons, List.length_nil, lenMax, capMax, Int.toNat_natCast, gt_iff_lt, ge_iff_le] at *); (try simp (disch := omega) only [wr, wru, shr1, Int.tdiv_eq_ediv_of_nonneg] at *)); omega) | (((try simp only [decide_eq_true_eq, decide_eq_false_iff_not, cond_true, cond_false, beq_iff_eq, beq_eq_false_iff_ne, bne_iff_ne, bne_eq_false_iff_eq, ne_eq, Bool.not_eq_true', Bool.not_eq_false', Bool.not_eq_eq_eq_not, Bool.not_true, Bool.not_false, sLe_eq, Bool.and_eq_true, Bool.and_eq_false_iff, List.length_map, List.length_set, List.length_append, List.length_take, List.length_drop, List.length_replicate, List.length_cons, List.length_nil, lenMax, capMax, Int.toNat_natCast, gt_iff_lt, ge_iff_le] at *); (try simp (disch := omega) only [wr, wru, shr1, Int.tdiv_eq_ediv_of_nonneg] at *)); assumption))) (fun _ _ => ?_); conv => whnf)
    | (apply WpD.id; first
      | (refine WpD.walk rfl ?_; conv => whnf))
  all_goals clear h1 h2 h3 h5 h6 h7 h8 ob1 ob2
  all_goals ((try simp only [decide_eq_true_eq, decide_eq_false_iff_not, cond_true, cond_false, beq_iff_eq, beq_eq_false_iff_ne, bne_iff_ne, bne_eq_false_iff_eq, ne_eq, Bool.not_eq_true', Bool.not_eq_false', Bool.not_eq_eq_eq_not, Bool.not_true, Bool.not_false, sLe_eq, Bool.and_eq_true, Bool.and_eq_false_iff, List.length_map, List.length_set, List.length_append, List.length_take, List.length_drop, List.length_replicate, List.length_cons, List.length_nil, lenMax, capMax, Int.toNat_natCast, gt_iff_lt, ge_iff_le] at *); (try simp (disch := omega) only [wr, wru, shr1, Int.tdiv_eq_ediv_of_nonneg] at *))
  all_goals try (exfalso; omega)
  refine ⟨_, ?_, rfl⟩
  refine ⟨⟨rfl, _, rfl, ?_, ?_⟩, rfl, ⟨rfl, rfl, trivial⟩, trivial⟩
  · rw [List.take_of_length_le (by simp), List.drop_zero]
  · simp
theorem c_Try_full1 (z : Bool) (l : List Ge) (h f t : ByteArray) (now : Int) (hb : tF0 l (ent h f t now) now = (0, 0)) (hh : hG (ent h f t now).key l = true) {x : Ge} (hx : l[pG (ent h f t now).key l]? = some x) (hlt : ¬ now < x.b) (he : exp' x now = true) (hfull : (live' now l).length = 300) :
    CallV tab 11 [ges z l, .str h, .str f, .str t, .int .i64 now] (· = .tup [.sl 6 true [], .bool false, fv (2, -1)]) := by
  obtain ⟨a, b, c⟩ := tF_ok hb
  obtain ⟨hl, hr, hs⟩ := gchk_ok a
  have hmlen := live_len now l
  have hms : SG (live' now l) := sort_filter _ hs
  have h1 := c_Validate z l
  have h2 := c_named (ent h f t now)
  have h3 := c_Search z l (ent h f t now) ⟨by omega, hs⟩
  have hx2 := (hr x (List.mem_of_getElem? hx)).2
  unfold gOk at hx2
  have h4 := c_expired x now ⟨by unfold rg; omega, by unfold rg; omega, c⟩
  rw [he] at h4
  have h5 := c_Clone z l (by omega)
  have h6 := c_Delete' l now hl hr c
  have h7 := c_Search false (live' now l) (ent h f t now) ⟨by omega, hms⟩
  have hpm := posL_le (lt := lt3) (key := Ge.key) (ent h f t now).key (live' now l)
  have h8 := c_Insert' (live' now l) (ent h f t now) (pG (ent h f t now).key (live' now l)) hpm (by omega)
  rw [a] at h1
  rw [b] at h2
  rw [hh] at h3
  unfold rg at c
  have hfl : (((List.map Ge.row (live' now l)).length : Int) == 300) = true := by simp; omega
  clear hb hh hr hs
  generalize pG (ent h f t now).key l = p at *
  generalize pG (ent h f t now).key (live' now l) = q at *
  generalize hG (ent h f t now).key (live' now l) = qb at *
  generalize live' now l = m at *
  have hplt : p < l.length := lt_get hx
  have hix : (List.map Ge.row l)[((p : Nat) : Int).toNat]? = some x.row := by rw [Int.toNat_natCast, List.getElem?_map, hx]; rfl
  have hx3 : l[0 + ((p : Nat) : Int).toNat]? = some x := by simpa using hx
  have ob1 : ∀ H : Nat → Ob, H 4 = .arr 6 ((l.map Ge.row).map fun r => r.map .v) → H 0 = .arr 1 (vrows [[.int .i64 now]]) → ∀ (i p : Nat), [4, 0][i]? = some p → obLe [4, 0] (H p) (obAt [.arr 6 (vrows (l.map Ge.row)), .arr 1 (vrows [[.int .i64 now]])] i) := by
    intro H h4 h0 i p h
    match i, h with
    | 0, h => simp at h; subst h; rw [h4]; exact obLe_v rfl
    | 1, h => simp at h; subst h; rw [h0]; exact obLe_v rfl
    | i + 2, h => simp at h
  have ob2 : ∀ H : Nat → Ob, H 5 = .arr 6 ((m.map Ge.row).map fun r => r.map .v) → H 6 = .arr 6 (vrows [(ent h f t now).row]) → ∀ (i p : Nat), [5, 6][i]? = some p → obLe [5, 6] (H p) (obAt [.arr 6 (vrows (m.map Ge.row)), .arr 6 (vrows [(ent h f t now).row])] i) := by
    intro H h4 h0 i p h
    match i, h with
    | 0, h => simp at h; subst h; rw [h4]; exact obLe_v rfl
    | 1, h => simp at h; subst h; rw [h0]; exact obLe_v rfl
    | i + 2, h => simp at h
  refine callV_of Try.func11 rfl (Nat.le_of_ble_eq_true rfl) (by kernel_rfl) ?_
  repeat' first
    | (apply Br.id; first
      | (apply Br.tt; try conv => whnf)
      | (apply Br.ff; try conv => whnf)
      | (refine Br.of_t (by assumption) ?_; conv => whnf)
      | (refine Br.of_f (by assumption) ?_; conv => whnf)
      | (refine Br.mk (fun _ => ?_) (fun _ => ?_) <;> try conv => whnf))
    | (apply CallOp.id; first
      | (refine call_eat [] h5 rfl rfl rfl rfl rfl rfl List.nodup_nil rfl (by simp) (fun i p h => by simp at h) (fun xs hxs => ?_); subst hxs; conv => whnf)
      | (refine call_eat [4, 0] h6 rfl rfl rfl rfl rfl rfl (by decide) rfl (by decide) (ob1 _ rfl rfl) (fun xs hxs => ?_); subst hxs; conv => whnf)
      | (refine call_eatD [4, 0] h6 rfl rfl rfl rfl rfl rfl (by decide) rfl (by decide) (ob1 _ rfl rfl) ?_; conv => whnf)
      | (refine call_eat [5, 6] h8 rfl rfl rfl rfl rfl rfl (by decide) rfl (by decide) (ob2 _ rfl rfl) (fun xs hxs => ?_); subst hxs; conv => whnf)
      | (refine call_eatD [5, 6] h8 rfl rfl rfl rfl rfl rfl (by decide) rfl (by decide) (ob2 _ rfl rfl) ?_; conv => whnf)
      | (refine call_rdV h7 rfl rfl rfl rfl ⟨DV_arr rfl (by simp), ⟨rfl, rfl, rfl, rfl, rfl, rfl, trivial⟩, rfl, trivial⟩ rfl ?_; conv => whnf)
      | (refine call_rdVD h7 rfl rfl rfl rfl ⟨DV_arr rfl (by simp), ⟨rfl, rfl, rfl, rfl, rfl, rfl, trivial⟩, rfl, trivial⟩ rfl ?_; conv => whnf)
      | (refine call_at rfl rfl rfl rfl rfl ?_)
      | (refine call_rd rfl rfl rfl rfl rfl ?_)
      | (refine CallOp.std ?_; (conv => whnf); fail_if_success refine (?_ : False)))
    | (apply CallDet.id; first
      | (refine call_eat [] h5 rfl rfl rfl rfl rfl rfl List.nodup_nil rfl (by simp) (fun i p h => by simp at h) (fun xs hxs => ?_); subst hxs; conv => whnf)
      | (refine call_eat [4, 0] h6 rfl rfl rfl rfl rfl rfl (by decide) rfl (by decide) (ob1 _ rfl rfl) (fun xs hxs => ?_); subst hxs; conv => whnf)
      | (refine call_eatD [4, 0] h6 rfl rfl rfl rfl rfl rfl (by decide) rfl (by decide) (ob1 _ rfl rfl) ?_; conv => whnf)
      | (refine call_eat [5, 6] h8 rfl rfl rfl rfl rfl rfl (by decide) rfl (by decide) (ob2 _ rfl rfl) (fun xs hxs => ?_); subst hxs; conv => whnf)
      | (refine call_eatD [5, 6] h8 rfl rfl rfl rfl rfl rfl (by decide) rfl (by decide) (ob2 _ rfl rfl) ?_; conv => whnf)
      | (refine call_rdV h7 rfl rfl rfl rfl ⟨DV_arr rfl (by simp), ⟨rfl, rfl, rfl, rfl, rfl, rfl, trivial⟩, rfl, trivial⟩ rfl ?_; conv => whnf)
      | (refine call_rdVD h7 rfl rfl rfl rfl ⟨DV_arr rfl (by simp), ⟨rfl, rfl, rfl, rfl, rfl, rfl, trivial⟩, rfl, trivial⟩ rfl ?_; conv => whnf)
      | (refine call_atD rfl rfl rfl rfl rfl ?_)
      | (refine call_rdD rfl rfl rfl rfl rfl ?_)
      | (refine CallDet.std ?_; (conv => whnf); fail_if_success refine (?_ : False)))
    | (apply CallAt.id; first
      | (apply CallAt.mk1 (h1); conv => whnf)
      | (apply CallAt.mk1 (h2); conv => whnf)
      | (apply CallAt.mk1 (h3); conv => whnf)
      | (apply CallAt.mk1 (h4); conv => whnf))
    | (apply CallRd.id; first
      | (apply CallRd.mk1 (h1); (· rfl); conv => whnf)
      | (apply CallRd.mk1 (h2); (· rfl); conv => whnf)
      | (apply CallRd.mk1 (h3); (· rfl); conv => whnf)
      | (apply CallRd.mk1 (h4); (· rfl); conv => whnf))
    | (refine EndOk.mk (by kernel_rfl) ?_; conv => whnf)
    | (refine And.intro (by (first | decide | exact trivial | omega | exact Nat.le_refl _ | (((try simp only [decide_eq_true_eq, decide_eq_false_iff_not, cond_true, cond_false, beq_iff_eq, beq_eq_false_iff_ne, bne_iff_ne, bne_eq_false_iff_eq, ne_eq, Bool.not_eq_true', Bool.not_eq_false', Bool.not_eq_eq_eq_not, Bool.not_true, Bool.not_false, sLe_eq, Bool.and_eq_true, Bool.and_eq_false_iff, List.length_map, List.length_set, List.length_append, List.length_take, List.length_drop, List.length_replicate, List.length_cons, List.length_nil, lenMax, capMax, Int.toNat_natCast, gt_iff_lt, ge_iff_le] at *); (try simp (disch := omega) only [wr, wru, shr1, Int.tdiv_eq_ediv_of_nonneg] at *)); omega) | (((try simp only [decide_eq_true_eq, decide_eq_false_iff_not, cond_true, cond_false, beq_iff_eq, beq_eq_false_iff_ne, bne_iff_ne, bne_eq_false_iff_eq, ne_eq, Bool.not_eq_true', Bool.not_eq_false', Bool.not_eq_eq_eq_not, Bool.not_true, Bool.not_false, sLe_eq, Bool.and_eq_true, Bool.and_eq_false_iff, List.length_map, List.length_set, List.length_append, List.length_take, List.length_drop, List.length_replicate, List.length_cons, List.length_nil, lenMax, capMax, Int.toNat_natCast, gt_iff_lt, ge_iff_le] at *); (try simp (disch := omega) only [wr, wru, shr1, Int.tdiv_eq_ediv_of_nonneg] at *)); assumption))) ?_; conv => whnf)
    | (refine Exists.intro _ (And.intro hix ?_); conv => whnf)
    | (refine idxOld (by assumption) ?_; conv => whnf)
    | (refine idxMap (by (first | decide | exact trivial | omega | exact Nat.le_refl _ | (((try simp only [decide_eq_true_eq, decide_eq_false_iff_not, cond_true, cond_false, beq_iff_eq, beq_eq_false_iff_ne, bne_iff_ne, bne_eq_false_iff_eq, ne_eq, Bool.not_eq_true', Bool.not_eq_false', Bool.not_eq_eq_eq_not, Bool.not_true, Bool.not_false, sLe_eq, Bool.and_eq_true, Bool.and_eq_false_iff, List.length_map, List.length_set, List.length_append, List.length_take, List.length_drop, List.length_replicate, List.length_cons, List.length_nil, lenMax, capMax, Int.toNat_natCast, gt_iff_lt, ge_iff_le] at *); (try simp (disch := omega) only [wr, wru, shr1, Int.tdiv_eq_ediv_of_nonneg] at *)); omega) | (((try simp only [decide_eq_true_eq, decide_eq_false_iff_not, cond_true, cond_false, beq_iff_eq, beq_eq_false_iff_ne, bne_iff_ne, bne_eq_false_iff_eq, ne_eq, Bool.not_eq_true', Bool.not_eq_false', Bool.not_eq_eq_eq_not, Bool.not_true, Bool.not_false, sLe_eq, Bool.and_eq_true, Bool.and_eq_false_iff, List.length_map, List.length_set, List.length_append, List.length_take, List.length_drop, List.length_replicate, List.length_cons, List.length_nil, lenMax, capMax, Int.toNat_natCast, gt_iff_lt, ge_iff_le] at *); (try simp (disch := omega) only [wr, wru, shr1, Int.tdiv_eq_ediv_of_nonneg] at *)); assumption))) (fun _ _ => ?_); conv => whnf)
    | refine Exists.intro _ (And.intro (DV_toV rfl) ?_)
    | (refine rowSet (by (first | decide | exact trivial | omega | exact Nat.le_refl _ | (((try simp only [decide_eq_true_eq, decide_eq_false_iff_not, cond_true, cond_false, beq_iff_eq, beq_eq_false_iff_ne, bne_iff_ne, bne_eq_false_iff_eq, ne_eq, Bool.not_eq_true', Bool.not_eq_false', Bool.not_eq_eq_eq_not, Bool.not_true, Bool.not_false, sLe_eq, Bool.and_eq_true, Bool.and_eq_false_iff, List.length_map, List.length_set, List.length_append, List.length_take, List.length_drop, List.length_replicate, List.length_cons, List.length_nil, lenMax, capMax, Int.toNat_natCast, gt_iff_lt, ge_iff_le] at *); (try simp (disch := omega) only [wr, wru, shr1, Int.tdiv_eq_ediv_of_nonneg] at *)); omega) | (((try simp only [decide_eq_true_eq, decide_eq_false_iff_not, cond_true, cond_false, beq_iff_eq, beq_eq_false_iff_ne, bne_iff_ne, bne_eq_false_iff_eq, ne_eq, Bool.not_eq_true', Bool.not_eq_false', Bool.not_eq_eq_eq_not, Bool.not_true, Bool.not_false, sLe_eq, Bool.and_eq_true, Bool.and_eq_false_iff, List.length_map, List.length_set, List.length_append, List.length_take, List.length_drop, List.length_replicate, List.length_cons, List.length_nil, lenMax, capMax, Int.toNat_natCast, gt_iff_lt, ge_iff_le] at *); (try simp (disch := omega) only [wr, wru, shr1, Int.tdiv_eq_ediv_of_nonneg] at *)); assumption))) ?_; conv => whnf)
    | (refine rowOld (by assumption) ?_; conv => whnf)
    | (refine rowNew (by (first | decide | exact trivial | omega | exact Nat.le_refl _ | (((try simp only [decide_eq_true_eq, decide_eq_false_iff_not, cond_true, cond_false, beq_iff_eq, beq_eq_false_iff_ne, bne_iff_ne, bne_eq_false_iff_eq, ne_eq, Bool.not_eq_true', Bool.not_eq_false', Bool.not_eq_eq_eq_not, Bool.not_true, Bool.not_false, sLe_eq, Bool.and_eq_true, Bool.and_eq_false_iff, List.length_map, List.length_set, List.length_append, List.length_take, List.length_drop, List.length_replicate, List.length_cons, List.length_nil, lenMax, capMax, Int.toNat_natCast, gt_iff_lt, ge_iff_le] at *); (try simp (disch := omega) only [wr, wru, shr1, Int.tdiv_eq_ediv_of_nonneg] at *)); omega) | (((try simp only [decide_eq_true_eq, decide_eq_false_iff_not, cond_true, cond_false, beq_iff_eq, beq_eq_false_iff_ne, bne_iff_ne, bne_eq_false_iff_eq, ne_eq, Bool.not_eq_true', Bool.not_eq_false', Bool.not_eq_eq_eq_not, Bool.not_true, Bool.not_false, sLe_eq, Bool.and_eq_true, Bool.and_eq_false_iff, List.length_map, List.length_set, List.length_append, List.length_take, List.length_drop, List.length_replicate, List.length_cons, List.length_nil, lenMax, capMax, Int.toNat_natCast, gt_iff_lt, ge_iff_le] at *); (try simp (disch := omega) only [wr, wru, shr1, Int.tdiv_eq_ediv_of_nonneg] at *)); assumption))) (fun _ _ => ?_); conv => whnf)
    | (apply WpD.id; first
      | (refine WpD.walk rfl ?_; conv => whnf))
  all_goals clear h1 h2 h3 h4 h5 h6 h7 h8 ob1 ob2
  all_goals ((try simp only [decide_eq_true_eq, decide_eq_false_iff_not, cond_true, cond_false, beq_iff_eq, beq_eq_false_iff_ne, bne_iff_ne, bne_eq_false_iff_eq, ne_eq, Bool.not_eq_true', Bool.not_eq_false', Bool.not_eq_eq_eq_not, Bool.not_true, Bool.not_false, sLe_eq, Bool.and_eq_true, Bool.and_eq_false_iff, List.length_map, List.length_set, List.length_append, List.length_take, List.length_drop, List.length_replicate, List.length_cons, List.length_nil, lenMax, capMax, Int.toNat_natCast, gt_iff_lt, ge_iff_le] at *); (try simp (disch := omega) only [wr, wru, shr1, Int.tdiv_eq_ediv_of_nonneg] at *))
  all_goals try (exfalso; omega)
  all_goals rfl
theorem c_Try_ins1 (z : Bool) (l : List Ge) (h f t : ByteArray) (now : Int) (hb : tF0 l (ent h f t now) now = (0, 0)) (hh : hG (ent h f t now).key l = true) {x : Ge} (hx : l[pG (ent h f t now).key l]? = some x) (hlt : ¬ now < x.b) (he : exp' x now = true) (hfull : (live' now l).length ≠ 300) :
    CallV tab 11 [ges z l, .str h, .str f, .str t, .int .i64 now] (· = .tup [ges false ((live' now l).take (pG (ent h f t now).key (live' now l)) ++ ent h f t now :: (live' now l).drop (pG (ent h f t now).key (live' now l))), .bool false, fv (0, 0)]) := by
  obtain ⟨a, b, c⟩ := tF_ok hb
  obtain ⟨hl, hr, hs⟩ := gchk_ok a
  have hmlen := live_len now l
  have hms : SG (live' now l) := sort_filter _ hs
  have h1 := c_Validate z l
  have h2 := c_named (ent h f t now)
  have h3 := c_Search z l (ent h f t now) ⟨by omega, hs⟩
  have hx2 := (hr x (List.mem_of_getElem? hx)).2
  unfold gOk at hx2
  have h4 := c_expired x now ⟨by unfold rg; omega, by unfold rg; omega, c⟩
  rw [he] at h4
  have h5 := c_Clone z l (by omega)
  have h6 := c_Delete' l now hl hr c
  have h7 := c_Search false (live' now l) (ent h f t now) ⟨by omega, hms⟩
  have hpm := posL_le (lt := lt3) (key := Ge.key) (ent h f t now).key (live' now l)
  have h8 := c_Insert' (live' now l) (ent h f t now) (pG (ent h f t now).key (live' now l)) hpm (by omega)
  rw [a] at h1
  rw [b] at h2
  rw [hh] at h3
  unfold rg at c
  have hfl : (((List.map Ge.row (live' now l)).length : Int) == 300) = false := by simp; omega
  clear hb hh hr hs
  generalize pG (ent h f t now).key l = p at *
  generalize pG (ent h f t now).key (live' now l) = q at *
  generalize hG (ent h f t now).key (live' now l) = qb at *
  generalize live' now l = m at *
  have hplt : p < l.length := lt_get hx
  have hix : (List.map Ge.row l)[((p : Nat) : Int).toNat]? = some x.row := by rw [Int.toNat_natCast, List.getElem?_map, hx]; rfl
  have hx3 : l[0 + ((p : Nat) : Int).toNat]? = some x := by simpa using hx
  have ob1 : ∀ H : Nat → Ob, H 4 = .arr 6 ((l.map Ge.row).map fun r => r.map .v) → H 0 = .arr 1 (vrows [[.int .i64 now]]) → ∀ (i p : Nat), [4, 0][i]? = some p → obLe [4, 0] (H p) (obAt [.arr 6 (vrows (l.map Ge.row)), .arr 1 (vrows [[.int .i64 now]])] i) := by
    intro H h4 h0 i p h
    match i, h with
    | 0, h => simp at h; subst h; rw [h4]; exact obLe_v rfl
    | 1, h => simp at h; subst h; rw [h0]; exact obLe_v rfl
    | i + 2, h => simp at h
  have ob2 : ∀ H : Nat → Ob, H 5 = .arr 6 ((m.map Ge.row).map fun r => r.map .v) → H 6 = .arr 6 (vrows [(ent h f t now).row]) → ∀ (i p : Nat), [5, 6][i]? = some p → obLe [5, 6] (H p) (obAt [.arr 6 (vrows (m.map Ge.row)), .arr 6 (vrows [(ent h f t now).row])] i) := by
    intro H h4 h0 i p h
    match i, h with
    | 0, h => simp at h; subst h; rw [h4]; exact obLe_v rfl
    | 1, h => simp at h; subst h; rw [h0]; exact obLe_v rfl
    | i + 2, h => simp at h
  refine callV_of Try.func11 rfl (Nat.le_of_ble_eq_true rfl) (by kernel_rfl) ?_
  repeat' first
    | (apply Br.id; first
      | (apply Br.tt; try conv => whnf)
      | (apply Br.ff; try conv => whnf)
      | (refine Br.of_t (by assumption) ?_; conv => whnf)
      | (refine Br.of_f (by assumption) ?_; conv => whnf)
      | (refine Br.mk (fun _ => ?_) (fun _ => ?_) <;> try conv => whnf))
    | (apply CallOp.id; first
      | (refine call_eat [] h5 rfl rfl rfl rfl rfl rfl List.nodup_nil rfl (by simp) (fun i p h => by simp at h) (fun xs hxs => ?_); subst hxs; conv => whnf)
      | (refine call_eat [4, 0] h6 rfl rfl rfl rfl rfl rfl (by decide) rfl (by decide) (ob1 _ rfl rfl) (fun xs hxs => ?_); subst hxs; conv => whnf)
      | (refine call_eatD [4, 0] h6 rfl rfl rfl rfl rfl rfl (by decide) rfl (by decide) (ob1 _ rfl rfl) ?_; conv => whnf)
      | (refine call_eat [5, 6] h8 rfl rfl rfl rfl rfl rfl (by decide) rfl (by decide) (ob2 _ rfl rfl) (fun xs hxs => ?_); subst hxs; conv => whnf)
      | (refine call_eatD [5, 6] h8 rfl rfl rfl rfl rfl rfl (by decide) rfl (by decide) (ob2 _ rfl rfl) ?_; conv => whnf)
      | (refine call_rdV h7 rfl rfl rfl rfl ⟨DV_arr rfl (by simp), ⟨rfl, rfl, rfl, rfl, rfl, rfl, trivial⟩, rfl, trivial⟩ rfl ?_; conv => whnf)
      | (refine call_rdVD h7 rfl rfl rfl rfl ⟨DV_arr rfl (by simp), ⟨rfl, rfl, rfl, rfl, rfl, rfl, trivial⟩, rfl, trivial⟩ rfl ?_; conv => whnf)
      | (refine call_at rfl rfl rfl rfl rfl ?_)
      | (refine call_rd rfl rfl rfl rfl rfl ?_)
      | (refine CallOp.std ?_; (conv => whnf); fail_if_success refine (?_ : False)))
    | (apply CallDet.id; first
      | (refine call_eat [] h5 rfl rfl rfl rfl rfl rfl List.nodup_nil rfl (by simp) (fun i p h => by simp at h) (fun xs hxs => ?_); subst hxs; conv => whnf)
      | (refine call_eat [4, 0] h6 rfl rfl rfl rfl rfl rfl (by decide) rfl (by decide) (ob1 _ rfl rfl) (fun xs hxs => ?_); subst hxs; conv => whnf)
      | (refine call_eatD [4, 0] h6 rfl rfl rfl rfl rfl rfl (by decide) rfl (by decide) (ob1 _ rfl rfl) ?_; conv => whnf)
      | (refine call_eat [5, 6] h8 rfl rfl rfl rfl rfl rfl (by decide) rfl (by decide) (ob2 _ rfl rfl) (fun xs hxs => ?_); subst hxs; conv => whnf)
      | (refine call_eatD [5, 6] h8 rfl rfl rfl rfl rfl rfl (by decide) rfl (by decide) (ob2 _ rfl rfl) ?_; conv => whnf)
      | (refine call_rdV h7 rfl rfl rfl rfl ⟨DV_arr rfl (by simp), ⟨rfl, rfl, rfl, rfl, rfl, rfl, trivial⟩, rfl, trivial⟩ rfl ?_; conv => whnf)
      | (refine call_rdVD h7 rfl rfl rfl rfl ⟨DV_arr rfl (by simp), ⟨rfl, rfl, rfl, rfl, rfl, rfl, trivial⟩, rfl, trivial⟩ rfl ?_; conv => whnf)
      | (refine call_atD rfl rfl rfl rfl rfl ?_)
      | (refine call_rdD rfl rfl rfl rfl rfl ?_)
      | (refine CallDet.std ?_; (conv => whnf); fail_if_success refine (?_ : False)))
    | (apply CallAt.id; first
      | (apply CallAt.mk1 (h1); conv => whnf)
      | (apply CallAt.mk1 (h2); conv => whnf)
      | (apply CallAt.mk1 (h3); conv => whnf)
      | (apply CallAt.mk1 (h4); conv => whnf))
    | (apply CallRd.id; first
      | (apply CallRd.mk1 (h1); (· rfl); conv => whnf)
      | (apply CallRd.mk1 (h2); (· rfl); conv => whnf)
      | (apply CallRd.mk1 (h3); (· rfl); conv => whnf)
      | (apply CallRd.mk1 (h4); (· rfl); conv => whnf))
    | (refine EndOk.mk (by kernel_rfl) ?_; conv => whnf)
    | (refine And.intro (by (first | decide | exact trivial | omega | exact Nat.le_refl _ | (((try simp only [decide_eq_true_eq, decide_eq_false_iff_not, cond_true, cond_false, beq_iff_eq, beq_eq_false_iff_ne, bne_iff_ne, bne_eq_false_iff_eq, ne_eq, Bool.not_eq_true', Bool.not_eq_false', Bool.not_eq_eq_eq_not, Bool.not_true, Bool.not_false, sLe_eq, Bool.and_eq_true, Bool.and_eq_false_iff, List.length_map, List.length_set, List.length_append, List.length_take, List.length_drop, List.length_replicate, List.length_cons, List.length_nil, lenMax, capMax, Int.toNat_natCast, gt_iff_lt, ge_iff_le] at *); (try simp (disch := omega) only [wr, wru, shr1, Int.tdiv_eq_ediv_of_nonneg] at *)); omega) | (((try simp only [decide_eq_true_eq, decide_eq_false_iff_not, cond_true, cond_false, beq_iff_eq, beq_eq_false_iff_ne, bne_iff_ne, bne_eq_false_iff_eq, ne_eq, Bool.not_eq_true', Bool.not_eq_false', Bool.not_eq_eq_eq_not, Bool.not_true, Bool.not_false, sLe_eq, Bool.and_eq_true, Bool.and_eq_false_iff, List.length_map, List.length_set, List.length_append, List.length_take, List.length_drop, List.length_replicate, List.length_cons, List.length_nil, lenMax, capMax, Int.toNat_natCast, gt_iff_lt, ge_iff_le] at *); (try simp (disch := omega) only [wr, wru, shr1, Int.tdiv_eq_ediv_of_nonneg] at *)); assumption))) ?_; conv => whnf)
    | (refine Exists.intro _ (And.intro hix ?_); conv => whnf)
    | (refine idxOld (by assumption) ?_; conv => whnf)
    | (refine idxMap (by (first | decide | exact trivial | omega | exact Nat.le_refl _ | (((try simp only [decide_eq_true_eq, decide_eq_false_iff_not, cond_true, cond_false, beq_iff_eq, beq_eq_false_iff_ne, bne_iff_ne, bne_eq_false_iff_eq, ne_eq, Bool.not_eq_true', Bool.not_eq_false', Bool.not_eq_eq_eq_not, Bool.not_true, Bool.not_false, sLe_eq, Bool.and_eq_true, Bool.and_eq_false_iff, List.length_map, List.length_set, List.length_append, List.length_take, List.length_drop, List.length_replicate, List.length_cons, List.length_nil, lenMax, capMax, Int.toNat_natCast, gt_iff_lt, ge_iff_le] at *); (try simp (disch := omega) only [wr, wru, shr1, Int.tdiv_eq_ediv_of_nonneg] at *)); omega) | (((try simp only [decide_eq_true_eq, decide_eq_false_iff_not, cond_true, cond_false, beq_iff_eq, beq_eq_false_iff_ne, bne_iff_ne, bne_eq_false_iff_eq, ne_eq, Bool.not_eq_true', Bool.not_eq_false', Bool.not_eq_eq_eq_not, Bool.not_true, Bool.not_false, sLe_eq, Bool.and_eq_true, Bool.and_eq_false_iff, List.length_map, List.length_set, List.length_append, List.length_take, List.length_drop, List.length_replicate, List.length_cons, List.length_nil, lenMax, capMax, Int.toNat_natCast, gt_iff_lt, ge_iff_le] at *); (try simp (disch := omega) only [wr, wru, shr1, Int.tdiv_eq_ediv_of_nonneg] at *)); assumption))) (fun _ _ => ?_); conv => whnf)
    | refine Exists.intro _ (And.intro (DV_toV rfl) ?_)
    | (refine rowSet (by (first | decide | exact trivial | omega | exact Nat.le_refl _ | (((try simp only [decide_eq_true_eq, decide_eq_false_iff_not, cond_true, cond_false, beq_iff_eq, beq_eq_false_iff_ne, bne_iff_ne, bne_eq_false_iff_eq, ne_eq, Bool.not_eq_true', Bool.not_eq_false', Bool.not_eq_eq_eq_not, Bool.not_true, Bool.not_false, sLe_eq, Bool.and_eq_true, Bool.and_eq_false_iff, List.length_map, List.length_set, List.length_append, List.length_take, List.length_drop, List.length_replicate, List.length_cons, List.length_nil, lenMax, capMax, Int.toNat_natCast, gt_iff_lt, ge_iff_le] at *); (try simp (disch := omega) only [wr, wru, shr1, Int.tdiv_eq_ediv_of_nonneg] at *)); omega) | (((try simp only [decide_eq_true_eq, decide_eq_false_iff_not, cond_true, cond_false, beq_iff_eq, beq_eq_false_iff_ne, bne_iff_ne, bne_eq_false_iff_eq, ne_eq, Bool.not_eq_true', Bool.not_eq_false', Bool.not_eq_eq_eq_not, Bool.not_true, Bool.not_false, sLe_eq, Bool.and_eq_true, Bool.and_eq_false_iff, List.length_map, List.length_set, List.length_append, List.length_take, List.length_drop, List.length_replicate, List.length_cons, List.length_nil, lenMax, capMax, Int.toNat_natCast, gt_iff_lt, ge_iff_le] at *); (try simp (disch := omega) only [wr, wru, shr1, Int.tdiv_eq_ediv_of_nonneg] at *)); assumption))) ?_; conv => whnf)
    | (refine rowOld (by assumption) ?_; conv => whnf)
    | (refine rowNew (by (first | decide | exact trivial | omega | exact Nat.le_refl _ | (((try simp only [decide_eq_true_eq, decide_eq_false_iff_not, cond_true, cond_false, beq_iff_eq, beq_eq_false_iff_ne, bne_iff_ne, bne_eq_false_iff_eq, ne_eq, Bool.not_eq_true', Bool.not_eq_false', Bool.not_eq_eq_eq_not, Bool.not_true, Bool.not_false, sLe_eq, Bool.and_eq_true, Bool.and_eq_false_iff, List.length_map, List.length_set, List.length_append, List.length_take, List.length_drop, List.length_replicate, List.length_cons, List.length_nil, lenMax, capMax, Int.toNat_natCast, gt_iff_lt, ge_iff_le] at *); (try simp (disch := omega) only [wr, wru, shr1, Int.tdiv_eq_ediv_of_nonneg] at *)); omega) | (((try simp only [decide_eq_true_eq, decide_eq_false_iff_not, cond_true, cond_false, beq_iff_eq, beq_eq_false_iff_ne, bne_iff_ne, bne_eq_false_iff_eq, ne_eq, Bool.not_eq_true', Bool.not_eq_false', Bool.not_eq_eq_eq_not, Bool.not_true, Bool.not_false, sLe_eq, Bool.and_eq_true, Bool.and_eq_false_iff, List.length_map, List.length_set, List.length_append, List.length_take, List.length_drop, List.length_replicate, List.length_cons, List.length_nil, lenMax, capMax, Int.toNat_natCast, gt_iff_lt, ge_iff_le] at *); (try simp (disch := omega) only [wr, wru, shr1, Int.tdiv_eq_ediv_of_nonneg] at *)); assumption))) (fun _ _ => ?_); conv => whnf)
    | (apply WpD.id; first
      | (refine WpD.walk rfl ?_; conv => whnf))
  all_goals clear h1 h2 h3 h4 h5 h6 h7 h8 ob1 ob2
  all_goals ((try simp only [decide_eq_true_eq, decide_eq_false_iff_not, cond_true, cond_false, beq_iff_eq, beq_eq_false_iff_ne, bne_iff_ne, bne_eq_false_iff_eq, ne_eq, Bool.not_eq_true', Bool.not_eq_false', Bool.not_eq_eq_eq_not, Bool.not_true, Bool.not_false, sLe_eq, Bool.and_eq_true, Bool.and_eq_false_iff, List.length_map, List.length_set, List.length_append, List.length_take, List.length_drop, List.length_replicate, List.length_cons, List.length_nil, lenMax, capMax, Int.toNat_natCast, gt_iff_lt, ge_iff_le] at *); (try simp (disch := omega) only [wr, wru, shr1, Int.tdiv_eq_ediv_of_nonneg] at *))
  all_goals try (exfalso; omega)
  refine ⟨_, ?_, rfl⟩
  refine ⟨⟨rfl, _, rfl, ?_, ?_⟩, rfl, ⟨rfl, rfl, trivial⟩, trivial⟩
  · rw [List.take_of_length_le (by simp), List.drop_zero]
  · simp
end Go.DL
