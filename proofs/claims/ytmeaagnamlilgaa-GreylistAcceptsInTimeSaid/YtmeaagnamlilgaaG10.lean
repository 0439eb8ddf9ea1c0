/- The greylist: Tried, the reference's attempt: where the names, the instant or the list are at fault. No condition. -/
import Derived.Test.YtmeaagnamlilgaaG9
set_option linter.unusedVariables false
set_option linter.unusedSimpArgs false
set_option maxHeartbeats 4000000
namespace Go.DL
open Go.Proofs

theorem key_ne {l : List Ge} (hs : SG l) {k : K3} (hh : hG k l = false) {j : Nat} {x : Ge} (hx : l[j]? = some x) : x.key ≠ k := by
  have hn := hasL_no ord3 hs hh
  rintro rfl
  rw [getL_is ord3 hs (List.mem_of_getElem? hx)] at hn
  cases hn
def tS (z : Bool) (l : List Ge) (e : Ge) (now th : Int) (k : Nat) : St :=
  ⟨[(0, .v (ges z l)), (4, .v (.int .i64 now)), (12, .ptr 0 0 0), (14, .ptr 1 0 0), (15, .v (.int .i64 th)), (16, .v (.int .i64 k))], [.arr 2 (vrows [[.int .i64 0, .int .i64 0]]), .arr 6 (vrows [e.row])], []⟩
/-- The list that the second loop makes of what lies behind. -/
def bF (e : Ge) (now : Int) : Bool → List Ge → List Ge
  | dn, [] => if dn then [] else [e]
  | dn, x :: r => if exp' x now = true then bF e now dn r else (if dn = false ∧ lt3 e.key x.key = true then [e] else []) ++ [x] ++ bF e now (dn || lt3 e.key x.key) r
def uS (z : Bool) (l : List Ge) (e : Ge) (now : Int) (k : Nat × Bool × List Ge) : St :=
  ⟨[(0, .v (ges z l)), (4, .v (.int .i64 now)), (12, .ptr 0 0 0), (14, .ptr 1 0 0), (18, .arr 2 0 k.2.2.length), (19, .v (.bool k.2.1)), (20, .v (.int .i64 (live' now (l.take k.1)).length)), (21, .v (.int .i64 k.1))], [.arr 2 (vrows [[.int .i64 0, .int .i64 0]]), .arr 6 (vrows [e.row]), .arr 6 (vrows (k.2.2.map Ge.row))], []⟩
def uP (l : List Ge) (e : Ge) (now : Int) (k : Nat × Bool × List Ge) : Prop := k.1 ≤ l.length ∧ k.2.2.length ≤ k.1 + 1 ∧ (k.2.1 = false → k.2.2.length ≤ k.1) ∧ (live' now (l.take k.1)).length ≤ k.1 ∧ bF e now false l = k.2.2 ++ bF e now k.2.1 (l.drop k.1)
theorem live_succ_t {l : List Ge} {k : Nat} {x : Ge} {now : Int} (hx : l[k]? = some x) (he : exp' x now = true) : live' now (l.take (k + 1)) = live' now (l.take k) := by
  unfold live'; rw [take_get hx, List.filter_append]; simp [he]
theorem live_succ_f {l : List Ge} {k : Nat} {x : Ge} {now : Int} (hx : l[k]? = some x) (he : exp' x now = false) : (live' now (l.take (k + 1))).length = (live' now (l.take k)).length + 1 := by
  unfold live'; rw [take_get hx, List.filter_append]; simp [he]
theorem bF_done {e : Ge} {now : Int} : ∀ l : List Ge, bF e now true l = live' now l
  | [] => rfl
  | x :: r => by
    simp only [bF, live', List.filter_cons]
    by_cases h : exp' x now = true
    · rw [if_pos h]; simp [h, bF_done r, live']
    · have h' : exp' x now = false := by simpa using h
      rw [if_neg h]; simp [h', bF_done r, live']
theorem bF_put {e : Ge} {now : Int} : ∀ {l : List Ge}, SG l → gG e.key (live' now l) = none → bF e now false l = puG e (live' now l)
  | [], _, _ => rfl
  | x :: r, hs, hg => by
    have hs' := hs
    unfold SG SortL at hs
    rw [List.pairwise_cons] at hs
    by_cases h : exp' x now = true
    · have e1 : live' now (x :: r) = live' now r := by unfold live'; rw [List.filter_cons]; simp [h]
      rw [e1] at hg ⊢
      simp only [bF]
      rw [if_pos h]; exact bF_put hs.2 hg
    · have h' : exp' x now = false := by simpa using h
      have e1 : live' now (x :: r) = x :: live' now r := by unfold live'; rw [List.filter_cons]; simp [h']
      rw [e1] at hg ⊢
      unfold gG at hg
      simp only [getL] at hg
      have hxe : ¬ x.key = e.key := by intro e2; rw [if_pos e2] at hg; cases hg
      rw [if_neg hxe] at hg
      simp only [bF]
      rw [if_neg h]
      unfold puG
      simp only [putL]
      rcases ord3.tri x.key e.key with c | c | c
      · rw [if_pos c, ord3.asymm c]
        simp only [Bool.false_eq_true, and_false, if_false, List.nil_append, Bool.or_false, List.singleton_append]
        rw [bF_put hs.2 hg]
      · exact absurd c hxe
      · rw [if_pos ⟨trivial, c⟩, if_neg (by rw [ord3.asymm c]; simp), if_neg hxe, c, Bool.or_true, bF_done]
        simp
theorem c_Tried_no (z : Bool) (l : List Ge) (h f t : ByteArray) (now : Int) (hb : tF0 l (ent h f t now) now = (0, 0)) (hh : hG (ent h f t now).key l = false) : CallV tab 12 [ges z l, .str h, .str f, .str t, .int .i64 now] (· = .tup [outV (freshF l (ent h f t now) now), .bool false, fv (freshF l (ent h f t now) now).2]) := by
  obtain ⟨a, b, c⟩ := tF_ok hb
  obtain ⟨hl, hr, hs⟩ := gchk_ok a
  have h1 := c_GreyFault z l
  have h2 := c_GreyNames (ent h f t now)
  have h3 := c_Instant now
  have hne : ∀ (j : Nat) (x : Ge), l[j]? = some x → x.key ≠ (ent h f t now).key := fun j x hx => key_ne hs hh hx
  rw [a] at h1
  rw [b] at h2
  have c' := c
  unfold rg at c'
  rw [show (decide (-68719476736 ≤ now) && decide (now ≤ 68719476736)) = true by simp; omega] at h3
  have hold : ∀ (j : Nat) (x : Ge), l[j]? = some x → CallV tab 36 [.agg x.row, .int .i64 now] (· = .bool (exp' x now)) := fun j x hx => by
    have := (hr x (List.mem_of_getElem? hx)).2
    unfold gOk at this
    exact c_GreyOld x now ⟨by unfold rg; omega, by unfold rg; omega, c⟩
  refine callV_of Try.func12 rfl (Nat.le_of_ble_eq_true rfl) (by kernel_rfl) ?_
  repeat' first
    | (apply Br.id; first
      | (apply Br.tt; try conv => whnf)
      | (apply Br.ff; try conv => whnf)
      | (refine Br.of_t (by assumption) ?_; conv => whnf)
      | (refine Br.of_f (by assumption) ?_; conv => whnf)
      | (refine Br.mk (fun _ => ?_) (fun _ => ?_) <;> try conv => whnf))
    | (apply CallOp.id; first
      | (refine call_at rfl rfl rfl rfl rfl ?_)
      | (refine call_rd rfl rfl rfl rfl rfl ?_)
      | (refine CallOp.std ?_; (conv => whnf); fail_if_success refine (?_ : False)))
    | (apply CallDet.id; first
      | (refine call_atD rfl rfl rfl rfl rfl ?_)
      | (refine call_rdD rfl rfl rfl rfl rfl ?_)
      | (refine CallDet.std ?_; (conv => whnf); fail_if_success refine (?_ : False)))
    | (apply CallAt.id; first
      | (apply CallAt.mk1 (h1); conv => whnf)
      | (apply CallAt.mk1 (h2); conv => whnf)
      | (apply CallAt.mk1 (h3); conv => whnf)
      | (apply CallAt.mk1 (c_At _ _); conv => whnf)
      | (apply CallAt.mk1 (c_GreySame _ _); conv => whnf)
      | (apply CallAt.mk1 (c_GreyLess _ _); conv => whnf)
      | (apply CallAt.mk1 (hold _ _ (by assumption)); conv => whnf))
    | (apply CallRd.id; first
      | (apply CallRd.mk1 (h1); (· rfl); conv => whnf)
      | (apply CallRd.mk1 (h2); (· rfl); conv => whnf)
      | (apply CallRd.mk1 (h3); (· rfl); conv => whnf)
      | (apply CallRd.mk1 (c_At _ _); (· rfl); conv => whnf)
      | (apply CallRd.mk1 (c_GreySame _ _); (· rfl); conv => whnf)
      | (apply CallRd.mk1 (c_GreyLess _ _); (· rfl); conv => whnf))
    | (refine EndOk.mk (by kernel_rfl) ?_; conv => whnf)
    | (refine And.intro (by (first | decide | exact trivial | omega | exact Nat.le_refl _ | (((try simp only [decide_eq_true_eq, decide_eq_false_iff_not, cond_true, cond_false, beq_iff_eq, beq_eq_false_iff_ne, bne_iff_ne, bne_eq_false_iff_eq, ne_eq, Bool.not_eq_true', Bool.not_eq_false', Bool.not_eq_eq_eq_not, Bool.not_true, Bool.not_false, sLe_eq, Bool.and_eq_true, Bool.and_eq_false_iff, List.length_map, List.length_set, List.length_append, List.length_take, List.length_drop, List.length_replicate, List.length_cons, List.length_nil, lenMax, capMax, Int.toNat_natCast, gt_iff_lt, ge_iff_le] at *); (try simp (disch := omega) only [wr, wru, shr1, Int.tdiv_eq_ediv_of_nonneg] at *)); omega) | (((try simp only [decide_eq_true_eq, decide_eq_false_iff_not, cond_true, cond_false, beq_iff_eq, beq_eq_false_iff_ne, bne_iff_ne, bne_eq_false_iff_eq, ne_eq, Bool.not_eq_true', Bool.not_eq_false', Bool.not_eq_eq_eq_not, Bool.not_true, Bool.not_false, sLe_eq, Bool.and_eq_true, Bool.and_eq_false_iff, List.length_map, List.length_set, List.length_append, List.length_take, List.length_drop, List.length_replicate, List.length_cons, List.length_nil, lenMax, capMax, Int.toNat_natCast, gt_iff_lt, ge_iff_le] at *); (try simp (disch := omega) only [wr, wru, shr1, Int.tdiv_eq_ediv_of_nonneg] at *)); assumption))) ?_; conv => whnf)
    | (refine idxOld (by assumption) ?_; conv => whnf)
    | (refine idxMap (by (first | decide | exact trivial | omega | exact Nat.le_refl _ | (((try simp only [decide_eq_true_eq, decide_eq_false_iff_not, cond_true, cond_false, beq_iff_eq, beq_eq_false_iff_ne, bne_iff_ne, bne_eq_false_iff_eq, ne_eq, Bool.not_eq_true', Bool.not_eq_false', Bool.not_eq_eq_eq_not, Bool.not_true, Bool.not_false, sLe_eq, Bool.and_eq_true, Bool.and_eq_false_iff, List.length_map, List.length_set, List.length_append, List.length_take, List.length_drop, List.length_replicate, List.length_cons, List.length_nil, lenMax, capMax, Int.toNat_natCast, gt_iff_lt, ge_iff_le] at *); (try simp (disch := omega) only [wr, wru, shr1, Int.tdiv_eq_ediv_of_nonneg] at *)); omega) | (((try simp only [decide_eq_true_eq, decide_eq_false_iff_not, cond_true, cond_false, beq_iff_eq, beq_eq_false_iff_ne, bne_iff_ne, bne_eq_false_iff_eq, ne_eq, Bool.not_eq_true', Bool.not_eq_false', Bool.not_eq_eq_eq_not, Bool.not_true, Bool.not_false, sLe_eq, Bool.and_eq_true, Bool.and_eq_false_iff, List.length_map, List.length_set, List.length_append, List.length_take, List.length_drop, List.length_replicate, List.length_cons, List.length_nil, lenMax, capMax, Int.toNat_natCast, gt_iff_lt, ge_iff_le] at *); (try simp (disch := omega) only [wr, wru, shr1, Int.tdiv_eq_ediv_of_nonneg] at *)); assumption))) (fun _ _ => ?_); conv => whnf)
    | refine Exists.intro _ (And.intro (DV_toV rfl) ?_)
    | (refine rowSet (by (first | decide | exact trivial | omega | exact Nat.le_refl _ | (((try simp only [decide_eq_true_eq, decide_eq_false_iff_not, cond_true, cond_false, beq_iff_eq, beq_eq_false_iff_ne, bne_iff_ne, bne_eq_false_iff_eq, ne_eq, Bool.not_eq_true', Bool.not_eq_false', Bool.not_eq_eq_eq_not, Bool.not_true, Bool.not_false, sLe_eq, Bool.and_eq_true, Bool.and_eq_false_iff, List.length_map, List.length_set, List.length_append, List.length_take, List.length_drop, List.length_replicate, List.length_cons, List.length_nil, lenMax, capMax, Int.toNat_natCast, gt_iff_lt, ge_iff_le] at *); (try simp (disch := omega) only [wr, wru, shr1, Int.tdiv_eq_ediv_of_nonneg] at *)); omega) | (((try simp only [decide_eq_true_eq, decide_eq_false_iff_not, cond_true, cond_false, beq_iff_eq, beq_eq_false_iff_ne, bne_iff_ne, bne_eq_false_iff_eq, ne_eq, Bool.not_eq_true', Bool.not_eq_false', Bool.not_eq_eq_eq_not, Bool.not_true, Bool.not_false, sLe_eq, Bool.and_eq_true, Bool.and_eq_false_iff, List.length_map, List.length_set, List.length_append, List.length_take, List.length_drop, List.length_replicate, List.length_cons, List.length_nil, lenMax, capMax, Int.toNat_natCast, gt_iff_lt, ge_iff_le] at *); (try simp (disch := omega) only [wr, wru, shr1, Int.tdiv_eq_ediv_of_nonneg] at *)); assumption))) ?_; conv => whnf)
    | (refine rowOld (by assumption) ?_; conv => whnf)
    | (refine rowNew (by (first | decide | exact trivial | omega | exact Nat.le_refl _ | (((try simp only [decide_eq_true_eq, decide_eq_false_iff_not, cond_true, cond_false, beq_iff_eq, beq_eq_false_iff_ne, bne_iff_ne, bne_eq_false_iff_eq, ne_eq, Bool.not_eq_true', Bool.not_eq_false', Bool.not_eq_eq_eq_not, Bool.not_true, Bool.not_false, sLe_eq, Bool.and_eq_true, Bool.and_eq_false_iff, List.length_map, List.length_set, List.length_append, List.length_take, List.length_drop, List.length_replicate, List.length_cons, List.length_nil, lenMax, capMax, Int.toNat_natCast, gt_iff_lt, ge_iff_le] at *); (try simp (disch := omega) only [wr, wru, shr1, Int.tdiv_eq_ediv_of_nonneg] at *)); omega) | (((try simp only [decide_eq_true_eq, decide_eq_false_iff_not, cond_true, cond_false, beq_iff_eq, beq_eq_false_iff_ne, bne_iff_ne, bne_eq_false_iff_eq, ne_eq, Bool.not_eq_true', Bool.not_eq_false', Bool.not_eq_eq_eq_not, Bool.not_true, Bool.not_false, sLe_eq, Bool.and_eq_true, Bool.and_eq_false_iff, List.length_map, List.length_set, List.length_append, List.length_take, List.length_drop, List.length_replicate, List.length_cons, List.length_nil, lenMax, capMax, Int.toNat_natCast, gt_iff_lt, ge_iff_le] at *); (try simp (disch := omega) only [wr, wru, shr1, Int.tdiv_eq_ediv_of_nonneg] at *)); assumption))) (fun _ _ => ?_); conv => whnf)
    | (apply WpD.id; first
      | (refine WpD.nil 18 6 _ rfl rfl rfl rfl ?_; refine WpD.loop (uS z l (ent h f t now) now) (uP l (ent h f t now) now) (fun k => l.length - k.1) ?_ (fun ⟨k, dn, out⟩ hk => ?_); rotate_left; dsimp only [uP] at hk; obtain ⟨hk1, hk2, hk3, hk4, hk5⟩ := hk; dsimp only [uS])
      | (refine WpD.loop (tS z l (ent h f t now) now (-1)) (fun k => k ≤ l.length) (fun k => l.length - k) ?_ (fun k hk => ?_))
      | (refine WpD.walk rfl ?_; conv => whnf))
  all_goals clear h1 h2 h3 hold
  all_goals ((try simp only [decide_eq_true_eq, decide_eq_false_iff_not, cond_true, cond_false, beq_iff_eq, beq_eq_false_iff_ne, bne_iff_ne, bne_eq_false_iff_eq, ne_eq, Bool.not_eq_true', Bool.not_eq_false', Bool.not_eq_eq_eq_not, Bool.not_true, Bool.not_false, sLe_eq, Bool.and_eq_true, Bool.and_eq_false_iff, List.length_map, List.length_set, List.length_append, List.length_take, List.length_drop, List.length_replicate, List.length_cons, List.length_nil, lenMax, capMax, Int.toNat_natCast, gt_iff_lt, ge_iff_le] at *); (try simp (disch := omega) only [wr, wru, shr1, Int.tdiv_eq_ediv_of_nonneg] at *))
  all_goals try rename l[k]? = some _ => hx1
  all_goals first
    | (refine ⟨0, [0, 2], Nat.zero_le _, ⟨by decide, rfl, ?_, ?_, rfl⟩⟩
       · (repeat' first | exact trivial | rfl | apply And.intro | (refine leInt rfl ?_; first | omega | (dsimp only; omega)) | (refine leArr rfl ?_ rfl; (simp; try omega)) | (refine leBool rfl ?_; assumption))
         done
       · (repeat' first | exact trivial | (refine obLe_v ?_; try dsimp only) | rfl | apply And.intro)
         done)
    | (exfalso; exact hne _ _ ‹l[k]? = some _› ‹_ = _›)
    | (refine ⟨k + 1, [0, 1], by omega, ⟨by decide, rfl, ?_, ?_, rfl⟩, by omega⟩
       · (repeat' first | exact trivial | rfl | apply And.intro | (refine leInt rfl ?_; first | omega | (dsimp only; omega)) | (refine leArr rfl ?_ rfl; (simp; try omega)) | (refine leBool rfl ?_; assumption))
         done
       · (repeat' first | exact trivial | (refine obLe_v ?_; try dsimp only) | rfl | apply And.intro)
         done)
    | (refine ⟨(0, false, []), [0, 1, 2], ⟨by simp, by simp, by simp, by simp [live'], rfl⟩, ⟨by decide, rfl, ?_, ?_, rfl⟩⟩
       · (repeat' first | exact trivial | rfl | apply And.intro | (refine leInt rfl ?_; first | omega | (dsimp only; omega)) | (refine leArr rfl ?_ rfl; (simp; try omega)) | (refine leBool rfl ?_; assumption))
         done
       · (repeat' first | exact trivial | (refine obLe_v ?_; try dsimp only) | rfl | apply And.intro)
         all_goals simp
         done)
    | skip
  · have hlv := live_succ_t hx1 ‹_›
    refine ⟨(k + 1, dn, out), [0, 1, 2], ⟨by dsimp only; omega, by dsimp only; omega, fun h => by have := hk3 h; dsimp only; omega, by dsimp only; rw [hlv]; omega, ?_⟩, ⟨⟨by decide, rfl, ?_, ?_, rfl⟩, by dsimp only; omega⟩⟩
    · rw [hk5, drop_get' hx1, bF]; simp [*]; done
    · (repeat' first | exact trivial | rfl | apply And.intro | (refine leInt rfl ?_; dsimp only; (first | omega | rw [hlv])) | (refine leArr rfl ?_ rfl; (simp; try omega)) | (refine leBool rfl ?_; assumption))
    · (repeat' first | exact trivial | (refine obLe_v ?_; try dsimp only) | rfl | apply And.intro)
  · rename Ge => v
    have hlv := live_succ_f hx1 ‹_›
    have hk3' := hk3 ‹_›
    refine ⟨(k + 1, true, out ++ [ent h f t now] ++ [v]), [0, 1, 6], ⟨by dsimp only; omega, by simp; omega, (fun h => by cases h), by dsimp only; rw [hlv]; omega, ?_⟩, ⟨⟨by decide, rfl, ?_, ?_, rfl⟩, by dsimp only; omega⟩⟩
    · rw [hk5, drop_get' hx1, bF]; simp [*]; done
    · (repeat' first | exact trivial | rfl | apply And.intro | (refine leInt rfl ?_; dsimp only; (first | omega | (rw [hlv]; omega))) | (refine leArr rfl ?_ rfl; (simp; try omega)) | (refine leBool rfl ?_; assumption))
    · (repeat' first | exact trivial | (refine obLe_v ?_; try dsimp only) | rfl | apply And.intro)
      all_goals simp [Ge.row, List.take_of_length_le]
  · rename Ge => v
    have hlv := live_succ_f hx1 ‹_›
    have hk3' := hk3 ‹_›
    refine ⟨(k + 1, dn, out ++ [v]), [0, 1, 4], ⟨by dsimp only; omega, by simp; omega, (fun h => by simp; omega), by dsimp only; rw [hlv]; omega, ?_⟩, ⟨⟨by decide, rfl, ?_, ?_, rfl⟩, by dsimp only; omega⟩⟩
    · rw [hk5, drop_get' hx1, bF]; simp [*]; done
    · (repeat' first | exact trivial | rfl | apply And.intro | (refine leInt rfl ?_; dsimp only; (first | omega | (rw [hlv]; omega))) | (refine leArr rfl ?_ rfl; (simp; try omega)) | (refine leBool rfl ?_; assumption))
    · (repeat' first | exact trivial | (refine obLe_v ?_; try dsimp only) | rfl | apply And.intro)
      all_goals simp [Ge.row, List.take_of_length_le]
  · rename Ge => v
    have hlv := live_succ_f hx1 ‹_›
    refine ⟨(k + 1, dn, out ++ [v]), [0, 1, 4], ⟨by dsimp only; omega, by simp; omega, (fun h => by simp [*] at h), by dsimp only; rw [hlv]; omega, ?_⟩, ⟨⟨by decide, rfl, ?_, ?_, rfl⟩, by dsimp only; omega⟩⟩
    · rw [hk5, drop_get' hx1, bF]; simp [*]; done
    · (repeat' first | exact trivial | rfl | apply And.intro | (refine leInt rfl ?_; dsimp only; (first | omega | (rw [hlv]; omega))) | (refine leArr rfl ?_ rfl; (simp; try omega)) | (refine leBool rfl ?_; assumption))
    · (repeat' first | exact trivial | (refine obLe_v ?_; try dsimp only) | rfl | apply And.intro)
      all_goals simp [Ge.row, List.take_of_length_le]
  all_goals
    have hn : gG (ent h f t now).key (live' now l) = none := by
      have hg : getL Ge.key (ent h f t now).key l = none := hasL_no ord3 hs hh
      unfold gG live'
      rw [getL_filter ord3 _ hs, hg]; rfl
    have hkl : k = l.length := by omega
    subst hkl
    rw [List.take_length] at hk4
    rw [List.drop_length, bF_put hs hn] at hk5
    simp only [List.take_length] at *
    have hll := live_len now l
  all_goals first
    | (have e : freshF l (ent h f t now) now = (([], false), (2, -1)) := by unfold freshF; rw [if_pos (by omega)]
       rw [e]; rfl)
    | (have e : freshF l (ent h f t now) now = ((puG (ent h f t now) (live' now l), false), (0, 0)) := by unfold freshF; rw [if_neg (by omega)]
       rw [e]
       refine ⟨_, ?_, rfl⟩
       refine ⟨⟨rfl, _, rfl, ?_, ?_⟩, rfl, ⟨rfl, rfl, trivial⟩, trivial⟩
       · dsimp only; rw [hk5]; simp [*, bF, Ge.row, List.take_of_length_le]; done
       · dsimp only; rw [hk5]; simp [*, bF]; done)
    | skip
  all_goals trace_state
end Go.DL
