/- Classify: Forget. No condition. -/
import Derived.Test.YtdadnjhfennenaaC5
set_option linter.unusedVariables false
set_option linter.unusedSimpArgs false
set_option maxHeartbeats 4000000
namespace Go.DL
open Go.Proofs

theorem DP_arr {H : Nat → Ob} {p n sz : Nat} {xs : List (List V)} (hp : H p = .arr sz (vrows xs)) (hn : n = xs.length) : DP H (.arr p 0 n) (.sl sz false xs) := by
  subst hn
  exact ⟨rfl, _, hp, by rw [List.drop_zero, List.take_of_length_le (by simp)], rfl⟩
def fgt (junk : Bool) (l : List Tk) (s : ByteArray) : List Tk := puT (upT junk (-1) ((gT s l).getD ⟨s, 0, 0⟩)) l
def fgR (w : Wd) (l : List ByteArray) (junk : Bool) (k : Nat) : List Tk := (l.take k).foldl (fgt junk) w.l
def hasN (junk : Bool) (R : List Tk) (s : ByteArray) : Prop := ∃ x, gT s R = some x ∧ cnt junk x.g x.j ≠ 0
structure okF (R : List Tk) : Prop where
  s : ST R
  l : R.length ≤ 2000
  b : ∀ x ∈ R, 0 ≤ x.g ∧ x.g ≤ 1000000 ∧ 0 ≤ x.j ∧ x.j ≤ 1000000
theorem find_of_get {R : List Tk} (hs : ST R) {s : ByteArray} {x : Tk} (hg : gT s R = some x) : hT s R = true ∧ R[pT s R]? = some x ∧ x.s = s ∧ pT s R < R.length := by
  have hh : hT s R = true := by unfold hT; rw [hasL_get sOrd hs]; unfold gT at hg; rw [hg]; rfl
  obtain ⟨y, hy, hk, hg'⟩ := hasL_at sOrd hs hh
  unfold gT at hg
  rw [hg] at hg'; injection hg' with hg'; subst hg'
  exact ⟨hh, hy, hk, lt_get hy⟩
theorem fgt_at {junk : Bool} {l : List Tk} {s : ByteArray} (hs : ST l) {x : Tk} (hg : gT s l = some x) : fgt junk l s = l.set (pT s l) (upT junk (-1) x) := by
  obtain ⟨hh, hx, hk, hl⟩ := find_of_get hs hg
  unfold fgt
  rw [hg]
  exact putT_set (by rw [show (upT junk (-1) ((some x).getD ⟨s, 0, 0⟩)).s = s by rw [upT_s]; exact hk]) hx (by rw [upT_s]; rfl)
theorem okF_next {junk : Bool} {R : List Tk} {s : ByteArray} (h : okF R) (hn : hasN junk R s) : okF (fgt junk R s) := by
  obtain ⟨x, hg, hc⟩ := hn
  have hb := h.b x (getL_mem hg).1
  refine ⟨sort_putL sOrd _ h.s, by rw [fgt_at h.s hg]; simpa using h.l, fun y hy => ?_⟩
  rcases mem_putL hy with rfl | hy
  · rw [hg]
    cases junk <;> (simp only [cnt, upT, Bool.false_eq_true, if_true, if_false, Option.getD_some] at hc ⊢; omega)
  · exact h.b y hy
theorem fgR_next {w : Wd} {l : List ByteArray} {junk : Bool} {k : Nat} {s : ByteArray} (hs : l[k]? = some s) : fgR w l junk (k + 1) = fgt junk (fgR w l junk k) s := by
  unfold fgR; rw [take_get hs, List.foldl_append]; rfl
def fgS (w : Wd) (z : Bool) (l : List ByteArray) (junk : Bool) (k : Nat) (R : List Tk) : St := ⟨[(2, .v (.bool junk)), (3, .ptr 0 0 0), (6, .ptr 1 0 0), (7, .ptr 2 0 0), (8, .ptr 3 0 0), (47, .v (strs z l)), (48, .v (.int .i64 l.length)), (49, .v (.int .i64 k))], [.arr 3 [[.v (.int .i64 (upW w junk (-1)).g), .v (.int .i64 (upW w junk (-1)).j), .arr 4 0 R.length]], .arr 3 (vrows [[.int .i64 0, .int .i64 0, .sl 3 true []]]), .arr 2 (vrows [[.int .i64 0, .int .i64 0]]), .arr 2 (vrows [[.int .i64 0, .int .i64 0]]), .arr 3 (vrows (R.map Tk.row))], []⟩
theorem c_Forget_ok_false (w : Wd) (z : Bool) (l : List ByteArray) (h : lF w l false 0 = (0, 0)) (hok : ∀ (k : Nat) s, l[k]? = some s → hasN false (fgR w l false k) s) : CallV tab 31 [.agg w.row, strs z l, .bool false] (· = if (((fgR w l false l.length).filter fun x => !nilT x).any (ovT (upW w false (-1)).g (upW w false (-1)).j)) = true then .tup [.agg w00.row, fv (8, -4)] else .tup [.agg (Wd.row ⟨(upW w false (-1)).g, (upW w false (-1)).j, false, (fgR w l false l.length).filter fun x => !nilT x⟩), fv (0, 0)]) := by
  have h1 := c_check w z l
  obtain ⟨hc, hn⟩ := lF_ok h
  obtain ⟨how, htf⟩ := cF_ok hc
  have hg := how.g
  have hj := how.j
  have hll := tF_len htf
  have hwl := how.l
  rw [hc] at h1
  have h3 := c_CloneT w.z w.l (by omega)
  have h2 := c_of false
  have hok0 : okF w.l := ⟨how.s, by omega, fun x hx => by have := (how.t x hx).2; unfold tOk at this; omega⟩
  have hwr : ∀ n : Int, 0 ≤ n → n ≤ 1100000 → IntKind.i64.wrap (n - 1) = n - 1 := fun n a b => wr (by omega) (by omega)
  refine callV_of Try.func31 rfl (Nat.le_of_ble_eq_true rfl) (by kernel_rfl) ?_
  have d0 := beq_eq_false_iff_ne.2 hn
  dsimp only [cnt, Bool.false_eq_true, if_true, if_false] at d0
  repeat' first
    | (apply Br.id; first
      | (apply Br.tt; try conv => whnf)
      | (apply Br.ff; try conv => whnf)
      | (refine Br.of_t (by assumption) ?_; conv => whnf)
      | (refine Br.of_f (by assumption) ?_; conv => whnf)
      | (refine Br.mk (fun _ => ?_) (fun _ => ?_) <;> try conv => whnf))
    | (apply CallOp.id; first
      | (refine call_sel h2 rfl rfl rfl rfl ?_; conv => whnf)
      | (refine call_selD h2 rfl rfl rfl rfl ?_; conv => whnf)
      | (refine call_eat [] h3 rfl rfl rfl rfl rfl rfl (by decide) rfl (by decide) (fun i p h => by simp at h) (fun xs hxs => ?_); subst hxs; conv => whnf)
      | (refine call_eatD [] h3 rfl rfl rfl rfl rfl rfl (by decide) rfl (by decide) (fun i p h => by simp at h) ?_; conv => whnf)
      | (refine call_rdV hfind rfl rfl rfl rfl ⟨DV_arr rfl (by simp), rfl, trivial⟩ rfl ?_; conv => whnf)
      | (refine call_rdVD hfind rfl rfl rfl rfl ⟨DV_arr rfl (by simp), rfl, trivial⟩ rfl ?_; conv => whnf)
      | (refine call_eat [4] hdel rfl rfl rfl rfl rfl rfl (by decide) rfl (by decide) (fun i p h => ?_) (fun xs hxs => ?_); rotate_left; subst hxs; conv => whnf)
      | (refine call_eatD [4] hdel rfl rfl rfl rfl rfl rfl (by decide) rfl (by decide) (fun i p h => ?_) ?_; rotate_left; conv => whnf)
      | (refine call_rp hcon rfl rfl rfl rfl ⟨DP_arr rfl (by simp), ⟨rfl, ⟨_, _, _, _, rfl, rfl, rfl⟩, trivial⟩, trivial⟩ rfl ?_; conv => whnf)
      | (refine call_rpD hcon rfl rfl rfl rfl ⟨DP_arr rfl (by simp), ⟨rfl, ⟨_, _, _, _, rfl, rfl, rfl⟩, trivial⟩, trivial⟩ rfl ?_; conv => whnf)
      | (refine call_at rfl rfl rfl rfl rfl ?_)
      | (refine call_rd rfl rfl rfl rfl rfl ?_)
      | (refine CallOp.std ?_; (conv => whnf); fail_if_success refine (?_ : False)))
    | (apply CallDet.id; first
      | (refine call_sel h2 rfl rfl rfl rfl ?_; conv => whnf)
      | (refine call_selD h2 rfl rfl rfl rfl ?_; conv => whnf)
      | (refine call_eat [] h3 rfl rfl rfl rfl rfl rfl (by decide) rfl (by decide) (fun i p h => by simp at h) (fun xs hxs => ?_); subst hxs; conv => whnf)
      | (refine call_eatD [] h3 rfl rfl rfl rfl rfl rfl (by decide) rfl (by decide) (fun i p h => by simp at h) ?_; conv => whnf)
      | (refine call_rdV hfind rfl rfl rfl rfl ⟨DV_arr rfl (by simp), rfl, trivial⟩ rfl ?_; conv => whnf)
      | (refine call_rdVD hfind rfl rfl rfl rfl ⟨DV_arr rfl (by simp), rfl, trivial⟩ rfl ?_; conv => whnf)
      | (refine call_eat [4] hdel rfl rfl rfl rfl rfl rfl (by decide) rfl (by decide) (fun i p h => ?_) (fun xs hxs => ?_); rotate_left; subst hxs; conv => whnf)
      | (refine call_eatD [4] hdel rfl rfl rfl rfl rfl rfl (by decide) rfl (by decide) (fun i p h => ?_) ?_; rotate_left; conv => whnf)
      | (refine call_rp hcon rfl rfl rfl rfl ⟨DP_arr rfl (by simp), ⟨rfl, ⟨_, _, _, _, rfl, rfl, rfl⟩, trivial⟩, trivial⟩ rfl ?_; conv => whnf)
      | (refine call_rpD hcon rfl rfl rfl rfl ⟨DP_arr rfl (by simp), ⟨rfl, ⟨_, _, _, _, rfl, rfl, rfl⟩, trivial⟩, trivial⟩ rfl ?_; conv => whnf)
      | (refine call_atD rfl rfl rfl rfl rfl ?_)
      | (refine call_rdD rfl rfl rfl rfl rfl ?_)
      | (refine CallDet.std ?_; (conv => whnf); fail_if_success refine (?_ : False)))
    | (apply CallAt.id; first
      | (apply CallAt.mk1 (h1); conv => whnf))
    | (apply CallRd.id; first
      | (apply CallRd.mk1 (h1); (· rfl); conv => whnf))
    | (refine EndOk.mk (by kernel_rfl) ?_; conv => whnf)
    | (refine And.intro (by (first | decide | exact trivial | omega | exact Nat.le_refl _ | (((try simp only [decide_eq_true_eq, decide_eq_false_iff_not, cond_true, cond_false, beq_iff_eq, beq_eq_false_iff_ne, bne_iff_ne, bne_eq_false_iff_eq, ne_eq, Bool.not_eq_true', Bool.not_eq_false', Bool.not_eq_eq_eq_not, Bool.not_true, Bool.not_false, sLe_eq, Bool.and_eq_true, Bool.and_eq_false_iff, List.length_map, List.length_set, List.length_append, List.length_take, List.length_drop, List.length_replicate, List.length_cons, List.length_nil, lenMax, capMax, Int.toNat_natCast, gt_iff_lt, ge_iff_le] at *); (try simp (disch := omega) only [wr, wru, shr1, Int.tdiv_eq_ediv_of_nonneg] at *)); omega) | (((try simp only [decide_eq_true_eq, decide_eq_false_iff_not, cond_true, cond_false, beq_iff_eq, beq_eq_false_iff_ne, bne_iff_ne, bne_eq_false_iff_eq, ne_eq, Bool.not_eq_true', Bool.not_eq_false', Bool.not_eq_eq_eq_not, Bool.not_true, Bool.not_false, sLe_eq, Bool.and_eq_true, Bool.and_eq_false_iff, List.length_map, List.length_set, List.length_append, List.length_take, List.length_drop, List.length_replicate, List.length_cons, List.length_nil, lenMax, capMax, Int.toNat_natCast, gt_iff_lt, ge_iff_le] at *); (try simp (disch := omega) only [wr, wru, shr1, Int.tdiv_eq_ediv_of_nonneg] at *)); assumption))) ?_; conv => whnf)
    | (refine idxOld (by assumption) ?_; conv => whnf)
    | (refine idxMap (by (first | decide | exact trivial | omega | exact Nat.le_refl _ | (((try simp only [decide_eq_true_eq, decide_eq_false_iff_not, cond_true, cond_false, beq_iff_eq, beq_eq_false_iff_ne, bne_iff_ne, bne_eq_false_iff_eq, ne_eq, Bool.not_eq_true', Bool.not_eq_false', Bool.not_eq_eq_eq_not, Bool.not_true, Bool.not_false, sLe_eq, Bool.and_eq_true, Bool.and_eq_false_iff, List.length_map, List.length_set, List.length_append, List.length_take, List.length_drop, List.length_replicate, List.length_cons, List.length_nil, lenMax, capMax, Int.toNat_natCast, gt_iff_lt, ge_iff_le] at *); (try simp (disch := omega) only [wr, wru, shr1, Int.tdiv_eq_ediv_of_nonneg] at *)); omega) | (((try simp only [decide_eq_true_eq, decide_eq_false_iff_not, cond_true, cond_false, beq_iff_eq, beq_eq_false_iff_ne, bne_iff_ne, bne_eq_false_iff_eq, ne_eq, Bool.not_eq_true', Bool.not_eq_false', Bool.not_eq_eq_eq_not, Bool.not_true, Bool.not_false, sLe_eq, Bool.and_eq_true, Bool.and_eq_false_iff, List.length_map, List.length_set, List.length_append, List.length_take, List.length_drop, List.length_replicate, List.length_cons, List.length_nil, lenMax, capMax, Int.toNat_natCast, gt_iff_lt, ge_iff_le] at *); (try simp (disch := omega) only [wr, wru, shr1, Int.tdiv_eq_ediv_of_nonneg] at *)); assumption))) (fun _ _ => ?_); conv => whnf)
    | refine Exists.intro _ (And.intro (DV_toV rfl) ?_)
    | (refine rowSet (by (first | decide | exact trivial | omega | exact Nat.le_refl _ | (((try simp only [decide_eq_true_eq, decide_eq_false_iff_not, cond_true, cond_false, beq_iff_eq, beq_eq_false_iff_ne, bne_iff_ne, bne_eq_false_iff_eq, ne_eq, Bool.not_eq_true', Bool.not_eq_false', Bool.not_eq_eq_eq_not, Bool.not_true, Bool.not_false, sLe_eq, Bool.and_eq_true, Bool.and_eq_false_iff, List.length_map, List.length_set, List.length_append, List.length_take, List.length_drop, List.length_replicate, List.length_cons, List.length_nil, lenMax, capMax, Int.toNat_natCast, gt_iff_lt, ge_iff_le] at *); (try simp (disch := omega) only [wr, wru, shr1, Int.tdiv_eq_ediv_of_nonneg] at *)); omega) | (((try simp only [decide_eq_true_eq, decide_eq_false_iff_not, cond_true, cond_false, beq_iff_eq, beq_eq_false_iff_ne, bne_iff_ne, bne_eq_false_iff_eq, ne_eq, Bool.not_eq_true', Bool.not_eq_false', Bool.not_eq_eq_eq_not, Bool.not_true, Bool.not_false, sLe_eq, Bool.and_eq_true, Bool.and_eq_false_iff, List.length_map, List.length_set, List.length_append, List.length_take, List.length_drop, List.length_replicate, List.length_cons, List.length_nil, lenMax, capMax, Int.toNat_natCast, gt_iff_lt, ge_iff_le] at *); (try simp (disch := omega) only [wr, wru, shr1, Int.tdiv_eq_ediv_of_nonneg] at *)); assumption))) ?_; conv => whnf)
    | (refine rowOld (by assumption) ?_; conv => whnf)
    | (refine rowNew (by (first | decide | exact trivial | omega | exact Nat.le_refl _ | (((try simp only [decide_eq_true_eq, decide_eq_false_iff_not, cond_true, cond_false, beq_iff_eq, beq_eq_false_iff_ne, bne_iff_ne, bne_eq_false_iff_eq, ne_eq, Bool.not_eq_true', Bool.not_eq_false', Bool.not_eq_eq_eq_not, Bool.not_true, Bool.not_false, sLe_eq, Bool.and_eq_true, Bool.and_eq_false_iff, List.length_map, List.length_set, List.length_append, List.length_take, List.length_drop, List.length_replicate, List.length_cons, List.length_nil, lenMax, capMax, Int.toNat_natCast, gt_iff_lt, ge_iff_le] at *); (try simp (disch := omega) only [wr, wru, shr1, Int.tdiv_eq_ediv_of_nonneg] at *)); omega) | (((try simp only [decide_eq_true_eq, decide_eq_false_iff_not, cond_true, cond_false, beq_iff_eq, beq_eq_false_iff_ne, bne_iff_ne, bne_eq_false_iff_eq, ne_eq, Bool.not_eq_true', Bool.not_eq_false', Bool.not_eq_eq_eq_not, Bool.not_true, Bool.not_false, sLe_eq, Bool.and_eq_true, Bool.and_eq_false_iff, List.length_map, List.length_set, List.length_append, List.length_take, List.length_drop, List.length_replicate, List.length_cons, List.length_nil, lenMax, capMax, Int.toNat_natCast, gt_iff_lt, ge_iff_le] at *); (try simp (disch := omega) only [wr, wru, shr1, Int.tdiv_eq_ediv_of_nonneg] at *)); assumption))) (fun _ _ => ?_); conv => whnf)
    | (apply WpD.id; first
      | (refine WpD.loopAt 50 rfl (fun q : Nat × List Tk => fgS w z l false q.1 q.2) (fun q => q.1 ≤ l.length ∧ q.2 = fgR w l false q.1 ∧ okF q.2) (fun q => l.length - q.1) ?_ (fun ⟨k, R⟩ hq => ?_); rotate_left; dsimp only at hq; obtain ⟨hq1, hq2, hq3⟩ := hq; rcases Nat.lt_or_ge k l.length with hlt | hge; rotate_left; (have dk : decide ((k : Int) < (l.length : Int)) = false := by { simp; omega }); (have hdel := c_DeleteT R (fun x hx => by have := hq3.b x hx; omega) (by have := hq3.l; omega)); (have hcon := c_ContainsT false (R.filter fun x => !nilT x) (upW w false (-1)).g (upW w false (-1)).j (Nat.le_trans (List.length_filter_le _ _) (by have := hq3.l; omega))); dsimp only [fgS]; rotate_right; (obtain ⟨s, hs⟩ : ∃ s, l[k]? = some s := ⟨_, List.getElem?_eq_getElem hlt⟩); (have hs0 : l[((k : Nat) : Int).toNat]? = some s := hs); (have dk : decide ((k : Int) < (l.length : Int)) = true := by { simp; omega }); (have hfind := c_find false R s ⟨by have := hq3.l; omega, hq3.s⟩); (have hN : hasN false R s := by { rw [hq2]; exact hok k s hs }); (obtain ⟨x, hgx, hxc⟩ := id hN); (obtain ⟨hh, hx, hxs, hile⟩ := find_of_get hq3.s hgx); (rw [hh] at hfind; have hx0 : R[0 + ((pT s R : Nat) : Int).toNat]? = some x := (by rw [Nat.zero_add, Int.toNat_natCast]; exact hx); have hx1 : R[((pT s R : Nat) : Int).toNat]? = some x := (by rw [Int.toNat_natCast]; exact hx); have dcn : (x.g == 0) = false := (by simpa [cnt] using hxc); dsimp only [fgS]))
      | (refine WpD.walk rfl ?_; conv => whnf))
  all_goals clear h1 h2 h3
  all_goals try clear hfind
  all_goals try clear hdel hcon
  all_goals try have hxb := hq3.b _ (List.mem_of_getElem? hx)
  all_goals ((try simp only [decide_eq_true_eq, decide_eq_false_iff_not, cond_true, cond_false, beq_iff_eq, beq_eq_false_iff_ne, bne_iff_ne, bne_eq_false_iff_eq, ne_eq, Bool.not_eq_true', Bool.not_eq_false', Bool.not_eq_eq_eq_not, Bool.not_true, Bool.not_false, sLe_eq, Bool.and_eq_true, Bool.and_eq_false_iff, List.length_map, List.length_set, List.length_append, List.length_take, List.length_drop, List.length_replicate, List.length_cons, List.length_nil, lenMax, capMax, Int.toNat_natCast, gt_iff_lt, ge_iff_le] at *); (try simp (disch := omega) only [wr, wru, shr1, Int.tdiv_eq_ediv_of_nonneg] at *))
  all_goals first
    | (rcases i with _ | i
       · simp at h; subst h
         exact obLe_v rfl
       · simp at h
       done)
    | (have hR : fgR w l false l.length = R := by rw [hq2]; unfold fgR; rw [List.take_of_length_le (by omega), List.take_of_length_le (by omega)]
       rw [hR]
       first
       | (rw [if_pos (by assumption)]; rfl)
       | (rw [if_neg (by rw [Bool.not_eq_true]; assumption)]
          refine ⟨_, ?_, rfl⟩
          exact ⟨⟨rfl, rfl, DV_arr rfl (by simp), trivial⟩, ⟨rfl, rfl, trivial⟩, trivial⟩))
    | (refine ⟨(0, w.l), [0, 1, 2, 3, 4], ⟨Nat.zero_le _, rfl, hok0⟩, ⟨by decide, rfl, ?_, ?_, rfl⟩⟩
       · (repeat' first | exact trivial | rfl | apply And.intro | (refine leInt rfl ?_; first | omega | (dsimp only; omega)) | (refine leArr rfl ?_ rfl; (simp; try omega)) | (refine leBool rfl ?_; assumption))
         done
       · exact ⟨⟨rfl, rfl, rfl⟩, obLe_v rfl, obLe_v rfl, obLe_v rfl, obLe_v rfl, trivial⟩)
    | (have hl1 := fgt_at (junk := false) hq3.s hgx
       have hl2 : (fgt false R s).length = R.length := by rw [hl1]; simp
       refine ⟨(k + 1, fgt false R s), [0, 1, 2, 3, 4], ⟨by dsimp only; omega, by dsimp only; rw [fgR_next hs, ← hq2], okF_next hq3 hN⟩, ⟨⟨by decide, rfl, ?_, ?_, rfl⟩, by dsimp only; omega⟩⟩
       · (repeat' first | exact trivial | apply And.intro | (refine leInt rfl ?_; first | omega | (dsimp only; omega)) | rfl | (refine leArr rfl ?_ rfl; (simp; try omega)) | (refine leBool rfl ?_; assumption))
         done
       · refine ⟨⟨rfl, ?_, rfl⟩, obLe_v rfl, obLe_v rfl, obLe_v rfl, obLe_v ?_, trivial⟩
         · dsimp only; rw [hl2]; rfl
         · dsimp only; rw [hl1]; simp [vrows, List.map_set, Tk.row, upT]; try rfl)
    | skip
  all_goals trace_state
theorem c_Forget_ok_true (w : Wd) (z : Bool) (l : List ByteArray) (h : lF w l true 0 = (0, 0)) (hok : ∀ (k : Nat) s, l[k]? = some s → hasN true (fgR w l true k) s) : CallV tab 31 [.agg w.row, strs z l, .bool true] (· = if (((fgR w l true l.length).filter fun x => !nilT x).any (ovT (upW w true (-1)).g (upW w true (-1)).j)) = true then .tup [.agg w00.row, fv (8, -4)] else .tup [.agg (Wd.row ⟨(upW w true (-1)).g, (upW w true (-1)).j, false, (fgR w l true l.length).filter fun x => !nilT x⟩), fv (0, 0)]) := by
  have h1 := c_check w z l
  obtain ⟨hc, hn⟩ := lF_ok h
  obtain ⟨how, htf⟩ := cF_ok hc
  have hg := how.g
  have hj := how.j
  have hll := tF_len htf
  have hwl := how.l
  rw [hc] at h1
  have h3 := c_CloneT w.z w.l (by omega)
  have h2 := c_of true
  have hok0 : okF w.l := ⟨how.s, by omega, fun x hx => by have := (how.t x hx).2; unfold tOk at this; omega⟩
  have hwr : ∀ n : Int, 0 ≤ n → n ≤ 1100000 → IntKind.i64.wrap (n - 1) = n - 1 := fun n a b => wr (by omega) (by omega)
  refine callV_of Try.func31 rfl (Nat.le_of_ble_eq_true rfl) (by kernel_rfl) ?_
  have d0 := beq_eq_false_iff_ne.2 hn
  dsimp only [cnt, Bool.false_eq_true, if_true, if_false] at d0
  repeat' first
    | (apply Br.id; first
      | (apply Br.tt; try conv => whnf)
      | (apply Br.ff; try conv => whnf)
      | (refine Br.of_t (by assumption) ?_; conv => whnf)
      | (refine Br.of_f (by assumption) ?_; conv => whnf)
      | (refine Br.mk (fun _ => ?_) (fun _ => ?_) <;> try conv => whnf))
    | (apply CallOp.id; first
      | (refine call_sel h2 rfl rfl rfl rfl ?_; conv => whnf)
      | (refine call_selD h2 rfl rfl rfl rfl ?_; conv => whnf)
      | (refine call_eat [] h3 rfl rfl rfl rfl rfl rfl (by decide) rfl (by decide) (fun i p h => by simp at h) (fun xs hxs => ?_); subst hxs; conv => whnf)
      | (refine call_eatD [] h3 rfl rfl rfl rfl rfl rfl (by decide) rfl (by decide) (fun i p h => by simp at h) ?_; conv => whnf)
      | (refine call_rdV hfind rfl rfl rfl rfl ⟨DV_arr rfl (by simp), rfl, trivial⟩ rfl ?_; conv => whnf)
      | (refine call_rdVD hfind rfl rfl rfl rfl ⟨DV_arr rfl (by simp), rfl, trivial⟩ rfl ?_; conv => whnf)
      | (refine call_eat [4] hdel rfl rfl rfl rfl rfl rfl (by decide) rfl (by decide) (fun i p h => ?_) (fun xs hxs => ?_); rotate_left; subst hxs; conv => whnf)
      | (refine call_eatD [4] hdel rfl rfl rfl rfl rfl rfl (by decide) rfl (by decide) (fun i p h => ?_) ?_; rotate_left; conv => whnf)
      | (refine call_rp hcon rfl rfl rfl rfl ⟨DP_arr rfl (by simp), ⟨rfl, ⟨_, _, _, _, rfl, rfl, rfl⟩, trivial⟩, trivial⟩ rfl ?_; conv => whnf)
      | (refine call_rpD hcon rfl rfl rfl rfl ⟨DP_arr rfl (by simp), ⟨rfl, ⟨_, _, _, _, rfl, rfl, rfl⟩, trivial⟩, trivial⟩ rfl ?_; conv => whnf)
      | (refine call_at rfl rfl rfl rfl rfl ?_)
      | (refine call_rd rfl rfl rfl rfl rfl ?_)
      | (refine CallOp.std ?_; (conv => whnf); fail_if_success refine (?_ : False)))
    | (apply CallDet.id; first
      | (refine call_sel h2 rfl rfl rfl rfl ?_; conv => whnf)
      | (refine call_selD h2 rfl rfl rfl rfl ?_; conv => whnf)
      | (refine call_eat [] h3 rfl rfl rfl rfl rfl rfl (by decide) rfl (by decide) (fun i p h => by simp at h) (fun xs hxs => ?_); subst hxs; conv => whnf)
      | (refine call_eatD [] h3 rfl rfl rfl rfl rfl rfl (by decide) rfl (by decide) (fun i p h => by simp at h) ?_; conv => whnf)
      | (refine call_rdV hfind rfl rfl rfl rfl ⟨DV_arr rfl (by simp), rfl, trivial⟩ rfl ?_; conv => whnf)
      | (refine call_rdVD hfind rfl rfl rfl rfl ⟨DV_arr rfl (by simp), rfl, trivial⟩ rfl ?_; conv => whnf)
      | (refine call_eat [4] hdel rfl rfl rfl rfl rfl rfl (by decide) rfl (by decide) (fun i p h => ?_) (fun xs hxs => ?_); rotate_left; subst hxs; conv => whnf)
      | (refine call_eatD [4] hdel rfl rfl rfl rfl rfl rfl (by decide) rfl (by decide) (fun i p h => ?_) ?_; rotate_left; conv => whnf)
      | (refine call_rp hcon rfl rfl rfl rfl ⟨DP_arr rfl (by simp), ⟨rfl, ⟨_, _, _, _, rfl, rfl, rfl⟩, trivial⟩, trivial⟩ rfl ?_; conv => whnf)
      | (refine call_rpD hcon rfl rfl rfl rfl ⟨DP_arr rfl (by simp), ⟨rfl, ⟨_, _, _, _, rfl, rfl, rfl⟩, trivial⟩, trivial⟩ rfl ?_; conv => whnf)
      | (refine call_atD rfl rfl rfl rfl rfl ?_)
      | (refine call_rdD rfl rfl rfl rfl rfl ?_)
      | (refine CallDet.std ?_; (conv => whnf); fail_if_success refine (?_ : False)))
    | (apply CallAt.id; first
      | (apply CallAt.mk1 (h1); conv => whnf))
    | (apply CallRd.id; first
      | (apply CallRd.mk1 (h1); (· rfl); conv => whnf))
    | (refine EndOk.mk (by kernel_rfl) ?_; conv => whnf)
    | (refine And.intro (by (first | decide | exact trivial | omega | exact Nat.le_refl _ | (((try simp only [decide_eq_true_eq, decide_eq_false_iff_not, cond_true, cond_false, beq_iff_eq, beq_eq_false_iff_ne, bne_iff_ne, bne_eq_false_iff_eq, ne_eq, Bool.not_eq_true', Bool.not_eq_false', Bool.not_eq_eq_eq_not, Bool.not_true, Bool.not_false, sLe_eq, Bool.and_eq_true, Bool.and_eq_false_iff, List.length_map, List.length_set, List.length_append, List.length_take, List.length_drop, List.length_replicate, List.length_cons, List.length_nil, lenMax, capMax, Int.toNat_natCast, gt_iff_lt, ge_iff_le] at *); (try simp (disch := omega) only [wr, wru, shr1, Int.tdiv_eq_ediv_of_nonneg] at *)); omega) | (((try simp only [decide_eq_true_eq, decide_eq_false_iff_not, cond_true, cond_false, beq_iff_eq, beq_eq_false_iff_ne, bne_iff_ne, bne_eq_false_iff_eq, ne_eq, Bool.not_eq_true', Bool.not_eq_false', Bool.not_eq_eq_eq_not, Bool.not_true, Bool.not_false, sLe_eq, Bool.and_eq_true, Bool.and_eq_false_iff, List.length_map, List.length_set, List.length_append, List.length_take, List.length_drop, List.length_replicate, List.length_cons, List.length_nil, lenMax, capMax, Int.toNat_natCast, gt_iff_lt, ge_iff_le] at *); (try simp (disch := omega) only [wr, wru, shr1, Int.tdiv_eq_ediv_of_nonneg] at *)); assumption))) ?_; conv => whnf)
    | (refine idxOld (by assumption) ?_; conv => whnf)
    | (refine idxMap (by (first | decide | exact trivial | omega | exact Nat.le_refl _ | (((try simp only [decide_eq_true_eq, decide_eq_false_iff_not, cond_true, cond_false, beq_iff_eq, beq_eq_false_iff_ne, bne_iff_ne, bne_eq_false_iff_eq, ne_eq, Bool.not_eq_true', Bool.not_eq_false', Bool.not_eq_eq_eq_not, Bool.not_true, Bool.not_false, sLe_eq, Bool.and_eq_true, Bool.and_eq_false_iff, List.length_map, List.length_set, List.length_append, List.length_take, List.length_drop, List.length_replicate, List.length_cons, List.length_nil, lenMax, capMax, Int.toNat_natCast, gt_iff_lt, ge_iff_le] at *); (try simp (disch := omega) only [wr, wru, shr1, Int.tdiv_eq_ediv_of_nonneg] at *)); omega) | (((try simp only [decide_eq_true_eq, decide_eq_false_iff_not, cond_true, cond_false, beq_iff_eq, beq_eq_false_iff_ne, bne_iff_ne, bne_eq_false_iff_eq, ne_eq, Bool.not_eq_true', Bool.not_eq_false', Bool.not_eq_eq_eq_not, Bool.not_true, Bool.not_false, sLe_eq, Bool.and_eq_true, Bool.and_eq_false_iff, List.length_map, List.length_set, List.length_append, List.length_take, List.length_drop, List.length_replicate, List.length_cons, List.length_nil, lenMax, capMax, Int.toNat_natCast, gt_iff_lt, ge_iff_le] at *); (try simp (disch := omega) only [wr, wru, shr1, Int.tdiv_eq_ediv_of_nonneg] at *)); assumption))) (fun _ _ => ?_); conv => whnf)
    | refine Exists.intro _ (And.intro (DV_toV rfl) ?_)
    | (refine rowSet (by (first | decide | exact trivial | omega | exact Nat.le_refl _ | (((try simp only [decide_eq_true_eq, decide_eq_false_iff_not, cond_true, cond_false, beq_iff_eq, beq_eq_false_iff_ne, bne_iff_ne, bne_eq_false_iff_eq, ne_eq, Bool.not_eq_true', Bool.not_eq_false', Bool.not_eq_eq_eq_not, Bool.not_true, Bool.not_false, sLe_eq, Bool.and_eq_true, Bool.and_eq_false_iff, List.length_map, List.length_set, List.length_append, List.length_take, List.length_drop, List.length_replicate, List.length_cons, List.length_nil, lenMax, capMax, Int.toNat_natCast, gt_iff_lt, ge_iff_le] at *); (try simp (disch := omega) only [wr, wru, shr1, Int.tdiv_eq_ediv_of_nonneg] at *)); omega) | (((try simp only [decide_eq_true_eq, decide_eq_false_iff_not, cond_true, cond_false, beq_iff_eq, beq_eq_false_iff_ne, bne_iff_ne, bne_eq_false_iff_eq, ne_eq, Bool.not_eq_true', Bool.not_eq_false', Bool.not_eq_eq_eq_not, Bool.not_true, Bool.not_false, sLe_eq, Bool.and_eq_true, Bool.and_eq_false_iff, List.length_map, List.length_set, List.length_append, List.length_take, List.length_drop, List.length_replicate, List.length_cons, List.length_nil, lenMax, capMax, Int.toNat_natCast, gt_iff_lt, ge_iff_le] at *); (try simp (disch := omega) only [wr, wru, shr1, Int.tdiv_eq_ediv_of_nonneg] at *)); assumption))) ?_; conv => whnf)
    | (refine rowOld (by assumption) ?_; conv => whnf)
    | (refine rowNew (by (first | decide | exact trivial | omega | exact Nat.le_refl _ | (((try simp only [decide_eq_true_eq, decide_eq_false_iff_not, cond_true, cond_false, beq_iff_eq, beq_eq_false_iff_ne, bne_iff_ne, bne_eq_false_iff_eq, ne_eq, Bool.not_eq_true', Bool.not_eq_false', Bool.not_eq_eq_eq_not, Bool.not_true, Bool.not_false, sLe_eq, Bool.and_eq_true, Bool.and_eq_false_iff, List.length_map, List.length_set, List.length_append, List.length_take, List.length_drop, List.length_replicate, List.length_cons, List.length_nil, lenMax, capMax, Int.toNat_natCast, gt_iff_lt, ge_iff_le] at *); (try simp (disch := omega) only [wr, wru, shr1, Int.tdiv_eq_ediv_of_nonneg] at *)); omega) | (((try simp only [decide_eq_true_eq, decide_eq_false_iff_not, cond_true, cond_false, beq_iff_eq, beq_eq_false_iff_ne, bne_iff_ne, bne_eq_false_iff_eq, ne_eq, Bool.not_eq_true', Bool.not_eq_false', Bool.not_eq_eq_eq_not, Bool.not_true, Bool.not_false, sLe_eq, Bool.and_eq_true, Bool.and_eq_false_iff, List.length_map, List.length_set, List.length_append, List.length_take, List.length_drop, List.length_replicate, List.length_cons, List.length_nil, lenMax, capMax, Int.toNat_natCast, gt_iff_lt, ge_iff_le] at *); (try simp (disch := omega) only [wr, wru, shr1, Int.tdiv_eq_ediv_of_nonneg] at *)); assumption))) (fun _ _ => ?_); conv => whnf)
    | (apply WpD.id; first
      | (refine WpD.loopAt 50 rfl (fun q : Nat × List Tk => fgS w z l true q.1 q.2) (fun q => q.1 ≤ l.length ∧ q.2 = fgR w l true q.1 ∧ okF q.2) (fun q => l.length - q.1) ?_ (fun ⟨k, R⟩ hq => ?_); rotate_left; dsimp only at hq; obtain ⟨hq1, hq2, hq3⟩ := hq; rcases Nat.lt_or_ge k l.length with hlt | hge; rotate_left; (have dk : decide ((k : Int) < (l.length : Int)) = false := by { simp; omega }); (have hdel := c_DeleteT R (fun x hx => by have := hq3.b x hx; omega) (by have := hq3.l; omega)); (have hcon := c_ContainsT false (R.filter fun x => !nilT x) (upW w true (-1)).g (upW w true (-1)).j (Nat.le_trans (List.length_filter_le _ _) (by have := hq3.l; omega))); dsimp only [fgS]; rotate_right; (obtain ⟨s, hs⟩ : ∃ s, l[k]? = some s := ⟨_, List.getElem?_eq_getElem hlt⟩); (have hs0 : l[((k : Nat) : Int).toNat]? = some s := hs); (have dk : decide ((k : Int) < (l.length : Int)) = true := by { simp; omega }); (have hfind := c_find false R s ⟨by have := hq3.l; omega, hq3.s⟩); (have hN : hasN true R s := by { rw [hq2]; exact hok k s hs }); (obtain ⟨x, hgx, hxc⟩ := id hN); (obtain ⟨hh, hx, hxs, hile⟩ := find_of_get hq3.s hgx); (rw [hh] at hfind; have hx0 : R[0 + ((pT s R : Nat) : Int).toNat]? = some x := (by rw [Nat.zero_add, Int.toNat_natCast]; exact hx); have hx1 : R[((pT s R : Nat) : Int).toNat]? = some x := (by rw [Int.toNat_natCast]; exact hx); have dcn : (x.j == 0) = false := (by simpa [cnt] using hxc); dsimp only [fgS]))
      | (refine WpD.walk rfl ?_; conv => whnf))
  all_goals clear h1 h2 h3
  all_goals try clear hfind
  all_goals try clear hdel hcon
  all_goals try have hxb := hq3.b _ (List.mem_of_getElem? hx)
  all_goals ((try simp only [decide_eq_true_eq, decide_eq_false_iff_not, cond_true, cond_false, beq_iff_eq, beq_eq_false_iff_ne, bne_iff_ne, bne_eq_false_iff_eq, ne_eq, Bool.not_eq_true', Bool.not_eq_false', Bool.not_eq_eq_eq_not, Bool.not_true, Bool.not_false, sLe_eq, Bool.and_eq_true, Bool.and_eq_false_iff, List.length_map, List.length_set, List.length_append, List.length_take, List.length_drop, List.length_replicate, List.length_cons, List.length_nil, lenMax, capMax, Int.toNat_natCast, gt_iff_lt, ge_iff_le] at *); (try simp (disch := omega) only [wr, wru, shr1, Int.tdiv_eq_ediv_of_nonneg] at *))
  all_goals first
    | (rcases i with _ | i
       · simp at h; subst h
         exact obLe_v rfl
       · simp at h
       done)
    | (have hR : fgR w l true l.length = R := by rw [hq2]; unfold fgR; rw [List.take_of_length_le (by omega), List.take_of_length_le (by omega)]
       rw [hR]
       first
       | (rw [if_pos (by assumption)]; rfl)
       | (rw [if_neg (by rw [Bool.not_eq_true]; assumption)]
          refine ⟨_, ?_, rfl⟩
          exact ⟨⟨rfl, rfl, DV_arr rfl (by simp), trivial⟩, ⟨rfl, rfl, trivial⟩, trivial⟩))
    | (refine ⟨(0, w.l), [0, 1, 2, 3, 4], ⟨Nat.zero_le _, rfl, hok0⟩, ⟨by decide, rfl, ?_, ?_, rfl⟩⟩
       · (repeat' first | exact trivial | rfl | apply And.intro | (refine leInt rfl ?_; first | omega | (dsimp only; omega)) | (refine leArr rfl ?_ rfl; (simp; try omega)) | (refine leBool rfl ?_; assumption))
         done
       · exact ⟨⟨rfl, rfl, rfl⟩, obLe_v rfl, obLe_v rfl, obLe_v rfl, obLe_v rfl, trivial⟩)
    | (have hl1 := fgt_at (junk := true) hq3.s hgx
       have hl2 : (fgt true R s).length = R.length := by rw [hl1]; simp
       refine ⟨(k + 1, fgt true R s), [0, 1, 2, 3, 4], ⟨by dsimp only; omega, by dsimp only; rw [fgR_next hs, ← hq2], okF_next hq3 hN⟩, ⟨⟨by decide, rfl, ?_, ?_, rfl⟩, by dsimp only; omega⟩⟩
       · (repeat' first | exact trivial | apply And.intro | (refine leInt rfl ?_; first | omega | (dsimp only; omega)) | rfl | (refine leArr rfl ?_ rfl; (simp; try omega)) | (refine leBool rfl ?_; assumption))
         done
       · refine ⟨⟨rfl, ?_, rfl⟩, obLe_v rfl, obLe_v rfl, obLe_v rfl, obLe_v ?_, trivial⟩
         · dsimp only; rw [hl2]; rfl
         · dsimp only; rw [hl1]; simp [vrows, List.map_set, Tk.row, upT]; try rfl)
    | skip
  all_goals trace_state
end Go.DL
