/- The greylist: Tried where an entry stands. No condition. -/
import Derived.Test.YtmeaagnamlilgaaG10
set_option linter.unusedVariables false
set_option linter.unusedSimpArgs false
set_option maxHeartbeats 4000000
namespace Go.DL
open Go.Proofs

theorem key_at {l : List Ge} (hs : SG l) {k : K3} (hh : hG k l = true) {j : Nat} {x : Ge} (hx : l[j]? = some x) (hk : x.key = k) : j = pG k l := by
  obtain ⟨y, hy, hk', _⟩ := hasL_at ord3 hs hh
  rcases Nat.lt_trichotomy j (pG k l) with h | h | h
  · exact absurd (hk.trans hk'.symm) (ord3.ne (sort_get hs h hx hy))
  · exact h
  · exact absurd (hk'.trans hk.symm) (ord3.ne (sort_get hs h hy hx))
theorem c_Tried_ord (z : Bool) (l : List Ge) (h f t : ByteArray) (now : Int) (hb : tF0 l (ent h f t now) now = (0, 0)) (hh : hG (ent h f t now).key l = true) {x : Ge} (hx : l[pG (ent h f t now).key l]? = some x) (hlt : now < x.b) : CallV tab 12 [ges z l, .str h, .str f, .str t, .int .i64 now] (· = .tup [.sl 6 true [], .bool false, fv (19, (pG (ent h f t now).key l : Int))]) := by
  obtain ⟨a, b, c⟩ := tF_ok hb
  obtain ⟨hl, hr, hs⟩ := gchk_ok a
  have hx2 := (hr x (List.mem_of_getElem? hx)).2
  unfold gOk at hx2
  have h1 := c_GreyFault z l
  have h2 := c_GreyNames (ent h f t now)
  have h3 := c_Instant now
  have hkey : ∀ (j : Nat) (y : Ge), l[j]? = some y → (y.key = (ent h f t now).key ↔ j = pG (ent h f t now).key l) := fun j y hy => ⟨fun e => key_at hs hh hy e, fun e => by
    subst e
    rw [hx] at hy; injection hy with hy; subst hy
    obtain ⟨y, hy, hk', _⟩ := hasL_at ord3 hs hh
    unfold pG at hx
    rw [hx] at hy; injection hy with hy; subst hy; exact hk'⟩
  rw [a] at h1
  rw [b] at h2
  have c' := c
  unfold rg at c'
  rw [show (decide (-68719476736 ≤ now) && decide (now ≤ 68719476736)) = true by simp; omega] at h3
  have hold : ∀ (j : Nat) (x : Ge), l[j]? = some x → CallV tab 36 [.agg x.row, .int .i64 now] (· = .bool (exp' x now)) := fun j x hx => by
    have := (hr x (List.mem_of_getElem? hx)).2
    unfold gOk at this
    exact c_GreyOld x now ⟨by unfold rg; omega, by unfold rg; omega, c⟩
  have hd1 : decide (x.b > now) = true := by simp; omega
  generalize hpp : pG (ent h f t now).key l = p at *
  have hplt : p < l.length := lt_get hx
  have hx3 : l[((p : Nat) : Int).toNat]? = some x := by simpa using hx
  have hx4 : l[0 + ((p : Nat) : Int).toNat]? = some x := by simpa using hx
  have hp0 : decide ((p : Int) ≥ 0) = true := by simp
  refine callV_of Try.func12 rfl (Nat.le_of_ble_eq_true rfl) (by kernel_rfl) ?_
  repeat' first
    | (have ht : t' = (p : Int) := htp (by assumption); subst ht)
    | (apply Br.id; first
      | (apply Br.tt; try conv => whnf)
      | (apply Br.ff; try conv => whnf)
      | (refine Br.of_t (by assumption) ?_; conv => whnf)
      | (refine Br.of_f (by assumption) ?_; conv => whnf)
      | (refine Br.mk (fun _ => ?_) (fun _ => ?_) <;> try conv => whnf))
    | (apply CallOp.id; first
      | (refine call_at rfl rfl rfl rfl rfl ?_)
      | (refine call_rd rfl rfl rfl rfl rfl ?_)
      | (refine CallOp.std ?_; (conv => whnf); fail_if_success refine (?_ : False)))
    | (apply CallDet.id; first
      | (refine call_atD rfl rfl rfl rfl rfl ?_)
      | (refine call_rdD rfl rfl rfl rfl rfl ?_)
      | (refine CallDet.std ?_; (conv => whnf); fail_if_success refine (?_ : False)))
    | (apply CallAt.id; first
      | (apply CallAt.mk1 (h1); conv => whnf)
      | (apply CallAt.mk1 (h2); conv => whnf)
      | (apply CallAt.mk1 (h3); conv => whnf)
      | (apply CallAt.mk1 (c_At _ _); conv => whnf)
      | (apply CallAt.mk1 (c_GreySame _ _); conv => whnf)
      | (apply CallAt.mk1 (c_GreyLess _ _); conv => whnf)
      | (apply CallAt.mk1 (hold _ _ (by assumption)); conv => whnf))
    | (apply CallRd.id; first
      | (apply CallRd.mk1 (h1); (· rfl); conv => whnf)
      | (apply CallRd.mk1 (h2); (· rfl); conv => whnf)
      | (apply CallRd.mk1 (h3); (· rfl); conv => whnf)
      | (apply CallRd.mk1 (c_At _ _); (· rfl); conv => whnf)
      | (apply CallRd.mk1 (c_GreySame _ _); (· rfl); conv => whnf)
      | (apply CallRd.mk1 (c_GreyLess _ _); (· rfl); conv => whnf))
    | (refine EndOk.mk (by kernel_rfl) ?_; conv => whnf)
    | (refine And.intro (by (first | decide | exact trivial | omega | exact Nat.le_refl _ | (((try simp only [decide_eq_true_eq, decide_eq_false_iff_not, cond_true, cond_false, beq_iff_eq, beq_eq_false_iff_ne, bne_iff_ne, bne_eq_false_iff_eq, ne_eq, Bool.not_eq_true', Bool.not_eq_false', Bool.not_eq_eq_eq_not, Bool.not_true, Bool.not_false, sLe_eq, Bool.and_eq_true, Bool.and_eq_false_iff, List.length_map, List.length_set, List.length_append, List.length_take, List.length_drop, List.length_replicate, List.length_cons, List.length_nil, lenMax, capMax, Int.toNat_natCast, gt_iff_lt, ge_iff_le] at *); (try simp (disch := omega) only [wr, wru, shr1, Int.tdiv_eq_ediv_of_nonneg] at *)); omega) | (((try simp only [decide_eq_true_eq, decide_eq_false_iff_not, cond_true, cond_false, beq_iff_eq, beq_eq_false_iff_ne, bne_iff_ne, bne_eq_false_iff_eq, ne_eq, Bool.not_eq_true', Bool.not_eq_false', Bool.not_eq_eq_eq_not, Bool.not_true, Bool.not_false, sLe_eq, Bool.and_eq_true, Bool.and_eq_false_iff, List.length_map, List.length_set, List.length_append, List.length_take, List.length_drop, List.length_replicate, List.length_cons, List.length_nil, lenMax, capMax, Int.toNat_natCast, gt_iff_lt, ge_iff_le] at *); (try simp (disch := omega) only [wr, wru, shr1, Int.tdiv_eq_ediv_of_nonneg] at *)); assumption))) ?_; conv => whnf)
    | (refine idxOld (by assumption) ?_; conv => whnf)
    | (refine idxMap (by (first | decide | exact trivial | omega | exact Nat.le_refl _ | (((try simp only [decide_eq_true_eq, decide_eq_false_iff_not, cond_true, cond_false, beq_iff_eq, beq_eq_false_iff_ne, bne_iff_ne, bne_eq_false_iff_eq, ne_eq, Bool.not_eq_true', Bool.not_eq_false', Bool.not_eq_eq_eq_not, Bool.not_true, Bool.not_false, sLe_eq, Bool.and_eq_true, Bool.and_eq_false_iff, List.length_map, List.length_set, List.length_append, List.length_take, List.length_drop, List.length_replicate, List.length_cons, List.length_nil, lenMax, capMax, Int.toNat_natCast, gt_iff_lt, ge_iff_le] at *); (try simp (disch := omega) only [wr, wru, shr1, Int.tdiv_eq_ediv_of_nonneg] at *)); omega) | (((try simp only [decide_eq_true_eq, decide_eq_false_iff_not, cond_true, cond_false, beq_iff_eq, beq_eq_false_iff_ne, bne_iff_ne, bne_eq_false_iff_eq, ne_eq, Bool.not_eq_true', Bool.not_eq_false', Bool.not_eq_eq_eq_not, Bool.not_true, Bool.not_false, sLe_eq, Bool.and_eq_true, Bool.and_eq_false_iff, List.length_map, List.length_set, List.length_append, List.length_take, List.length_drop, List.length_replicate, List.length_cons, List.length_nil, lenMax, capMax, Int.toNat_natCast, gt_iff_lt, ge_iff_le] at *); (try simp (disch := omega) only [wr, wru, shr1, Int.tdiv_eq_ediv_of_nonneg] at *)); assumption))) (fun _ _ => ?_); conv => whnf)
    | refine Exists.intro _ (And.intro (DV_toV rfl) ?_)
    | (refine rowSet (by (first | decide | exact trivial | omega | exact Nat.le_refl _ | (((try simp only [decide_eq_true_eq, decide_eq_false_iff_not, cond_true, cond_false, beq_iff_eq, beq_eq_false_iff_ne, bne_iff_ne, bne_eq_false_iff_eq, ne_eq, Bool.not_eq_true', Bool.not_eq_false', Bool.not_eq_eq_eq_not, Bool.not_true, Bool.not_false, sLe_eq, Bool.and_eq_true, Bool.and_eq_false_iff, List.length_map, List.length_set, List.length_append, List.length_take, List.length_drop, List.length_replicate, List.length_cons, List.length_nil, lenMax, capMax, Int.toNat_natCast, gt_iff_lt, ge_iff_le] at *); (try simp (disch := omega) only [wr, wru, shr1, Int.tdiv_eq_ediv_of_nonneg] at *)); omega) | (((try simp only [decide_eq_true_eq, decide_eq_false_iff_not, cond_true, cond_false, beq_iff_eq, beq_eq_false_iff_ne, bne_iff_ne, bne_eq_false_iff_eq, ne_eq, Bool.not_eq_true', Bool.not_eq_false', Bool.not_eq_eq_eq_not, Bool.not_true, Bool.not_false, sLe_eq, Bool.and_eq_true, Bool.and_eq_false_iff, List.length_map, List.length_set, List.length_append, List.length_take, List.length_drop, List.length_replicate, List.length_cons, List.length_nil, lenMax, capMax, Int.toNat_natCast, gt_iff_lt, ge_iff_le] at *); (try simp (disch := omega) only [wr, wru, shr1, Int.tdiv_eq_ediv_of_nonneg] at *)); assumption))) ?_; conv => whnf)
    | (refine rowOld (by assumption) ?_; conv => whnf)
    | (refine rowNew (by (first | decide | exact trivial | omega | exact Nat.le_refl _ | (((try simp only [decide_eq_true_eq, decide_eq_false_iff_not, cond_true, cond_false, beq_iff_eq, beq_eq_false_iff_ne, bne_iff_ne, bne_eq_false_iff_eq, ne_eq, Bool.not_eq_true', Bool.not_eq_false', Bool.not_eq_eq_eq_not, Bool.not_true, Bool.not_false, sLe_eq, Bool.and_eq_true, Bool.and_eq_false_iff, List.length_map, List.length_set, List.length_append, List.length_take, List.length_drop, List.length_replicate, List.length_cons, List.length_nil, lenMax, capMax, Int.toNat_natCast, gt_iff_lt, ge_iff_le] at *); (try simp (disch := omega) only [wr, wru, shr1, Int.tdiv_eq_ediv_of_nonneg] at *)); omega) | (((try simp only [decide_eq_true_eq, decide_eq_false_iff_not, cond_true, cond_false, beq_iff_eq, beq_eq_false_iff_ne, bne_iff_ne, bne_eq_false_iff_eq, ne_eq, Bool.not_eq_true', Bool.not_eq_false', Bool.not_eq_eq_eq_not, Bool.not_true, Bool.not_false, sLe_eq, Bool.and_eq_true, Bool.and_eq_false_iff, List.length_map, List.length_set, List.length_append, List.length_take, List.length_drop, List.length_replicate, List.length_cons, List.length_nil, lenMax, capMax, Int.toNat_natCast, gt_iff_lt, ge_iff_le] at *); (try simp (disch := omega) only [wr, wru, shr1, Int.tdiv_eq_ediv_of_nonneg] at *)); assumption))) (fun _ _ => ?_); conv => whnf)
    | (apply WpD.id; first
      | (refine WpD.loop (fun q : Nat × Int => tS z l (ent h f t now) now q.2 q.1) (fun q => q.1 ≤ l.length ∧ (p < q.1 → q.2 = (p : Int)) ∧ (¬ p < q.1 → q.2 = -1)) (fun q => l.length - q.1) ?_ (fun ⟨k', t'⟩ hq => ?_); rotate_left; dsimp only at hq; obtain ⟨hq1, hq2, hq3⟩ := hq; have htp : decide ((k' : Int) < ((l.map Ge.row).length : Int)) = false → t' = (p : Int) := fun hd => hq2 (by simp at hd; omega); dsimp only [tS])
      | (refine WpD.walk rfl ?_; conv => whnf))
  all_goals clear h1 h2 h3 hold
  all_goals try clear htp
  all_goals ((try simp only [decide_eq_true_eq, decide_eq_false_iff_not, cond_true, cond_false, beq_iff_eq, beq_eq_false_iff_ne, bne_iff_ne, bne_eq_false_iff_eq, ne_eq, Bool.not_eq_true', Bool.not_eq_false', Bool.not_eq_eq_eq_not, Bool.not_true, Bool.not_false, sLe_eq, Bool.and_eq_true, Bool.and_eq_false_iff, List.length_map, List.length_set, List.length_append, List.length_take, List.length_drop, List.length_replicate, List.length_cons, List.length_nil, lenMax, capMax, Int.toNat_natCast, gt_iff_lt, ge_iff_le] at *); (try simp (disch := omega) only [wr, wru, shr1, Int.tdiv_eq_ediv_of_nonneg] at *))
  all_goals first
    | (refine ⟨(0, -1), [0, 2], ⟨Nat.zero_le _, fun h => absurd h (Nat.not_lt_zero _), fun _ => rfl⟩, ⟨by decide, rfl, ?_, ?_, rfl⟩⟩
       · (repeat' first | exact trivial | rfl | apply And.intro | (refine leInt rfl ?_; first | omega | (dsimp only; omega)) | (refine leArr rfl ?_ rfl; (simp; try omega)) | (refine leBool rfl ?_; assumption))
         done
       · (repeat' first | exact trivial | (refine obLe_v ?_; try dsimp only) | rfl | apply And.intro)
         done)
    | (have hkk := (hkey _ _ ‹l[k']? = some _›).1 ‹_ = _›
       refine ⟨(k' + 1, (k' : Int)), [0, 1], ⟨by dsimp only; omega, fun _ => by dsimp only; omega, fun hn => by dsimp only at hn; omega⟩, ⟨by decide, rfl, ?_, ?_, rfl⟩, by dsimp only; omega⟩
       · (repeat' first | exact trivial | rfl | apply And.intro | (refine leInt rfl ?_; first | omega | (dsimp only; omega)) | (refine leArr rfl ?_ rfl; (simp; try omega)) | (refine leBool rfl ?_; assumption))
         done
       · (repeat' first | exact trivial | (refine obLe_v ?_; try dsimp only) | rfl | apply And.intro)
         done)
    | (have hkk : ¬ k' = p := fun e => absurd ((hkey _ _ ‹l[k']? = some _›).2 e) ‹¬ (_ = _)›
       refine ⟨(k' + 1, t'), [0, 1], ⟨by dsimp only; omega, fun h => hq2 (by dsimp only at h; omega), fun h => hq3 (by dsimp only at h; omega)⟩, ⟨by decide, rfl, ?_, ?_, rfl⟩, by dsimp only; omega⟩
       · (repeat' first | exact trivial | rfl | apply And.intro | (refine leInt rfl ?_; first | omega | (dsimp only; omega)) | (refine leArr rfl ?_ rfl; (simp; try omega)) | (refine leBool rfl ?_; assumption))
         done
       · (repeat' first | exact trivial | (refine obLe_v ?_; try dsimp only) | rfl | apply And.intro)
         done)
    | rfl
    | skip
  all_goals trace_state
theorem c_Tried_has (z : Bool) (l : List Ge) (h f t : ByteArray) (now : Int) (hb : tF0 l (ent h f t now) now = (0, 0)) (hh : hG (ent h f t now).key l = true) {x : Ge} (hx : l[pG (ent h f t now).key l]? = some x) (hlt : ¬ now < x.b) (he : exp' x now = false) : CallV tab 12 [ges z l, .str h, .str f, .str t, .int .i64 now] (· = .tup [ges false (l.set (pG (ent h f t now).key l) (upG x now)), .bool (upG x now).k, fv (0, 0)]) := by
  obtain ⟨a, b, c⟩ := tF_ok hb
  obtain ⟨hl, hr, hs⟩ := gchk_ok a
  have hx2 := (hr x (List.mem_of_getElem? hx)).2
  unfold gOk at hx2
  have h1 := c_GreyFault z l
  have h2 := c_GreyNames (ent h f t now)
  have h3 := c_Instant now
  have hkey : ∀ (j : Nat) (y : Ge), l[j]? = some y → (y.key = (ent h f t now).key ↔ j = pG (ent h f t now).key l) := fun j y hy => ⟨fun e => key_at hs hh hy e, fun e => by
    subst e
    rw [hx] at hy; injection hy with hy; subst hy
    obtain ⟨y, hy, hk', _⟩ := hasL_at ord3 hs hh
    unfold pG at hx
    rw [hx] at hy; injection hy with hy; subst hy; exact hk'⟩
  rw [a] at h1
  rw [b] at h2
  have c' := c
  unfold rg at c'
  rw [show (decide (-68719476736 ≤ now) && decide (now ≤ 68719476736)) = true by simp; omega] at h3
  have hold : ∀ (j : Nat) (x : Ge), l[j]? = some x → CallV tab 36 [.agg x.row, .int .i64 now] (· = .bool (exp' x now)) := fun j x hx => by
    have := (hr x (List.mem_of_getElem? hx)).2
    unfold gOk at this
    exact c_GreyOld x now ⟨by unfold rg; omega, by unfold rg; omega, c⟩
  have hd1 : decide (x.b > now) = false := by simp; omega
  have hxo := hold _ _ hx
  rw [he] at hxo
  generalize hpp : pG (ent h f t now).key l = p at *
  have hplt : p < l.length := lt_get hx
  have hx3 : l[((p : Nat) : Int).toNat]? = some x := by simpa using hx
  have hx4 : l[0 + ((p : Nat) : Int).toNat]? = some x := by simpa using hx
  have hp0 : decide ((p : Int) ≥ 0) = true := by simp
  refine callV_of Try.func12 rfl (Nat.le_of_ble_eq_true rfl) (by kernel_rfl) ?_
  repeat' first
    | (have ht : t' = (p : Int) := htp (by assumption); subst ht)
    | (apply Br.id; first
      | (apply Br.tt; try conv => whnf)
      | (apply Br.ff; try conv => whnf)
      | (refine Br.of_t (by assumption) ?_; conv => whnf)
      | (refine Br.of_f (by assumption) ?_; conv => whnf)
      | (refine Br.mk (fun _ => ?_) (fun _ => ?_) <;> try conv => whnf))
    | (apply CallOp.id; first
      | (refine call_at rfl rfl rfl rfl rfl ?_)
      | (refine call_rd rfl rfl rfl rfl rfl ?_)
      | (refine CallOp.std ?_; (conv => whnf); fail_if_success refine (?_ : False)))
    | (apply CallDet.id; first
      | (refine call_atD rfl rfl rfl rfl rfl ?_)
      | (refine call_rdD rfl rfl rfl rfl rfl ?_)
      | (refine CallDet.std ?_; (conv => whnf); fail_if_success refine (?_ : False)))
    | (apply CallAt.id; first
      | (apply CallAt.mk1 (h1); conv => whnf)
      | (apply CallAt.mk1 (h2); conv => whnf)
      | (apply CallAt.mk1 (h3); conv => whnf)
      | (apply CallAt.mk1 (c_At _ _); conv => whnf)
      | (apply CallAt.mk1 (c_GreySame _ _); conv => whnf)
      | (apply CallAt.mk1 (c_GreyLess _ _); conv => whnf)
      | (apply CallAt.mk1 (hxo); conv => whnf)
      | (apply CallAt.mk1 (hold _ _ (by assumption)); conv => whnf))
    | (apply CallRd.id; first
      | (apply CallRd.mk1 (h1); (· rfl); conv => whnf)
      | (apply CallRd.mk1 (h2); (· rfl); conv => whnf)
      | (apply CallRd.mk1 (h3); (· rfl); conv => whnf)
      | (apply CallRd.mk1 (c_At _ _); (· rfl); conv => whnf)
      | (apply CallRd.mk1 (c_GreySame _ _); (· rfl); conv => whnf)
      | (apply CallRd.mk1 (c_GreyLess _ _); (· rfl); conv => whnf)
      | (apply CallRd.mk1 (hxo); (· rfl); conv => whnf))
    | (refine EndOk.mk (by kernel_rfl) ?_; conv => whnf)
    | (refine And.intro (by (first | decide | exact trivial | omega | exact Nat.le_refl _ | (((try simp only [decide_eq_true_eq, decide_eq_false_iff_not, cond_true, cond_false, beq_iff_eq, beq_eq_false_iff_ne, bne_iff_ne, bne_eq_false_iff_eq, ne_eq, Bool.not_eq_true', Bool.not_eq_false', Bool.not_eq_eq_eq_not, Bool.not_true, Bool.not_false, sLe_eq, Bool.and_eq_true, Bool.and_eq_false_iff, List.length_map, List.length_set, List.length_append, List.length_take, List.length_drop, List.length_replicate, List.length_cons, List.length_nil, lenMax, capMax, Int.toNat_natCast, gt_iff_lt, ge_iff_le] at *); (try simp (disch := omega) only [wr, wru, shr1, Int.tdiv_eq_ediv_of_nonneg] at *)); omega) | (((try simp only [decide_eq_true_eq, decide_eq_false_iff_not, cond_true, cond_false, beq_iff_eq, beq_eq_false_iff_ne, bne_iff_ne, bne_eq_false_iff_eq, ne_eq, Bool.not_eq_true', Bool.not_eq_false', Bool.not_eq_eq_eq_not, Bool.not_true, Bool.not_false, sLe_eq, Bool.and_eq_true, Bool.and_eq_false_iff, List.length_map, List.length_set, List.length_append, List.length_take, List.length_drop, List.length_replicate, List.length_cons, List.length_nil, lenMax, capMax, Int.toNat_natCast, gt_iff_lt, ge_iff_le] at *); (try simp (disch := omega) only [wr, wru, shr1, Int.tdiv_eq_ediv_of_nonneg] at *)); assumption))) ?_; conv => whnf)
    | (refine idxOld (by assumption) ?_; conv => whnf)
    | (refine idxMap (by (first | decide | exact trivial | omega | exact Nat.le_refl _ | (((try simp only [decide_eq_true_eq, decide_eq_false_iff_not, cond_true, cond_false, beq_iff_eq, beq_eq_false_iff_ne, bne_iff_ne, bne_eq_false_iff_eq, ne_eq, Bool.not_eq_true', Bool.not_eq_false', Bool.not_eq_eq_eq_not, Bool.not_true, Bool.not_false, sLe_eq, Bool.and_eq_true, Bool.and_eq_false_iff, List.length_map, List.length_set, List.length_append, List.length_take, List.length_drop, List.length_replicate, List.length_cons, List.length_nil, lenMax, capMax, Int.toNat_natCast, gt_iff_lt, ge_iff_le] at *); (try simp (disch := omega) only [wr, wru, shr1, Int.tdiv_eq_ediv_of_nonneg] at *)); omega) | (((try simp only [decide_eq_true_eq, decide_eq_false_iff_not, cond_true, cond_false, beq_iff_eq, beq_eq_false_iff_ne, bne_iff_ne, bne_eq_false_iff_eq, ne_eq, Bool.not_eq_true', Bool.not_eq_false', Bool.not_eq_eq_eq_not, Bool.not_true, Bool.not_false, sLe_eq, Bool.and_eq_true, Bool.and_eq_false_iff, List.length_map, List.length_set, List.length_append, List.length_take, List.length_drop, List.length_replicate, List.length_cons, List.length_nil, lenMax, capMax, Int.toNat_natCast, gt_iff_lt, ge_iff_le] at *); (try simp (disch := omega) only [wr, wru, shr1, Int.tdiv_eq_ediv_of_nonneg] at *)); assumption))) (fun _ _ => ?_); conv => whnf)
    | refine Exists.intro _ (And.intro (DV_toV rfl) ?_)
    | (refine rowSet (by (first | decide | exact trivial | omega | exact Nat.le_refl _ | (((try simp only [decide_eq_true_eq, decide_eq_false_iff_not, cond_true, cond_false, beq_iff_eq, beq_eq_false_iff_ne, bne_iff_ne, bne_eq_false_iff_eq, ne_eq, Bool.not_eq_true', Bool.not_eq_false', Bool.not_eq_eq_eq_not, Bool.not_true, Bool.not_false, sLe_eq, Bool.and_eq_true, Bool.and_eq_false_iff, List.length_map, List.length_set, List.length_append, List.length_take, List.length_drop, List.length_replicate, List.length_cons, List.length_nil, lenMax, capMax, Int.toNat_natCast, gt_iff_lt, ge_iff_le] at *); (try simp (disch := omega) only [wr, wru, shr1, Int.tdiv_eq_ediv_of_nonneg] at *)); omega) | (((try simp only [decide_eq_true_eq, decide_eq_false_iff_not, cond_true, cond_false, beq_iff_eq, beq_eq_false_iff_ne, bne_iff_ne, bne_eq_false_iff_eq, ne_eq, Bool.not_eq_true', Bool.not_eq_false', Bool.not_eq_eq_eq_not, Bool.not_true, Bool.not_false, sLe_eq, Bool.and_eq_true, Bool.and_eq_false_iff, List.length_map, List.length_set, List.length_append, List.length_take, List.length_drop, List.length_replicate, List.length_cons, List.length_nil, lenMax, capMax, Int.toNat_natCast, gt_iff_lt, ge_iff_le] at *); (try simp (disch := omega) only [wr, wru, shr1, Int.tdiv_eq_ediv_of_nonneg] at *)); assumption))) ?_; conv => whnf)
    | (refine rowOld (by assumption) ?_; conv => whnf)
    | (refine rowNew (by (first | decide | exact trivial | omega | exact Nat.le_refl _ | (((try simp only [decide_eq_true_eq, decide_eq_false_iff_not, cond_true, cond_false, beq_iff_eq, beq_eq_false_iff_ne, bne_iff_ne, bne_eq_false_iff_eq, ne_eq, Bool.not_eq_true', Bool.not_eq_false', Bool.not_eq_eq_eq_not, Bool.not_true, Bool.not_false, sLe_eq, Bool.and_eq_true, Bool.and_eq_false_iff, List.length_map, List.length_set, List.length_append, List.length_take, List.length_drop, List.length_replicate, List.length_cons, List.length_nil, lenMax, capMax, Int.toNat_natCast, gt_iff_lt, ge_iff_le] at *); (try simp (disch := omega) only [wr, wru, shr1, Int.tdiv_eq_ediv_of_nonneg] at *)); omega) | (((try simp only [decide_eq_true_eq, decide_eq_false_iff_not, cond_true, cond_false, beq_iff_eq, beq_eq_false_iff_ne, bne_iff_ne, bne_eq_false_iff_eq, ne_eq, Bool.not_eq_true', Bool.not_eq_false', Bool.not_eq_eq_eq_not, Bool.not_true, Bool.not_false, sLe_eq, Bool.and_eq_true, Bool.and_eq_false_iff, List.length_map, List.length_set, List.length_append, List.length_take, List.length_drop, List.length_replicate, List.length_cons, List.length_nil, lenMax, capMax, Int.toNat_natCast, gt_iff_lt, ge_iff_le] at *); (try simp (disch := omega) only [wr, wru, shr1, Int.tdiv_eq_ediv_of_nonneg] at *)); assumption))) (fun _ _ => ?_); conv => whnf)
    | (apply WpD.id; first
      | (refine WpD.loop (fun q : Nat × Int => tS z l (ent h f t now) now q.2 q.1) (fun q => q.1 ≤ l.length ∧ (p < q.1 → q.2 = (p : Int)) ∧ (¬ p < q.1 → q.2 = -1)) (fun q => l.length - q.1) ?_ (fun ⟨k', t'⟩ hq => ?_); rotate_left; dsimp only at hq; obtain ⟨hq1, hq2, hq3⟩ := hq; have htp : decide ((k' : Int) < ((l.map Ge.row).length : Int)) = false → t' = (p : Int) := fun hd => hq2 (by simp at hd; omega); dsimp only [tS])
      | (refine WpD.walk rfl ?_; conv => whnf))
  all_goals clear h1 h2 h3 hold hxo
  all_goals try clear htp
  all_goals ((try simp only [decide_eq_true_eq, decide_eq_false_iff_not, cond_true, cond_false, beq_iff_eq, beq_eq_false_iff_ne, bne_iff_ne, bne_eq_false_iff_eq, ne_eq, Bool.not_eq_true', Bool.not_eq_false', Bool.not_eq_eq_eq_not, Bool.not_true, Bool.not_false, sLe_eq, Bool.and_eq_true, Bool.and_eq_false_iff, List.length_map, List.length_set, List.length_append, List.length_take, List.length_drop, List.length_replicate, List.length_cons, List.length_nil, lenMax, capMax, Int.toNat_natCast, gt_iff_lt, ge_iff_le] at *); (try simp (disch := omega) only [wr, wru, shr1, Int.tdiv_eq_ediv_of_nonneg] at *))
  all_goals first
    | (refine ⟨(0, -1), [0, 2], ⟨Nat.zero_le _, fun h => absurd h (Nat.not_lt_zero _), fun _ => rfl⟩, ⟨by decide, rfl, ?_, ?_, rfl⟩⟩
       · (repeat' first | exact trivial | rfl | apply And.intro | (refine leInt rfl ?_; first | omega | (dsimp only; omega)) | (refine leArr rfl ?_ rfl; (simp; try omega)) | (refine leBool rfl ?_; assumption))
         done
       · (repeat' first | exact trivial | (refine obLe_v ?_; try dsimp only) | rfl | apply And.intro)
         done)
    | (have hkk := (hkey _ _ ‹l[k']? = some _›).1 ‹_ = _›
       refine ⟨(k' + 1, (k' : Int)), [0, 1], ⟨by dsimp only; omega, fun _ => by dsimp only; omega, fun hn => by dsimp only at hn; omega⟩, ⟨by decide, rfl, ?_, ?_, rfl⟩, by dsimp only; omega⟩
       · (repeat' first | exact trivial | rfl | apply And.intro | (refine leInt rfl ?_; first | omega | (dsimp only; omega)) | (refine leArr rfl ?_ rfl; (simp; try omega)) | (refine leBool rfl ?_; assumption))
         done
       · (repeat' first | exact trivial | (refine obLe_v ?_; try dsimp only) | rfl | apply And.intro)
         done)
    | (have hkk : ¬ k' = p := fun e => absurd ((hkey _ _ ‹l[k']? = some _›).2 e) ‹¬ (_ = _)›
       refine ⟨(k' + 1, t'), [0, 1], ⟨by dsimp only; omega, fun h => hq2 (by dsimp only at h; omega), fun h => hq3 (by dsimp only at h; omega)⟩, ⟨by decide, rfl, ?_, ?_, rfl⟩, by dsimp only; omega⟩
       · (repeat' first | exact trivial | rfl | apply And.intro | (refine leInt rfl ?_; first | omega | (dsimp only; omega)) | (refine leArr rfl ?_ rfl; (simp; try omega)) | (refine leBool rfl ?_; assumption))
         done
       · (repeat' first | exact trivial | (refine obLe_v ?_; try dsimp only) | rfl | apply And.intro)
         done)
    | (refine ⟨_, ?_, rfl⟩
       refine ⟨⟨rfl, _, rfl, ?_, ?_⟩, ?_, ⟨rfl, rfl, trivial⟩, trivial⟩
       · have hk3 : (300 ≤ now - x.a) ∨ ¬ (300 ≤ now - x.a) := Decidable.em _
         rcases hk3 with hk3 | hk3
         · first
            | (exfalso; omega)
            | (simp [List.take_of_length_le, List.map_set, Ge.row, upG, hk3]; done)
            | (simp [List.take_of_length_le, List.map_set, Ge.row, upG, hk3]; rfl)
         · first
            | (exfalso; omega)
            | (simp [List.take_of_length_le, List.map_set, Ge.row, upG, hk3]; done)
       · simp
       · have hk3 : (300 ≤ now - x.a) ∨ ¬ (300 ≤ now - x.a) := Decidable.em _
         rcases hk3 with hk3 | hk3
         · first
            | (exfalso; omega)
            | (show V.bool _ = V.bool _; simp [upG, hk3]; done)
         · first
            | (exfalso; omega)
            | (show V.bool _ = V.bool _; simp [upG, hk3]; done))
    | skip
  all_goals trace_state
theorem c_Tried_old (z : Bool) (l : List Ge) (h f t : ByteArray) (now : Int) (hb : tF0 l (ent h f t now) now = (0, 0)) (hh : hG (ent h f t now).key l = true) {x : Ge} (hx : l[pG (ent h f t now).key l]? = some x) (hlt : ¬ now < x.b) (he : exp' x now = true) : CallV tab 12 [ges z l, .str h, .str f, .str t, .int .i64 now] (· = .tup [outV (freshF l (ent h f t now) now), .bool false, fv (freshF l (ent h f t now) now).2]) := by
  obtain ⟨a, b, c⟩ := tF_ok hb
  obtain ⟨hl, hr, hs⟩ := gchk_ok a
  have hx2 := (hr x (List.mem_of_getElem? hx)).2
  unfold gOk at hx2
  have h1 := c_GreyFault z l
  have h2 := c_GreyNames (ent h f t now)
  have h3 := c_Instant now
  have hkey : ∀ (j : Nat) (y : Ge), l[j]? = some y → (y.key = (ent h f t now).key ↔ j = pG (ent h f t now).key l) := fun j y hy => ⟨fun e => key_at hs hh hy e, fun e => by
    subst e
    rw [hx] at hy; injection hy with hy; subst hy
    obtain ⟨y, hy, hk', _⟩ := hasL_at ord3 hs hh
    unfold pG at hx
    rw [hx] at hy; injection hy with hy; subst hy; exact hk'⟩
  have hg : getL Ge.key (ent h f t now).key l = some x := by
    obtain ⟨y, hy, _, hg⟩ := hasL_at ord3 hs hh
    unfold pG at hx
    rw [hx] at hy; injection hy with hy; subst hy; exact hg
  rw [a] at h1
  rw [b] at h2
  have c' := c
  unfold rg at c'
  rw [show (decide (-68719476736 ≤ now) && decide (now ≤ 68719476736)) = true by simp; omega] at h3
  have hold : ∀ (j : Nat) (x : Ge), l[j]? = some x → CallV tab 36 [.agg x.row, .int .i64 now] (· = .bool (exp' x now)) := fun j x hx => by
    have := (hr x (List.mem_of_getElem? hx)).2
    unfold gOk at this
    exact c_GreyOld x now ⟨by unfold rg; omega, by unfold rg; omega, c⟩
  have hd1 : decide (x.b > now) = false := by simp; omega
  have hxo := hold _ _ hx
  rw [he] at hxo
  generalize hpp : pG (ent h f t now).key l = p at *
  have hplt : p < l.length := lt_get hx
  have hx3 : l[((p : Nat) : Int).toNat]? = some x := by simpa using hx
  have hx4 : l[0 + ((p : Nat) : Int).toNat]? = some x := by simpa using hx
  have hp0 : decide ((p : Int) ≥ 0) = true := by simp
  refine callV_of Try.func12 rfl (Nat.le_of_ble_eq_true rfl) (by kernel_rfl) ?_
  repeat' first
    | (have ht : t' = (p : Int) := htp (by assumption); subst ht)
    | (apply Br.id; first
      | (apply Br.tt; try conv => whnf)
      | (apply Br.ff; try conv => whnf)
      | (refine Br.of_t (by assumption) ?_; conv => whnf)
      | (refine Br.of_f (by assumption) ?_; conv => whnf)
      | (refine Br.mk (fun _ => ?_) (fun _ => ?_) <;> try conv => whnf))
    | (apply CallOp.id; first
      | (refine call_at rfl rfl rfl rfl rfl ?_)
      | (refine call_rd rfl rfl rfl rfl rfl ?_)
      | (refine CallOp.std ?_; (conv => whnf); fail_if_success refine (?_ : False)))
    | (apply CallDet.id; first
      | (refine call_atD rfl rfl rfl rfl rfl ?_)
      | (refine call_rdD rfl rfl rfl rfl rfl ?_)
      | (refine CallDet.std ?_; (conv => whnf); fail_if_success refine (?_ : False)))
    | (apply CallAt.id; first
      | (apply CallAt.mk1 (h1); conv => whnf)
      | (apply CallAt.mk1 (h2); conv => whnf)
      | (apply CallAt.mk1 (h3); conv => whnf)
      | (apply CallAt.mk1 (c_At _ _); conv => whnf)
      | (apply CallAt.mk1 (c_GreySame _ _); conv => whnf)
      | (apply CallAt.mk1 (c_GreyLess _ _); conv => whnf)
      | (apply CallAt.mk1 (hxo); conv => whnf)
      | (apply CallAt.mk1 (hold _ _ (by assumption)); conv => whnf))
    | (apply CallRd.id; first
      | (apply CallRd.mk1 (h1); (· rfl); conv => whnf)
      | (apply CallRd.mk1 (h2); (· rfl); conv => whnf)
      | (apply CallRd.mk1 (h3); (· rfl); conv => whnf)
      | (apply CallRd.mk1 (c_At _ _); (· rfl); conv => whnf)
      | (apply CallRd.mk1 (c_GreySame _ _); (· rfl); conv => whnf)
      | (apply CallRd.mk1 (c_GreyLess _ _); (· rfl); conv => whnf)
      | (apply CallRd.mk1 (hxo); (· rfl); conv => whnf))
    | (refine EndOk.mk (by kernel_rfl) ?_; conv => whnf)
    | (refine And.intro (by (first | decide | exact trivial | omega | exact Nat.le_refl _ | (((try simp only [decide_eq_true_eq, decide_eq_false_iff_not, cond_true, cond_false, beq_iff_eq, beq_eq_false_iff_ne, bne_iff_ne, bne_eq_false_iff_eq, ne_eq, Bool.not_eq_true', Bool.not_eq_false', Bool.not_eq_eq_eq_not, Bool.not_true, Bool.not_false, sLe_eq, Bool.and_eq_true, Bool.and_eq_false_iff, List.length_map, List.length_set, List.length_append, List.length_take, List.length_drop, List.length_replicate, List.length_cons, List.length_nil, lenMax, capMax, Int.toNat_natCast, gt_iff_lt, ge_iff_le] at *); (try simp (disch := omega) only [wr, wru, shr1, Int.tdiv_eq_ediv_of_nonneg] at *)); omega) | (((try simp only [decide_eq_true_eq, decide_eq_false_iff_not, cond_true, cond_false, beq_iff_eq, beq_eq_false_iff_ne, bne_iff_ne, bne_eq_false_iff_eq, ne_eq, Bool.not_eq_true', Bool.not_eq_false', Bool.not_eq_eq_eq_not, Bool.not_true, Bool.not_false, sLe_eq, Bool.and_eq_true, Bool.and_eq_false_iff, List.length_map, List.length_set, List.length_append, List.length_take, List.length_drop, List.length_replicate, List.length_cons, List.length_nil, lenMax, capMax, Int.toNat_natCast, gt_iff_lt, ge_iff_le] at *); (try simp (disch := omega) only [wr, wru, shr1, Int.tdiv_eq_ediv_of_nonneg] at *)); assumption))) ?_; conv => whnf)
    | (refine idxOld (by assumption) ?_; conv => whnf)
    | (refine idxMap (by (first | decide | exact trivial | omega | exact Nat.le_refl _ | (((try simp only [decide_eq_true_eq, decide_eq_false_iff_not, cond_true, cond_false, beq_iff_eq, beq_eq_false_iff_ne, bne_iff_ne, bne_eq_false_iff_eq, ne_eq, Bool.not_eq_true', Bool.not_eq_false', Bool.not_eq_eq_eq_not, Bool.not_true, Bool.not_false, sLe_eq, Bool.and_eq_true, Bool.and_eq_false_iff, List.length_map, List.length_set, List.length_append, List.length_take, List.length_drop, List.length_replicate, List.length_cons, List.length_nil, lenMax, capMax, Int.toNat_natCast, gt_iff_lt, ge_iff_le] at *); (try simp (disch := omega) only [wr, wru, shr1, Int.tdiv_eq_ediv_of_nonneg] at *)); omega) | (((try simp only [decide_eq_true_eq, decide_eq_false_iff_not, cond_true, cond_false, beq_iff_eq, beq_eq_false_iff_ne, bne_iff_ne, bne_eq_false_iff_eq, ne_eq, Bool.not_eq_true', Bool.not_eq_false', Bool.not_eq_eq_eq_not, Bool.not_true, Bool.not_false, sLe_eq, Bool.and_eq_true, Bool.and_eq_false_iff, List.length_map, List.length_set, List.length_append, List.length_take, List.length_drop, List.length_replicate, List.length_cons, List.length_nil, lenMax, capMax, Int.toNat_natCast, gt_iff_lt, ge_iff_le] at *); (try simp (disch := omega) only [wr, wru, shr1, Int.tdiv_eq_ediv_of_nonneg] at *)); assumption))) (fun _ _ => ?_); conv => whnf)
    | refine Exists.intro _ (And.intro (DV_toV rfl) ?_)
    | (refine rowSet (by (first | decide | exact trivial | omega | exact Nat.le_refl _ | (((try simp only [decide_eq_true_eq, decide_eq_false_iff_not, cond_true, cond_false, beq_iff_eq, beq_eq_false_iff_ne, bne_iff_ne, bne_eq_false_iff_eq, ne_eq, Bool.not_eq_true', Bool.not_eq_false', Bool.not_eq_eq_eq_not, Bool.not_true, Bool.not_false, sLe_eq, Bool.and_eq_true, Bool.and_eq_false_iff, List.length_map, List.length_set, List.length_append, List.length_take, List.length_drop, List.length_replicate, List.length_cons, List.length_nil, lenMax, capMax, Int.toNat_natCast, gt_iff_lt, ge_iff_le] at *); (try simp (disch := omega) only [wr, wru, shr1, Int.tdiv_eq_ediv_of_nonneg] at *)); omega) | (((try simp only [decide_eq_true_eq, decide_eq_false_iff_not, cond_true, cond_false, beq_iff_eq, beq_eq_false_iff_ne, bne_iff_ne, bne_eq_false_iff_eq, ne_eq, Bool.not_eq_true', Bool.not_eq_false', Bool.not_eq_eq_eq_not, Bool.not_true, Bool.not_false, sLe_eq, Bool.and_eq_true, Bool.and_eq_false_iff, List.length_map, List.length_set, List.length_append, List.length_take, List.length_drop, List.length_replicate, List.length_cons, List.length_nil, lenMax, capMax, Int.toNat_natCast, gt_iff_lt, ge_iff_le] at *); (try simp (disch := omega) only [wr, wru, shr1, Int.tdiv_eq_ediv_of_nonneg] at *)); assumption))) ?_; conv => whnf)
    | (refine rowOld (by assumption) ?_; conv => whnf)
    | (refine rowNew (by (first | decide | exact trivial | omega | exact Nat.le_refl _ | (((try simp only [decide_eq_true_eq, decide_eq_false_iff_not, cond_true, cond_false, beq_iff_eq, beq_eq_false_iff_ne, bne_iff_ne, bne_eq_false_iff_eq, ne_eq, Bool.not_eq_true', Bool.not_eq_false', Bool.not_eq_eq_eq_not, Bool.not_true, Bool.not_false, sLe_eq, Bool.and_eq_true, Bool.and_eq_false_iff, List.length_map, List.length_set, List.length_append, List.length_take, List.length_drop, List.length_replicate, List.length_cons, List.length_nil, lenMax, capMax, Int.toNat_natCast, gt_iff_lt, ge_iff_le] at *); (try simp (disch := omega) only [wr, wru, shr1, Int.tdiv_eq_ediv_of_nonneg] at *)); omega) | (((try simp only [decide_eq_true_eq, decide_eq_false_iff_not, cond_true, cond_false, beq_iff_eq, beq_eq_false_iff_ne, bne_iff_ne, bne_eq_false_iff_eq, ne_eq, Bool.not_eq_true', Bool.not_eq_false', Bool.not_eq_eq_eq_not, Bool.not_true, Bool.not_false, sLe_eq, Bool.and_eq_true, Bool.and_eq_false_iff, List.length_map, List.length_set, List.length_append, List.length_take, List.length_drop, List.length_replicate, List.length_cons, List.length_nil, lenMax, capMax, Int.toNat_natCast, gt_iff_lt, ge_iff_le] at *); (try simp (disch := omega) only [wr, wru, shr1, Int.tdiv_eq_ediv_of_nonneg] at *)); assumption))) (fun _ _ => ?_); conv => whnf)
    | (apply WpD.id; first
      | (refine WpD.nil 18 6 _ rfl rfl rfl rfl ?_; refine WpD.loop (uS z l (ent h f t now) now) (uP l (ent h f t now) now) (fun k => l.length - k.1) ?_ (fun ⟨k, dn, out⟩ hk => ?_); rotate_left; dsimp only [uP] at hk; obtain ⟨hk1, hk2, hk3, hk4, hk5⟩ := hk; dsimp only [uS])
      | (refine WpD.loop (fun q : Nat × Int => tS z l (ent h f t now) now q.2 q.1) (fun q => q.1 ≤ l.length ∧ (p < q.1 → q.2 = (p : Int)) ∧ (¬ p < q.1 → q.2 = -1)) (fun q => l.length - q.1) ?_ (fun ⟨k', t'⟩ hq => ?_); rotate_left; dsimp only at hq; obtain ⟨hq1, hq2, hq3⟩ := hq; have htp : decide ((k' : Int) < ((l.map Ge.row).length : Int)) = false → t' = (p : Int) := fun hd => hq2 (by simp at hd; omega); dsimp only [tS])
      | (refine WpD.walk rfl ?_; conv => whnf))
  all_goals clear h1 h2 h3 hold hxo
  all_goals try clear htp
  all_goals ((try simp only [decide_eq_true_eq, decide_eq_false_iff_not, cond_true, cond_false, beq_iff_eq, beq_eq_false_iff_ne, bne_iff_ne, bne_eq_false_iff_eq, ne_eq, Bool.not_eq_true', Bool.not_eq_false', Bool.not_eq_eq_eq_not, Bool.not_true, Bool.not_false, sLe_eq, Bool.and_eq_true, Bool.and_eq_false_iff, List.length_map, List.length_set, List.length_append, List.length_take, List.length_drop, List.length_replicate, List.length_cons, List.length_nil, lenMax, capMax, Int.toNat_natCast, gt_iff_lt, ge_iff_le] at *); (try simp (disch := omega) only [wr, wru, shr1, Int.tdiv_eq_ediv_of_nonneg] at *))
  all_goals try rename l[k]? = some _ => hx1
  all_goals first
    | (refine ⟨(0, -1), [0, 2], ⟨Nat.zero_le _, fun h => absurd h (Nat.not_lt_zero _), fun _ => rfl⟩, ⟨by decide, rfl, ?_, ?_, rfl⟩⟩
       · (repeat' first | exact trivial | rfl | apply And.intro | (refine leInt rfl ?_; first | omega | (dsimp only; omega)) | (refine leArr rfl ?_ rfl; (simp; try omega)) | (refine leBool rfl ?_; assumption))
         done
       · (repeat' first | exact trivial | (refine obLe_v ?_; try dsimp only) | rfl | apply And.intro)
         done)
    | (have hkk := (hkey _ _ ‹l[k']? = some _›).1 ‹_ = _›
       refine ⟨(k' + 1, (k' : Int)), [0, 1], ⟨by dsimp only; omega, fun _ => by dsimp only; omega, fun hn => by dsimp only at hn; omega⟩, ⟨by decide, rfl, ?_, ?_, rfl⟩, by dsimp only; omega⟩
       · (repeat' first | exact trivial | rfl | apply And.intro | (refine leInt rfl ?_; first | omega | (dsimp only; omega)) | (refine leArr rfl ?_ rfl; (simp; try omega)) | (refine leBool rfl ?_; assumption))
         done
       · (repeat' first | exact trivial | (refine obLe_v ?_; try dsimp only) | rfl | apply And.intro)
         done)
    | (have hkk : ¬ k' = p := fun e => absurd ((hkey _ _ ‹l[k']? = some _›).2 e) ‹¬ (_ = _)›
       refine ⟨(k' + 1, t'), [0, 1], ⟨by dsimp only; omega, fun h => hq2 (by dsimp only at h; omega), fun h => hq3 (by dsimp only at h; omega)⟩, ⟨by decide, rfl, ?_, ?_, rfl⟩, by dsimp only; omega⟩
       · (repeat' first | exact trivial | rfl | apply And.intro | (refine leInt rfl ?_; first | omega | (dsimp only; omega)) | (refine leArr rfl ?_ rfl; (simp; try omega)) | (refine leBool rfl ?_; assumption))
         done
       · (repeat' first | exact trivial | (refine obLe_v ?_; try dsimp only) | rfl | apply And.intro)
         done)
    | (refine ⟨(0, false, []), [0, 1, 2], ⟨by simp, by simp, by simp, by simp [live'], rfl⟩, ⟨by decide, rfl, ?_, ?_, rfl⟩⟩
       · (repeat' first | exact trivial | rfl | apply And.intro | (refine leInt rfl ?_; first | omega | (dsimp only; omega)) | (refine leArr rfl ?_ rfl; (simp; try omega)) | (refine leBool rfl ?_; assumption))
         done
       · (repeat' first | exact trivial | (refine obLe_v ?_; try dsimp only) | rfl | apply And.intro)
         all_goals simp
         done)
    | skip
  · have hlv := live_succ_t hx1 ‹_›
    refine ⟨(k + 1, dn, out), [0, 1, 2], ⟨by dsimp only; omega, by dsimp only; omega, fun h => by have := hk3 h; dsimp only; omega, by dsimp only; rw [hlv]; omega, ?_⟩, ⟨⟨by decide, rfl, ?_, ?_, rfl⟩, by dsimp only; omega⟩⟩
    · rw [hk5, drop_get' hx1, bF]; simp [*]; done
    · (repeat' first | exact trivial | rfl | apply And.intro | (refine leInt rfl ?_; dsimp only; (first | omega | rw [hlv])) | (refine leArr rfl ?_ rfl; (simp; try omega)) | (refine leBool rfl ?_; assumption))
    · (repeat' first | exact trivial | (refine obLe_v ?_; try dsimp only) | rfl | apply And.intro)
  · rename Ge => v
    have hlv := live_succ_f hx1 ‹_›
    have hk3' := hk3 ‹_›
    refine ⟨(k + 1, true, out ++ [ent h f t now] ++ [v]), [0, 1, 6], ⟨by dsimp only; omega, by simp; omega, (fun h => by cases h), by dsimp only; rw [hlv]; omega, ?_⟩, ⟨⟨by decide, rfl, ?_, ?_, rfl⟩, by dsimp only; omega⟩⟩
    · rw [hk5, drop_get' hx1, bF]; simp [*]; done
    · (repeat' first | exact trivial | rfl | apply And.intro | (refine leInt rfl ?_; dsimp only; (first | omega | (rw [hlv]; omega))) | (refine leArr rfl ?_ rfl; (simp; try omega)) | (refine leBool rfl ?_; assumption))
    · (repeat' first | exact trivial | (refine obLe_v ?_; try dsimp only) | rfl | apply And.intro)
      all_goals simp [Ge.row, List.take_of_length_le]
  · rename Ge => v
    have hlv := live_succ_f hx1 ‹_›
    have hk3' := hk3 ‹_›
    refine ⟨(k + 1, dn, out ++ [v]), [0, 1, 4], ⟨by dsimp only; omega, by simp; omega, (fun h => by simp; omega), by dsimp only; rw [hlv]; omega, ?_⟩, ⟨⟨by decide, rfl, ?_, ?_, rfl⟩, by dsimp only; omega⟩⟩
    · rw [hk5, drop_get' hx1, bF]; simp [*]; done
    · (repeat' first | exact trivial | rfl | apply And.intro | (refine leInt rfl ?_; dsimp only; (first | omega | (rw [hlv]; omega))) | (refine leArr rfl ?_ rfl; (simp; try omega)) | (refine leBool rfl ?_; assumption))
    · (repeat' first | exact trivial | (refine obLe_v ?_; try dsimp only) | rfl | apply And.intro)
      all_goals simp [Ge.row, List.take_of_length_le]
  · rename Ge => v
    have hlv := live_succ_f hx1 ‹_›
    refine ⟨(k + 1, dn, out ++ [v]), [0, 1, 4], ⟨by dsimp only; omega, by simp; omega, (fun h => by simp [*] at h), by dsimp only; rw [hlv]; omega, ?_⟩, ⟨⟨by decide, rfl, ?_, ?_, rfl⟩, by dsimp only; omega⟩⟩
    · rw [hk5, drop_get' hx1, bF]; simp [*]; done
    · (repeat' first | exact trivial | rfl | apply And.intro | (refine leInt rfl ?_; dsimp only; (first | omega | (rw [hlv]; omega))) | (refine leArr rfl ?_ rfl; (simp; try omega)) | (refine leBool rfl ?_; assumption))
    · (repeat' first | exact trivial | (refine obLe_v ?_; try dsimp only) | rfl | apply And.intro)
      all_goals simp [Ge.row, List.take_of_length_le]
  all_goals
    have hn : gG (ent h f t now).key (live' now l) = none := by
      unfold gG live'
      rw [getL_filter ord3 _ hs, hg]; simp [he]
    have hkl : k = l.length := by omega
    subst hkl
    rw [List.take_length] at hk4
    rw [List.drop_length, bF_put hs hn] at hk5
    simp only [List.take_length] at *
    have hll := live_len now l
  all_goals first
    | (have e : freshF l (ent h f t now) now = (([], false), (2, -1)) := by unfold freshF; rw [if_pos (by omega)]
       rw [e]; rfl)
    | (have e : freshF l (ent h f t now) now = ((puG (ent h f t now) (live' now l), false), (0, 0)) := by unfold freshF; rw [if_neg (by omega)]
       rw [e]
       refine ⟨_, ?_, rfl⟩
       refine ⟨⟨rfl, _, rfl, ?_, ?_⟩, rfl, ⟨rfl, rfl, trivial⟩, trivial⟩
       · dsimp only; rw [hk5]; simp [*, bF, Ge.row, List.take_of_length_le]; done
       · dsimp only; rw [hk5]; simp [*, bF]; done)
    | skip
  all_goals trace_state
end Go.DL
