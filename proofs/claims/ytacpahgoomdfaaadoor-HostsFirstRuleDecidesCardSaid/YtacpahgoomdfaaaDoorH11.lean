/- Hosts: the reference's rule out of its text. No condition. -/
import Derived.Test.YtacpahgoomdfaaaDoorH10b
set_option linter.unusedVariables false
set_option linter.unusedSimpArgs false
set_option maxHeartbeats 4000000
namespace Go.DL
open Go.Proofs

def pRK (r k : Int) : Pl := ⟨e0, false, [⟨r, k, e0⟩]⟩
theorem pRK_txt (r k : Int) : (pText (pRK r k)).size = (hd r k).size + 1 ∧ (pText (pRK r k)).extract 1 (pText (pRK r k)).size = hd r k := by
  have e : tl (pText (pRK r k)) = 32 :: tl (hd r k) := by
    show tl (e0 ++ (((sp ++ sgn r) ++ wrd k) ++ e0)) = _
    simp only [tl_app, hd]
    rw [show tl e0 = [] from rfl, show tl sp = [32] from rfl]
    simp
  have hl := congrArg List.length e
  rw [tl_len, List.length_cons, tl_len] at hl
  refine ⟨hl, ?_⟩
  apply tl_inj
  rw [tl_all _ (Nat.le_refl _), e]; rfl
theorem c_PT (r k : Int) (hr : 1 ≤ r ∧ r ≤ 4) (hk : 1 ≤ k ∧ k ≤ 4) : CallV tab 22 [.agg (pRK r k).row] (· = .str (pText (pRK r k))) :=
  c_PolicyText _ (fun x hx => by
    have : x = ⟨r, k, e0⟩ := by simpa [pRK] using hx
    subst this
    exact ⟨hr, hk, by show 0 ≤ 60; omega⟩) (by show 1 ≤ 60; omega) (by show 0 ≤ 60; omega)
abbrev cutH (T : ByteArray) : ByteArray := T.extract (Int.toNat 1) ((T.size : Nat) : Int).toNat
structure Hx (s T H : ByteArray) : Prop where
  a : (1 : Int) ≤ ((T.size : Nat) : Int)
  e : cutH T = H
attribute [local irreducible] ByteArray.extract in
theorem c_RuleOf (s : ByteArray) (hs : s.size ≤ 1000000) : CallV tab 28 [.str s] (· = .tup [.agg (ruleF s).1.row, .bool (ruleF s).2]) := by
  refine callV_of Tryd.func28 rfl (Nat.le_of_ble_eq_true rfl) (by kernel_rfl) ?_
  repeat' first
    | (apply Br.id; first
      | (apply Br.tt; try conv => whnf)
      | (apply Br.ff; try conv => whnf)
      | (refine Br.of_t (by assumption) ?_; conv => whnf)
      | (refine Br.of_f (by assumption) ?_; conv => whnf)
      | (refine Br.mk (fun _ => ?_) (fun _ => ?_) <;> try conv => whnf))
    | (apply CallOp.id; first
      | (refine call_rdV hPT rfl rfl rfl rfl ⟨⟨rfl, DV_arr rfl rfl, trivial⟩, trivial⟩ rfl ?_; conv => whnf)
      | (refine call_at rfl rfl rfl rfl rfl ?_)
      | (refine call_rd rfl rfl rfl rfl rfl ?_)
      | (refine CallOp.std ?_; (conv => whnf); fail_if_success refine (?_ : False)))
    | (apply CallDet.id; first
      | (refine call_rdV hPT rfl rfl rfl rfl ⟨⟨rfl, DV_arr rfl rfl, trivial⟩, trivial⟩ rfl ?_; conv => whnf)
      | (refine call_atD rfl rfl rfl rfl rfl ?_)
      | (refine call_rdD rfl rfl rfl rfl rfl ?_)
      | (refine CallDet.std ?_; (conv => whnf); fail_if_success refine (?_ : False)))
    | (apply CallAt.id; first
      | (apply CallAt.mk1 hRF; conv => whnf))
    | (refine EndOk.mk (by kernel_rfl) ?_; conv => whnf)
    | (refine And.intro (by with_reducible exact hX.a) ?_; conv => whnf)
    | (refine And.intro (by (first | decide | exact trivial | omega | with_reducible exact Nat.le_refl _ | (((try simp only [decide_eq_true_eq, decide_eq_false_iff_not, cond_true, cond_false, beq_iff_eq, beq_eq_false_iff_ne, bne_iff_ne, bne_eq_false_iff_eq, ne_eq, Bool.not_eq_true', Bool.not_eq_false', Bool.not_eq_eq_eq_not, Bool.not_true, Bool.not_false, sLe_eq, Bool.and_eq_true, Bool.and_eq_false_iff, List.length_map, List.length_set, List.length_append, List.length_take, List.length_drop, List.length_replicate, List.length_cons, List.length_nil, lenMax, capMax, Int.toNat_natCast, gt_iff_lt, ge_iff_le] at *); (try simp (disch := omega) only [wr, wru, shr1, Int.tdiv_eq_ediv_of_nonneg] at *)); omega) | (((try simp only [decide_eq_true_eq, decide_eq_false_iff_not, cond_true, cond_false, beq_iff_eq, beq_eq_false_iff_ne, bne_iff_ne, bne_eq_false_iff_eq, ne_eq, Bool.not_eq_true', Bool.not_eq_false', Bool.not_eq_eq_eq_not, Bool.not_true, Bool.not_false, sLe_eq, Bool.and_eq_true, Bool.and_eq_false_iff, List.length_map, List.length_set, List.length_append, List.length_take, List.length_drop, List.length_replicate, List.length_cons, List.length_nil, lenMax, capMax, Int.toNat_natCast, gt_iff_lt, ge_iff_le] at *); (try simp (disch := omega) only [wr, wru, shr1, Int.tdiv_eq_ediv_of_nonneg] at *)); with_reducible assumption))) ?_; conv => whnf)
    | (refine idxOld (by assumption) ?_; conv => whnf)
    | (refine idxMap (by (first | decide | exact trivial | omega | with_reducible exact Nat.le_refl _ | (((try simp only [decide_eq_true_eq, decide_eq_false_iff_not, cond_true, cond_false, beq_iff_eq, beq_eq_false_iff_ne, bne_iff_ne, bne_eq_false_iff_eq, ne_eq, Bool.not_eq_true', Bool.not_eq_false', Bool.not_eq_eq_eq_not, Bool.not_true, Bool.not_false, sLe_eq, Bool.and_eq_true, Bool.and_eq_false_iff, List.length_map, List.length_set, List.length_append, List.length_take, List.length_drop, List.length_replicate, List.length_cons, List.length_nil, lenMax, capMax, Int.toNat_natCast, gt_iff_lt, ge_iff_le] at *); (try simp (disch := omega) only [wr, wru, shr1, Int.tdiv_eq_ediv_of_nonneg] at *)); omega) | (((try simp only [decide_eq_true_eq, decide_eq_false_iff_not, cond_true, cond_false, beq_iff_eq, beq_eq_false_iff_ne, bne_iff_ne, bne_eq_false_iff_eq, ne_eq, Bool.not_eq_true', Bool.not_eq_false', Bool.not_eq_eq_eq_not, Bool.not_true, Bool.not_false, sLe_eq, Bool.and_eq_true, Bool.and_eq_false_iff, List.length_map, List.length_set, List.length_append, List.length_take, List.length_drop, List.length_replicate, List.length_cons, List.length_nil, lenMax, capMax, Int.toNat_natCast, gt_iff_lt, ge_iff_le] at *); (try simp (disch := omega) only [wr, wru, shr1, Int.tdiv_eq_ediv_of_nonneg] at *)); with_reducible assumption))) (fun _ _ => ?_); conv => whnf)
    | refine Exists.intro _ (And.intro (DV_toV rfl) ?_)
    | (refine rowSet (by (first | decide | exact trivial | omega | with_reducible exact Nat.le_refl _ | (((try simp only [decide_eq_true_eq, decide_eq_false_iff_not, cond_true, cond_false, beq_iff_eq, beq_eq_false_iff_ne, bne_iff_ne, bne_eq_false_iff_eq, ne_eq, Bool.not_eq_true', Bool.not_eq_false', Bool.not_eq_eq_eq_not, Bool.not_true, Bool.not_false, sLe_eq, Bool.and_eq_true, Bool.and_eq_false_iff, List.length_map, List.length_set, List.length_append, List.length_take, List.length_drop, List.length_replicate, List.length_cons, List.length_nil, lenMax, capMax, Int.toNat_natCast, gt_iff_lt, ge_iff_le] at *); (try simp (disch := omega) only [wr, wru, shr1, Int.tdiv_eq_ediv_of_nonneg] at *)); omega) | (((try simp only [decide_eq_true_eq, decide_eq_false_iff_not, cond_true, cond_false, beq_iff_eq, beq_eq_false_iff_ne, bne_iff_ne, bne_eq_false_iff_eq, ne_eq, Bool.not_eq_true', Bool.not_eq_false', Bool.not_eq_eq_eq_not, Bool.not_true, Bool.not_false, sLe_eq, Bool.and_eq_true, Bool.and_eq_false_iff, List.length_map, List.length_set, List.length_append, List.length_take, List.length_drop, List.length_replicate, List.length_cons, List.length_nil, lenMax, capMax, Int.toNat_natCast, gt_iff_lt, ge_iff_le] at *); (try simp (disch := omega) only [wr, wru, shr1, Int.tdiv_eq_ediv_of_nonneg] at *)); with_reducible assumption))) ?_; conv => whnf)
    | (refine rowOld (by assumption) ?_; conv => whnf)
    | (refine rowNew (by (first | decide | exact trivial | omega | with_reducible exact Nat.le_refl _ | (((try simp only [decide_eq_true_eq, decide_eq_false_iff_not, cond_true, cond_false, beq_iff_eq, beq_eq_false_iff_ne, bne_iff_ne, bne_eq_false_iff_eq, ne_eq, Bool.not_eq_true', Bool.not_eq_false', Bool.not_eq_eq_eq_not, Bool.not_true, Bool.not_false, sLe_eq, Bool.and_eq_true, Bool.and_eq_false_iff, List.length_map, List.length_set, List.length_append, List.length_take, List.length_drop, List.length_replicate, List.length_cons, List.length_nil, lenMax, capMax, Int.toNat_natCast, gt_iff_lt, ge_iff_le] at *); (try simp (disch := omega) only [wr, wru, shr1, Int.tdiv_eq_ediv_of_nonneg] at *)); omega) | (((try simp only [decide_eq_true_eq, decide_eq_false_iff_not, cond_true, cond_false, beq_iff_eq, beq_eq_false_iff_ne, bne_iff_ne, bne_eq_false_iff_eq, ne_eq, Bool.not_eq_true', Bool.not_eq_false', Bool.not_eq_eq_eq_not, Bool.not_true, Bool.not_false, sLe_eq, Bool.and_eq_true, Bool.and_eq_false_iff, List.length_map, List.length_set, List.length_append, List.length_take, List.length_drop, List.length_replicate, List.length_cons, List.length_nil, lenMax, capMax, Int.toNat_natCast, gt_iff_lt, ge_iff_le] at *); (try simp (disch := omega) only [wr, wru, shr1, Int.tdiv_eq_ediv_of_nonneg] at *)); with_reducible assumption))) (fun _ _ => ?_); conv => whnf)
    | (apply WpD.id; first
      | (refine WpD.loopAt 12 rfl (fun k : Nat => ⟨[(0, .v (.str s)), (2, .ptr 0 0 0), (4, .v (.int .i64 r)), (5, .v (.int .i64 k))], [.arr 3 (vrows [[.int .i64 0, .int .i64 0, .str e0]])], []⟩) (fun k => 1 ≤ k ∧ k ≤ 5 ∧ ∀ j : Nat, 1 ≤ j → j < k → preB (hd r j) s = false) (fun k => 5 - k) ?_ (fun k hk => ?_); rotate_left; obtain ⟨hk1, hk2, hk3⟩ := hk; rcases (show k = 5 ∨ k ≤ 4 by omega) with rfl | hk4; skip; rotate_left; (have dk : decide ((k : Int) ≤ 4) = true := by { simp; omega }); (have hPT := c_PT r k (by omega) (by omega)); (have hX : Hx s (pText (pRK r k)) (hd r k) := ⟨by { have := (pRK_txt r k).1; omega }, (pRK_txt r k).2⟩); (generalize hT : pText (pRK r k) = T at *); (have hRF := c_RuleFault ⟨r, k, s.extract (cutH T).size s.size⟩ (by { show (s.extract (cutH T).size s.size).size ≤ _; simp [ByteArray.size_extract]; omega })); rotate_left)
      | (refine WpD.loopAt 8 rfl (fun r : Nat => ⟨[(0, .v (.str s)), (2, .ptr 0 0 0), (4, .v (.int .i64 r))], [.arr 3 (vrows [[.int .i64 0, .int .i64 0, .str e0]])], []⟩) (fun r => 1 ≤ r ∧ r ≤ 5 ∧ ∀ i j : Nat, 1 ≤ i → i < r → 1 ≤ j → j ≤ 4 → preB (hd i j) s = false) (fun r => 5 - r) ?_ (fun r hr => ?_); rotate_left; obtain ⟨hr1, hr2, hr3⟩ := hr; rcases (show r = 5 ∨ r ≤ 4 by omega) with rfl | hr4; skip; rotate_left; (have dr : decide ((r : Int) ≤ 4) = true := by { simp; omega }); rotate_left)
      | (refine WpD.walk rfl ?_; conv => whnf))
  all_goals try clear hPT hRF
  all_goals ((try simp only [decide_eq_true_eq, decide_eq_false_iff_not, cond_true, cond_false, beq_iff_eq, beq_eq_false_iff_ne, bne_iff_ne, bne_eq_false_iff_eq, ne_eq, Bool.not_eq_true', Bool.not_eq_false', Bool.not_eq_eq_eq_not, Bool.not_true, Bool.not_false, sLe_eq, Bool.and_eq_true, Bool.and_eq_false_iff, List.length_map, List.length_set, List.length_append, List.length_take, List.length_drop, List.length_replicate, List.length_cons, List.length_nil, lenMax, capMax, Int.toNat_natCast, gt_iff_lt, ge_iff_le] at *); (try simp (disch := omega) only [wr, wru, shr1, Int.tdiv_eq_ediv_of_nonneg] at *))
  all_goals try have hW : T.extract (Int.toNat 1) T.size = hd r k := hX.e
  all_goals try have hW2 : cutH T = hd r k := hX.e
  all_goals try simp only [hW, hW2] at *
  all_goals first
    | (refine ⟨1, [0], ⟨by decide, by decide, fun i j h1 h2 => by omega⟩, ⟨by decide, rfl, ?_, ?_, rfl⟩⟩
       · (repeat' first | exact trivial | rfl | apply And.intro | (refine leInt rfl ?_; first | omega | (dsimp only; omega)) | (refine leArr rfl ?_ rfl; (simp; try omega)) | (refine leBool rfl ?_; assumption))
         done
       · exact ⟨obLe_v rfl, trivial⟩)
    | (refine ⟨1, [0], ⟨by decide, by decide, fun j h1 h2 => by omega⟩, ⟨by decide, rfl, ?_, ?_, rfl⟩⟩
       · (repeat' first | exact trivial | rfl | apply And.intro | (refine leInt rfl ?_; first | omega | (dsimp only; omega)) | (refine leArr rfl ?_ rfl; (simp; try omega)) | (refine leBool rfl ?_; assumption))
         done
       · exact ⟨obLe_v rfl, trivial⟩)
    | (have e : ruleF s = (rl0, false) := ruleF_no fun r k a b c d => by
         have := hr3 r.toNat k.toNat (by omega) (by omega) (by omega) (by omega)
         rwa [Int.toNat_of_nonneg (by omega), Int.toNat_of_nonneg (by omega)] at this
       rw [e]; rfl)
    | (refine ⟨r + 1, [0], ⟨by omega, by omega, fun i j h1 h2 h3 h4 => ?_⟩, ⟨⟨by decide, rfl, ?_, ?_, rfl⟩, by omega⟩⟩
       · rcases Nat.lt_or_ge i r with h | h
         · exact hr3 i j h1 h h3 h4
         · have : i = r := by omega
           subst this
           exact hk3 j h3 (by omega)
       · (repeat' first | exact trivial | rfl | apply And.intro | (refine leInt rfl ?_; first | omega | (dsimp only; omega)) | (refine leArr rfl ?_ rfl; (simp; try omega)) | (refine leBool rfl ?_; assumption))
         done
       · exact ⟨obLe_v rfl, trivial⟩)
    | (have hb : preB (hd r k) s = false := by
         unfold preB
         first
         | (rename (s.size : Int) < _ => q
            simp; intro h; exfalso; omega)
         | (rename ¬ s.extract 0 _ = _ => q
            simp; intro _ h; exact q h)
       refine ⟨k + 1, [0], ⟨by omega, by omega, fun j h1 h2 => ?_⟩, ⟨⟨by decide, rfl, ?_, ?_, rfl⟩, by omega⟩⟩
       · rcases Nat.lt_or_ge j k with h | h
         · exact hk3 j h1 h
         · have : j = k := by omega
           subst this
           exact hb
       · (repeat' first | exact trivial | rfl | apply And.intro | (refine leInt rfl ?_; first | omega | (dsimp only; omega)) | (refine leArr rfl ?_ rfl; (simp; try omega)) | (refine leBool rfl ?_; assumption))
         done
       · exact ⟨obLe_v rfl, trivial⟩)
    | (have hb : preB (hd r k) s = true := by
         unfold preB
         rename s.extract 0 _ = _ => q
         simp [q]; omega
       have e := ruleF_at (s := s) (r := r) (k := k) (by omega) (by omega) hb (fun j a b => by
         have := hk3 j.toNat (by omega) (by omega)
         rwa [Int.toNat_of_nonneg (by omega)] at this)
       rw [e]; with_reducible rfl)
    | (have hb : preB (hd r k) s = true := by
         unfold preB
         rename s.extract 0 _ = _ => q
         simp [q]; omega
       have e := ruleF_at (s := s) (r := r) (k := k) (by omega) (by omega) hb (fun j a b => by
         have := hk3 j.toNat (by omega) (by omega)
         rwa [Int.toNat_of_nonneg (by omega)] at this)
       rw [e]
       dsimp only [Rl.row])
    | skip
  all_goals trace_state
end Go.DL
