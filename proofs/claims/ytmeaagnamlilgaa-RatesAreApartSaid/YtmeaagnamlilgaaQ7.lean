/- Rates: what Allow and Allowed answer, told by what stands under a key; the law RatesMatchesSpec. No condition. -/
import Derived.Test.YtmeaagnamlilgaaQ6
set_option linter.unusedVariables false
set_option linter.unusedSimpArgs false
set_option maxHeartbeats 4000000
namespace Go.DL
open Go.Proofs

abbrev gR (k : ByteArray) (l : List Rk) : Option Rk := getL Rk.k k l
abbrev puR (y : Rk) (l : List Rk) : List Rk := putL sLt Rk.k y l
theorem unz_k (x : Rk) : (unz x).k = x.k := rfl
theorem pR_unz (k : ByteArray) (l : List Rk) : pR k (l.map unz) = pR k l := by
  unfold pR posL
  rw [List.findIdx_map]; rfl
theorem sr_unz {l : List Rk} (h : SR l) : SR (l.map unz) := by
  unfold SR SortL at h ⊢
  rw [List.pairwise_map]; exact h
theorem gR_unz (k : ByteArray) : ∀ l : List Rk, gR k (l.map unz) = (gR k l).map unz
  | [] => rfl
  | x :: l => by
    have := gR_unz k l
    unfold gR at this ⊢
    show (if (unz x).k = k then some (unz x) else getL Rk.k k (l.map unz)) = Option.map unz (if x.k = k then some x else getL Rk.k k l)
    by_cases h : x.k = k
    · rw [if_pos (show (unz x).k = k from h), if_pos h]; rfl
    · rw [if_neg (show ¬ (unz x).k = k from h), if_neg h]; exact this
def putT (r : Rt) (y : Rk) : Rt := ⟨r.w, r.m, false, puR y (r.l.map unz)⟩
theorem setR_put {r : Rt} {i : Nat} {x : Rk} {k : ByteArray} {u : List Us} (hi : pR k r.l = i) (hx : r.l[i]? = some x) (hk : x.k = k) : setR r i k u = putT r ⟨k, false, u⟩ := by
  unfold setR putT puR
  rw [putL_pos]
  have e : posL sLt Rk.k (Rk.k ⟨k, false, u⟩) (r.l.map unz) = i := by rw [← hi]; exact pR_unz k r.l
  rw [e]
  have hl := lt_get hx
  rw [if_pos (by simp [hx, unz, hk]), List.set_eq_take_append_cons_drop, if_pos (by simpa using hl)]
theorem insR_put {r : Rt} {i : Nat} {y : Rk} (hs : SR r.l) (hi : pR y.k r.l = i) (hh : hR y.k r.l = false) : insR r i y = putT r y := by
  unfold insR putT puR
  rw [putL_pos]
  have e : posL sLt Rk.k y.k (r.l.map unz) = i := by rw [← hi]; exact pR_unz y.k r.l
  rw [e]
  have hn : ¬ (((r.l.map unz)[i]?).map Rk.k = some y.k) := by
    intro h
    unfold hR hasL at hh
    unfold pR at hi
    rw [hi] at hh
    cases hx : r.l[i]? with
    | none => simp [hx] at h
    | some x =>
      rw [hx] at hh
      simp [hx, unz] at h
      simp [h] at hh
  rw [if_neg hn]; rfl
def alR (r : Rt) (key : ByteArray) (n now : Int) : Rt × Bool × (Int × Int) :=
  if alF r key n now ≠ (0, 0) then (rt0, false, alF r key n now) else
  match gR key r.l with
  | none => if r.l.length = 300 then (rt0, false, (2, -1)) else if r.m < n then (putT r ⟨key, true, []⟩, false, (0, 0)) else (putT r ⟨key, false, [⟨now, n⟩]⟩, true, (0, 0))
  | some x => if (x.u.any fun y => decide (now < y.a)) = true then (rt0, false, (19, (pR key r.l : Int))) else
    if r.m < sumU (leftU r now x.u) + n then (putT r ⟨key, false, leftU r now x.u⟩, false, (0, 0)) else
    if (leftU r now x.u).length = 300 then (rt0, false, (2, (pR key r.l : Int))) else (putT r ⟨key, false, leftU r now x.u ++ [⟨now, n⟩]⟩, true, (0, 0))
def alV (q : Rt × Bool × (Int × Int)) : V := .tup [.agg q.1.row, .bool q.2.1, fv q.2.2]
theorem c_Allow (r : Rt) (key : ByteArray) (n now : Int) : CallV tab 19 [.agg r.row, .str key, .int .i64 n, .int .i64 now] (· = alV (alR r key n now)) := by
  by_cases h : alF r key n now = (0, 0)
  · obtain ⟨ho, _⟩ := alF_ok h
    unfold alR
    rw [if_neg (by simp [h])]
    cases hh : hR key r.l with
    | true =>
      obtain ⟨x, hx, hk, hg⟩ := hasL_at sOrd ho.s hh
      have hg' : gR key r.l = some x := hg
      rw [hg']
      dsimp only
      cases ha : (x.u.any fun y => decide (now < y.a)) with
      | true =>
        rw [if_pos rfl]
        exact c_Allow_ord r key n now h hh _ rfl hx ha
      | false =>
        rw [if_neg (by simp)]
        refine (c_Allow_got r key n now h hh _ rfl hx ha).mono fun v hv => ?_
        rw [hv]
        have e : ∀ u, setR r (pR key r.l) x.k u = putT r ⟨key, false, u⟩ := fun u => by rw [hk]; exact setR_put rfl hx hk
        rw [e, e]
        unfold alV
        split
        · rfl
        · split <;> rfl
    | false =>
      have hg : gR key r.l = none := hasL_no sOrd ho.s hh
      rw [hg]
      dsimp only
      by_cases h3 : r.l.length = 300
      · rw [if_pos h3]; exact c_Allow_full r key n now h hh h3
      · rw [if_neg h3]
        refine (c_Allow_new r key n now h hh h3 _ rfl).mono fun v hv => ?_
        rw [hv, insR_put (y := ⟨key, true, []⟩) ho.s rfl hh, insR_put (y := ⟨key, false, [⟨now, n⟩]⟩) ho.s rfl hh]
        unfold alV
        split <;> rfl
  · have e : alR r key n now = (rt0, false, alF r key n now) := by unfold alR; rw [if_pos h]
    rw [e]; exact c_Allow_bad r key n now h
/-- The reference's answer. -/
def putS (r : Rt) (y : Rk) : Rt := ⟨r.w, r.m, false, putR y false r.l⟩
def alS (r : Rt) (key : ByteArray) (n now : Int) : Rt × Bool × (Int × Int) :=
  if alF r key n now ≠ (0, 0) then (rt0, false, alF r key n now) else
  match gR key r.l with
  | none => if r.l.length = 300 then (rt0, false, (2, -1)) else if r.m < n then (putS r ⟨key, false, []⟩, false, (0, 0)) else (putS r ⟨key, false, [⟨now, n⟩]⟩, true, (0, 0))
  | some x => if (x.u.any fun y => decide (now < y.a)) = true then (rt0, false, (19, (pR key r.l : Int))) else
    if r.m < sumU (leftU r now x.u) + n then (putS r ⟨key, false, leftU r now x.u⟩, false, (0, 0)) else
    if (leftU r now x.u).length = 300 then (rt0, false, (2, (pR key r.l : Int))) else (putS r ⟨key, false, leftU r now x.u ++ [⟨now, n⟩]⟩, true, (0, 0))
theorem uses_ne {l : List Rk} (hs : SR l) {i : Nat} {x : Rk} (hx : l[i]? = some x) {j : Nat} {y : Rk} (hj : j ≠ i) (hy : l[j]? = some y) : y.k ≠ x.k := by
  rcases Nat.lt_or_gt_of_ne hj with h | h
  · exact sOrd.ne (sort_get hs h hy hx)
  · exact (sOrd.ne (sort_get hs h hx hy)).symm
theorem get_none {k : ByteArray} : ∀ {l : List Rk}, gR k l = none → ∀ x ∈ l, x.k ≠ k
  | [], _, x, hx => by cases hx
  | y :: l, h, x, hx => by
    unfold gR at h
    simp only [getL] at h
    split at h
    · cases h
    · rename_i hne
      rcases List.mem_cons.1 hx with rfl | hx
      · exact hne
      · exact get_none (l := l) h x hx
theorem c_Allowed_ord (r : Rt) (key : ByteArray) (n now : Int) (h : alF r key n now = (0, 0)) (z : Bool) (u : List Us) (i : Nat) (hU : CallV tab 48 [.agg r.row, .str key] (· = .tup [uss z u, .int .i64 i])) (hul : u.length ≤ 300) (huo : ∀ y ∈ u, uOk r.m y) (ha : (u.any fun y => decide (now < y.a)) = true) : CallV tab 20 [.agg r.row, .str key, .int .i64 n, .int .i64 now] (· = .tup [.agg rt0.row, .bool false, fv (19, i)]) := by
  obtain ⟨ho, ⟨k1, k2⟩, hn, hw⟩ := alF_ok h
  have hol := ho.l
  have hom := ho.m
  have how := ho.w
  have h1 := c_RatesFault r
  rw [ok_ratF ho] at h1
  have h2 := c_In (key.size : Int) 1 4000
  have h3 := c_In n 1 1000000
  have h4 := c_Instant now
  rw [show (decide ((1 : Int) ≤ (key.size : Int)) && decide ((key.size : Int) ≤ 4000)) = true by simp; omega] at h2
  rw [show (decide ((1 : Int) ≤ n) && decide (n ≤ 1000000)) = true by simp; omega] at h3
  rw [show (decide (-68719476736 ≤ now) && decide (now ≤ 68719476736)) = true by simp; omega] at h4
  have hub : ∀ y ∈ u, -68719476736 ≤ y.a ∧ y.a ≤ 68719476736 ∧ 0 ≤ y.n ∧ y.n ≤ 1000000 := fun y hy => by have := huo y hy; unfold uOk at this; omega
  have d7 : decide ((i : Int) < 0) = false := by simp
  refine callV_of Try.func20 rfl (Nat.le_of_ble_eq_true rfl) (by kernel_rfl) ?_
  repeat' first
    | (have hnn : k < u.length := Classical.byContradiction fun hnn => by { rw [List.any_eq_true] at ha; obtain ⟨y, hy, hy'⟩ := ha; obtain ⟨j, hj, rfl⟩ := List.mem_iff_getElem.1 hy; exact hq0 j _ (by omega) (List.getElem?_eq_getElem hj) (by simpa using hy') }; have d8 : decide ((k : Int) < ((u.map Us.row).length : Int)) = true := by { simp; omega }; clear ha)
    | (apply Br.id; first
      | (apply Br.tt; try conv => whnf)
      | (apply Br.ff; try conv => whnf)
      | (refine Br.of_t (by assumption) ?_; conv => whnf)
      | (refine Br.of_f (by assumption) ?_; conv => whnf)
      | (refine Br.mk (fun _ => ?_) (fun _ => ?_) <;> try conv => whnf))
    | (apply CallOp.id; first
      | (refine call_at rfl rfl rfl rfl rfl ?_)
      | (refine call_rd rfl rfl rfl rfl rfl ?_)
      | (refine CallOp.std ?_; (conv => whnf); fail_if_success refine (?_ : False)))
    | (apply CallDet.id; first
      | (refine call_atD rfl rfl rfl rfl rfl ?_)
      | (refine call_rdD rfl rfl rfl rfl rfl ?_)
      | (refine CallDet.std ?_; (conv => whnf); fail_if_success refine (?_ : False)))
    | (apply CallAt.id; first
      | (apply CallAt.mk1 (h1); conv => whnf)
      | (apply CallAt.mk1 (h2); conv => whnf)
      | (apply CallAt.mk1 (h3); conv => whnf)
      | (apply CallAt.mk1 (h4); conv => whnf)
      | (apply CallAt.mk1 (c_At _ _); conv => whnf)
      | (apply CallAt.mk1 (hU); conv => whnf))
    | (apply CallRd.id; first
      | (apply CallRd.mk1 (h1); (· rfl); conv => whnf)
      | (apply CallRd.mk1 (h2); (· rfl); conv => whnf)
      | (apply CallRd.mk1 (h3); (· rfl); conv => whnf)
      | (apply CallRd.mk1 (h4); (· rfl); conv => whnf)
      | (apply CallRd.mk1 (c_At _ _); (· rfl); conv => whnf)
      | (apply CallRd.mk1 (hU); (· rfl); conv => whnf))
    | (refine EndOk.mk (by kernel_rfl) ?_; conv => whnf)
    | (refine And.intro (by (first | decide | exact trivial | omega | exact Nat.le_refl _ | (((try simp only [decide_eq_true_eq, decide_eq_false_iff_not, cond_true, cond_false, beq_iff_eq, beq_eq_false_iff_ne, bne_iff_ne, bne_eq_false_iff_eq, ne_eq, Bool.not_eq_true', Bool.not_eq_false', Bool.not_eq_eq_eq_not, Bool.not_true, Bool.not_false, sLe_eq, Bool.and_eq_true, Bool.and_eq_false_iff, List.length_map, List.length_set, List.length_append, List.length_take, List.length_drop, List.length_replicate, List.length_cons, List.length_nil, lenMax, capMax, Int.toNat_natCast, gt_iff_lt, ge_iff_le] at *); (try simp (disch := omega) only [wr, wru, shr1, Int.tdiv_eq_ediv_of_nonneg] at *)); omega) | (((try simp only [decide_eq_true_eq, decide_eq_false_iff_not, cond_true, cond_false, beq_iff_eq, beq_eq_false_iff_ne, bne_iff_ne, bne_eq_false_iff_eq, ne_eq, Bool.not_eq_true', Bool.not_eq_false', Bool.not_eq_eq_eq_not, Bool.not_true, Bool.not_false, sLe_eq, Bool.and_eq_true, Bool.and_eq_false_iff, List.length_map, List.length_set, List.length_append, List.length_take, List.length_drop, List.length_replicate, List.length_cons, List.length_nil, lenMax, capMax, Int.toNat_natCast, gt_iff_lt, ge_iff_le] at *); (try simp (disch := omega) only [wr, wru, shr1, Int.tdiv_eq_ediv_of_nonneg] at *)); assumption))) ?_; conv => whnf)
    | (refine idxOld (by assumption) ?_; conv => whnf)
    | (refine idxMap (by (first | decide | exact trivial | omega | exact Nat.le_refl _ | (((try simp only [decide_eq_true_eq, decide_eq_false_iff_not, cond_true, cond_false, beq_iff_eq, beq_eq_false_iff_ne, bne_iff_ne, bne_eq_false_iff_eq, ne_eq, Bool.not_eq_true', Bool.not_eq_false', Bool.not_eq_eq_eq_not, Bool.not_true, Bool.not_false, sLe_eq, Bool.and_eq_true, Bool.and_eq_false_iff, List.length_map, List.length_set, List.length_append, List.length_take, List.length_drop, List.length_replicate, List.length_cons, List.length_nil, lenMax, capMax, Int.toNat_natCast, gt_iff_lt, ge_iff_le] at *); (try simp (disch := omega) only [wr, wru, shr1, Int.tdiv_eq_ediv_of_nonneg] at *)); omega) | (((try simp only [decide_eq_true_eq, decide_eq_false_iff_not, cond_true, cond_false, beq_iff_eq, beq_eq_false_iff_ne, bne_iff_ne, bne_eq_false_iff_eq, ne_eq, Bool.not_eq_true', Bool.not_eq_false', Bool.not_eq_eq_eq_not, Bool.not_true, Bool.not_false, sLe_eq, Bool.and_eq_true, Bool.and_eq_false_iff, List.length_map, List.length_set, List.length_append, List.length_take, List.length_drop, List.length_replicate, List.length_cons, List.length_nil, lenMax, capMax, Int.toNat_natCast, gt_iff_lt, ge_iff_le] at *); (try simp (disch := omega) only [wr, wru, shr1, Int.tdiv_eq_ediv_of_nonneg] at *)); assumption))) (fun _ _ => ?_); conv => whnf)
    | refine Exists.intro _ (And.intro (DV_toV rfl) ?_)
    | (refine rowSet (by (first | decide | exact trivial | omega | exact Nat.le_refl _ | (((try simp only [decide_eq_true_eq, decide_eq_false_iff_not, cond_true, cond_false, beq_iff_eq, beq_eq_false_iff_ne, bne_iff_ne, bne_eq_false_iff_eq, ne_eq, Bool.not_eq_true', Bool.not_eq_false', Bool.not_eq_eq_eq_not, Bool.not_true, Bool.not_false, sLe_eq, Bool.and_eq_true, Bool.and_eq_false_iff, List.length_map, List.length_set, List.length_append, List.length_take, List.length_drop, List.length_replicate, List.length_cons, List.length_nil, lenMax, capMax, Int.toNat_natCast, gt_iff_lt, ge_iff_le] at *); (try simp (disch := omega) only [wr, wru, shr1, Int.tdiv_eq_ediv_of_nonneg] at *)); omega) | (((try simp only [decide_eq_true_eq, decide_eq_false_iff_not, cond_true, cond_false, beq_iff_eq, beq_eq_false_iff_ne, bne_iff_ne, bne_eq_false_iff_eq, ne_eq, Bool.not_eq_true', Bool.not_eq_false', Bool.not_eq_eq_eq_not, Bool.not_true, Bool.not_false, sLe_eq, Bool.and_eq_true, Bool.and_eq_false_iff, List.length_map, List.length_set, List.length_append, List.length_take, List.length_drop, List.length_replicate, List.length_cons, List.length_nil, lenMax, capMax, Int.toNat_natCast, gt_iff_lt, ge_iff_le] at *); (try simp (disch := omega) only [wr, wru, shr1, Int.tdiv_eq_ediv_of_nonneg] at *)); assumption))) ?_; conv => whnf)
    | (refine rowOld (by assumption) ?_; conv => whnf)
    | (refine rowNew (by (first | decide | exact trivial | omega | exact Nat.le_refl _ | (((try simp only [decide_eq_true_eq, decide_eq_false_iff_not, cond_true, cond_false, beq_iff_eq, beq_eq_false_iff_ne, bne_iff_ne, bne_eq_false_iff_eq, ne_eq, Bool.not_eq_true', Bool.not_eq_false', Bool.not_eq_eq_eq_not, Bool.not_true, Bool.not_false, sLe_eq, Bool.and_eq_true, Bool.and_eq_false_iff, List.length_map, List.length_set, List.length_append, List.length_take, List.length_drop, List.length_replicate, List.length_cons, List.length_nil, lenMax, capMax, Int.toNat_natCast, gt_iff_lt, ge_iff_le] at *); (try simp (disch := omega) only [wr, wru, shr1, Int.tdiv_eq_ediv_of_nonneg] at *)); omega) | (((try simp only [decide_eq_true_eq, decide_eq_false_iff_not, cond_true, cond_false, beq_iff_eq, beq_eq_false_iff_ne, bne_iff_ne, bne_eq_false_iff_eq, ne_eq, Bool.not_eq_true', Bool.not_eq_false', Bool.not_eq_eq_eq_not, Bool.not_true, Bool.not_false, sLe_eq, Bool.and_eq_true, Bool.and_eq_false_iff, List.length_map, List.length_set, List.length_append, List.length_take, List.length_drop, List.length_replicate, List.length_cons, List.length_nil, lenMax, capMax, Int.toNat_natCast, gt_iff_lt, ge_iff_le] at *); (try simp (disch := omega) only [wr, wru, shr1, Int.tdiv_eq_ediv_of_nonneg] at *)); assumption))) (fun _ _ => ?_); conv => whnf)
    | (apply WpD.id; first
      | (refine WpD.nil 14 2 _ rfl rfl rfl rfl ?_; refine WpD.loop (awS r key n now z u i) (fun q => awP r n now u q ∧ ∀ (j : Nat) y, j < q.1 → u[j]? = some y → ¬ now < y.a) (fun q => u.length - q.1) ?_ (fun ⟨k, s, l⟩ hq => ?_); rotate_left; obtain ⟨hq, hq0⟩ := hq; obtain ⟨q1, q2, q3, q4, q5, q6⟩ := id hq; dsimp only [awS] at *)
      | (refine WpD.walk rfl ?_; conv => whnf))
  all_goals clear h1 h2 h3 h4 hU
  all_goals try (rename u[_]? = some _ => hx; have hxb := hub _ (List.mem_of_getElem? hx))
  all_goals ((try simp only [decide_eq_true_eq, decide_eq_false_iff_not, cond_true, cond_false, beq_iff_eq, beq_eq_false_iff_ne, bne_iff_ne, bne_eq_false_iff_eq, ne_eq, Bool.not_eq_true', Bool.not_eq_false', Bool.not_eq_eq_eq_not, Bool.not_true, Bool.not_false, sLe_eq, Bool.and_eq_true, Bool.and_eq_false_iff, List.length_map, List.length_set, List.length_append, List.length_take, List.length_drop, List.length_replicate, List.length_cons, List.length_nil, lenMax, capMax, Int.toNat_natCast, gt_iff_lt, ge_iff_le] at *); (try simp (disch := omega) only [wr, wru, shr1, Int.tdiv_eq_ediv_of_nonneg] at *))
  all_goals first
    | rfl
    | (exfalso; omega)
    | (rename Us => x
       refine ⟨(k + 1, s + x.n, l ++ [x]), [0, 1, 2, 5], ⟨awP_keep hq hx ⟨by omega, by omega⟩ (by unfold oldU; simp; omega), fun j y hj hy => ?_⟩, ⟨⟨by decide, rfl, ?_, ?_, rfl⟩, by dsimp only; omega⟩⟩
       · by_cases hjk : j = k
         · subst hjk; rw [hx] at hy; injection hy with hy; subst hy; assumption
         · exact hq0 j y (by dsimp only at hj; omega) hy
       · (repeat' first | exact trivial | apply And.intro | (refine leInt rfl ?_; first | omega | (dsimp only; omega)) | rfl | (refine leArr rfl ?_ rfl; (simp; try omega)) | (refine leBool rfl ?_; assumption))
         all_goals (simp; done)
         done
       · (repeat' first | exact trivial | (refine obLe_v ?_; try dsimp only) | rfl | apply And.intro)
         all_goals (simp [Us.row, List.take_of_length_le]; done)
         done)
    | (rename Us => x
       refine ⟨(k + 1, s, l), [0, 1, 2, 3], ⟨awP_drop hq hx (by unfold oldU; simp; omega), fun j y hj hy => ?_⟩, ⟨⟨by decide, rfl, ?_, ?_, rfl⟩, by dsimp only; omega⟩⟩
       · by_cases hjk : j = k
         · subst hjk; rw [hx] at hy; injection hy with hy; subst hy; assumption
         · exact hq0 j y (by dsimp only at hj; omega) hy
       · (repeat' first | exact trivial | apply And.intro | (refine leInt rfl ?_; first | omega | (dsimp only; omega)) | rfl | (refine leArr rfl ?_ rfl; (simp; try omega)) | (refine leBool rfl ?_; assumption))
         done
       · (repeat' first | exact trivial | (refine obLe_v ?_; try dsimp only) | rfl | apply And.intro)
         done)
    | (refine ⟨(0, n, []), [0, 1, 2, 4], ⟨⟨Nat.zero_le _, rfl, by simp [sumU], Nat.le_refl _, by simp [sumU], by simp [sumU]⟩, fun j y hj => absurd hj (Nat.not_lt_zero j)⟩, ⟨by decide, rfl, ?_, ?_, rfl⟩⟩
       · (repeat' first | exact trivial | rfl | apply And.intro | (refine leInt rfl ?_; first | omega | (dsimp only; omega)) | (refine leArr rfl ?_ rfl; (simp; try omega)) | (refine leBool rfl ?_; assumption))
         done
       · (repeat' first | exact trivial | (refine obLe_v ?_; try dsimp only) | rfl | apply And.intro)
         done)
    | skip
  all_goals trace_state
theorem left_nil (r : Rt) (now : Int) : leftU r now [] = [] := rfl
theorem c_Allowed (r : Rt) (key : ByteArray) (n now : Int) : CallV tab 20 [.agg r.row, .str key, .int .i64 n, .int .i64 now] (· = alV (alS r key n now)) := by
  by_cases h : alF r key n now = (0, 0)
  · obtain ⟨ho, _⟩ := alF_ok h
    have hol := ho.l
    unfold alS
    rw [if_neg (by simp [h])]
    cases hg : gR key r.l with
    | some x =>
      dsimp only
      have hh : hR key r.l = true := by unfold hR; rw [hasL_get sOrd ho.s]; unfold gR at hg; rw [hg]; rfl
      obtain ⟨x', hx, hk, hg'⟩ := hasL_at sOrd ho.s hh
      unfold gR at hg
      rw [hg] at hg'; injection hg' with hg'; subst hg'
      have hok := ho.k x (List.mem_of_getElem? hx)
      have hU := c_UsesOf_at r key (by omega) hx hk (fun j y hj hy => by rw [← hk]; exact uses_ne ho.s hx hj hy)
      cases ha : (x.u.any fun y => decide (now < y.a)) with
      | true =>
        rw [if_pos rfl]
        exact c_Allowed_ord r key n now h x.z x.u _ hU hok.l hok.u ha
      | false =>
        rw [if_neg (by simp)]
        refine (c_Allowed_core r key n now h x.z x.u _ hU (fun h => by omega) hok.l hok.u ha).mono fun v hv => ?_
        rw [hv]
        unfold alV
        split
        · rfl
        · split <;> rfl
    | none =>
      dsimp only
      have hU := c_UsesOf_no r key (by omega) (get_none hg)
      by_cases h3 : r.l.length = 300
      · rw [if_pos h3]; exact c_Allowed_full r key n now h hU h3
      · rw [if_neg h3]
        refine (c_Allowed_core r key n now h true [] (-1) hU (fun _ => h3) (by simp) (by simp) rfl).mono fun v hv => ?_
        rw [hv, left_nil]
        have e0 : sumU [] + n = n := by simp [sumU]
        rw [e0]
        unfold alV
        split
        · rfl
        · rfl
  · have e : alS r key n now = (rt0, false, alF r key n now) := by unfold alS; rw [if_pos h]
    rw [e]; exact c_Allowed_bad r key n now h
/-! ##### both answers are the same -/
theorem map_put {y y' : Rk} (hk : y.k = y'.k) (hu : y.u = y'.u) : ∀ l : List Rk, (puR y l).map rkE = (puR y' (l.map unz)).map rkE
  | [] => by simp [puR, putL, rkE, hk, hu]
  | x :: l => by
    have ih := map_put hk hu l
    unfold puR at ih ⊢
    simp only [putL, List.map_cons, unz_k, ← hk]
    have ex : rkE (unz x) = rkE x := rfl
    have ey : rkE y' = rkE y := by simp [rkE, hk, hu]
    have em : List.map rkE (List.map unz l) = List.map rkE l := by rw [List.map_map]; rfl
    by_cases h1 : sLt x.k y.k = true
    · rw [if_pos h1, if_pos h1]; simp only [List.map_cons, ih, ex]
    · rw [if_neg h1, if_neg h1]
      by_cases h2 : x.k = y.k
      · rw [if_pos h2, if_pos h2]; simp only [List.map_cons, ey, em]
      · rw [if_neg h2, if_neg h2]; simp only [List.map_cons, ey, em, ex]
theorem put_same {r : Rt} (hs : SR r.l) {y y' : Rk} (hk : y.k = y'.k) (hu : y.u = y'.u) : rtE (putT r y') = rtE (putS r y) := by
  unfold rtE putT putS
  dsimp only
  rw [putR_put hs]
  have := map_put hk hu r.l
  unfold puR at this ⊢
  rw [this]
theorem al_same (r : Rt) (key : ByteArray) (n now : Int) : rtE (alR r key n now).1 = rtE (alS r key n now).1 ∧ (alR r key n now).2 = (alS r key n now).2 := by
  unfold alR alS
  by_cases h : alF r key n now = (0, 0)
  · obtain ⟨ho, _⟩ := alF_ok h
    have e1 : ¬ (alF r key n now ≠ (0, 0)) := by simp [h]
    simp only [if_neg e1]
    cases gR key r.l with
    | none =>
      dsimp only
      split
      · exact ⟨rfl, rfl⟩
      · split
        · exact ⟨put_same ho.s rfl rfl, rfl⟩
        · exact ⟨put_same ho.s rfl rfl, rfl⟩
    | some x =>
      dsimp only
      split
      · exact ⟨rfl, rfl⟩
      · split
        · exact ⟨put_same ho.s rfl rfl, rfl⟩
        · split
          · exact ⟨rfl, rfl⟩
          · exact ⟨put_same ho.s rfl rfl, rfl⟩
  · rw [if_pos h, if_pos h]; exact ⟨rfl, rfl⟩
/-- What Allow gives is as it should be. -/
theorem okT_put {r : Rt} (ho : okT r) {y : Rk} (hy : okK r.m y) (hl : (gR y.k r.l).isSome = true ∨ r.l.length < 300) : okT (putT r y) := by
  have hs := sr_unz ho.s
  refine ⟨ho.w, ho.m, ?_, ?_, sort_putL sOrd y hs⟩
  · show (puR y (r.l.map unz)).length ≤ 300
    unfold puR
    rw [length_putL sOrd y hs]
    have e : getL Rk.k y.k (r.l.map unz) = (gR y.k r.l).map unz := gR_unz y.k r.l
    rw [e]
    have := ho.l
    rcases hl with hl | hl
    · simp only [Option.isSome_map, hl, if_true, List.length_map]; omega
    · simp only [List.length_map]; split <;> omega
  · intro x hx
    rcases mem_putL hx with rfl | hx
    · exact hy
    · obtain ⟨z, hz, rfl⟩ := List.mem_map.1 hx
      have := ho.k z hz
      exact ⟨this.n, this.l, this.u, this.s⟩
theorem okK_left {r : Rt} {now : Int} {x : Rk} (h : okK r.m x) : okK r.m ⟨x.k, false, leftU r now x.u⟩ :=
  ⟨h.n, Nat.le_trans (List.length_filter_le _ _) h.l, fun y hy => h.u y (List.mem_filter.1 hy).1, List.Pairwise.filter _ h.s⟩
theorem okT_rt0_not : ¬ okT rt0 := fun h => by have := h.w; simp [rt0] at this
theorem al_ok {r : Rt} {key : ByteArray} {n now : Int} (hf : (alR r key n now).2.2 = (0, 0)) : okT (alR r key n now).1 ∧ alF r key n now = (0, 0) := by
  unfold alR at hf ⊢
  by_cases h : alF r key n now = (0, 0)
  · obtain ⟨ho, hk, hn, hw⟩ := alF_ok h
    refine ⟨?_, h⟩
    rw [if_neg (by simp [h])] at hf ⊢
    cases hg : gR key r.l with
    | none =>
      rw [hg] at hf
      dsimp only at hf ⊢
      have hol := ho.l
      split at hf
      · simp at hf
      · rename_i h3
        rw [if_neg h3]
        have hl : (gR key r.l).isSome = true ∨ r.l.length < 300 := .inr (by omega)
        split
        · exact okT_put ho ⟨hk, by simp, by simp, .nil⟩ hl
        · exact okT_put ho ⟨hk, by simp, fun y hy => by simp at hy; subst hy; exact ⟨hw.1, hw.2, hn.1, by dsimp only; omega⟩, by simp⟩ hl
    | some x =>
      rw [hg] at hf
      dsimp only at hf ⊢
      have hm := getL_mem hg
      have hx := ho.k x hm.1
      have hl : (gR key r.l).isSome = true ∨ r.l.length < 300 := .inl (by rw [hg]; rfl)
      have hlk := okK_left (now := now) hx
      split at hf
      · simp at hf
      · rename_i ha
        rw [if_neg ha]
        split
        · exact okT_put ho ⟨hk, hlk.l, hlk.u, hlk.s⟩ hl
        · rename_i hmm
          rw [if_neg hmm] at hf
          split at hf
          · simp at hf
          · rename_i h3
            rw [if_neg h3]
            have hll := hlk.l
            have hb := sumU_b (l := leftU r now x.u) (m := r.m) (fun y hy => by have := hlk.u y hy; unfold uOk at this; omega)
            refine okT_put ho ⟨hk, by simp; dsimp only at hll; omega, ?_, ?_⟩ hl
            · intro y hy
              rcases List.mem_append.1 hy with hy | hy
              · exact hlk.u y hy
              · simp at hy; subst hy; exact ⟨hw.1, hw.2, hn.1, by dsimp only; omega⟩
            · refine List.pairwise_append.2 ⟨hlk.s, by simp, fun a hha b hb => ?_⟩
              simp at hb; subst hb
              have := List.any_eq_false.1 (by simpa using ha : (x.u.any fun y => decide (now < y.a)) = false) a (List.mem_filter.1 hha).1
              simp at this; dsimp only; omega
  · rw [if_pos h] at hf; exact absurd hf h
end Go.DL
