/- Hosts: the text of a policy; Print. No condition. -/
import Derived.Test.YtacpahgoomdfaaaDoorH7
set_option linter.unusedVariables false
set_option linter.unusedSimpArgs false
set_option maxHeartbeats 4000000
namespace Go.DL
open Go.Proofs

def sgn (r : Int) : ByteArray := if r = 1 then ⟨#[43]⟩ else if r = 2 then ⟨#[45]⟩ else if r = 3 then ⟨#[126]⟩ else ⟨#[63]⟩
def wrd (k : Int) : ByteArray := if k = 1 then ⟨#[97, 108, 108]⟩ else if k = 2 then ⟨#[105, 115, 58]⟩ else if k = 3 then ⟨#[117, 110, 100, 101, 114, 58]⟩ else ⟨#[105, 110, 99, 108, 117, 100, 101, 58]⟩
def addR (out : ByteArray) (x : Rl) : ByteArray := out ++ (((sp ++ sgn x.r) ++ wrd x.k) ++ x.n)
def pText (p : Pl) : ByteArray := p.l.foldl addR p.d
structure okR1 (x : Rl) : Prop where
  r : 1 ≤ x.r ∧ x.r ≤ 4
  k : 1 ≤ x.k ∧ x.k ≤ 4
  n : x.n.size ≤ 60
theorem app_size (a b : ByteArray) : (a ++ b).size = a.size + b.size := by simp
theorem sgn_size (r : Int) : (sgn r).size = 1 := by unfold sgn; (repeat' split) <;> rfl
theorem wrd_size (k : Int) : (wrd k).size ≤ 8 := by unfold wrd; (repeat' split) <;> decide
theorem addR_size {out : ByteArray} {x : Rl} (h : x.n.size ≤ 60) : (addR out x).size ≤ out.size + 70 := by
  unfold addR
  simp only [app_size, sgn_size]
  have := wrd_size x.k
  have : sp.size = 1 := rfl
  omega
theorem txt_size {l : List Rl} (h : ∀ x ∈ l, x.n.size ≤ 60) (d : ByteArray) : ∀ k, ((l.take k).foldl addR d).size ≤ d.size + 70 * k
  | 0 => by simp
  | k + 1 => by
    have ih := txt_size h d k
    cases hx : l[k]? with
    | none =>
      have := List.getElem?_eq_none_iff.1 hx
      rw [List.take_of_length_le (by omega)]
      rw [List.take_of_length_le (by omega)] at ih
      omega
    | some x =>
      rw [take_get hx, List.foldl_append]
      have := addR_size (out := (l.take k).foldl addR d) (h x (List.mem_of_getElem? hx))
      simp only [List.foldl_cons, List.foldl_nil]
      omega
theorem row_sg {r : Int} (h : 1 ≤ r ∧ r ≤ 4) : [[D.v (.str ⟨#[]⟩)], [D.v (.str ⟨#[43]⟩)], [D.v (.str ⟨#[45]⟩)], [D.v (.str ⟨#[126]⟩)], [D.v (.str ⟨#[63]⟩)]][0 + r.toNat]? = some [D.v (.str (sgn r))] := by
  have : r = 1 ∨ r = 2 ∨ r = 3 ∨ r = 4 := by omega
  rcases this with rfl | rfl | rfl | rfl <;> rfl
theorem row_wd {k : Int} (h : 1 ≤ k ∧ k ≤ 4) : [[D.v (.str ⟨#[]⟩)], [D.v (.str ⟨#[97, 108, 108]⟩)], [D.v (.str ⟨#[105, 115, 58]⟩)], [D.v (.str ⟨#[117, 110, 100, 101, 114, 58]⟩)], [D.v (.str ⟨#[105, 110, 99, 108, 117, 100, 101, 58]⟩)]][0 + k.toNat]? = some [D.v (.str (wrd k))] := by
  have : k = 1 ∨ k = 2 ∨ k = 3 ∨ k = 4 := by omega
  rcases this with rfl | rfl | rfl | rfl <;> rfl
theorem c_PolicyText (p : Pl) (hr : ∀ x ∈ p.l, okR1 x) (hl : p.l.length ≤ 60) (hd : p.d.size ≤ 60) : CallV tab 22 [.agg p.row] (· = .str (pText p)) := by
  refine callV_of Tryd.func22 rfl (Nat.le_of_ble_eq_true rfl) (by kernel_rfl) ?_
  repeat' first
    | (refine rowAt hsg ?_; conv => whnf)
    | (refine rowAt hwd ?_; conv => whnf)
    | (apply Br.id; first
      | (apply Br.tt; try conv => whnf)
      | (apply Br.ff; try conv => whnf)
      | (refine Br.of_t (by assumption) ?_; conv => whnf)
      | (refine Br.of_f (by assumption) ?_; conv => whnf)
      | (refine Br.mk (fun _ => ?_) (fun _ => ?_) <;> try conv => whnf))
    | (apply CallOp.id; first
      | (refine call_at rfl rfl rfl rfl rfl ?_)
      | (refine call_rd rfl rfl rfl rfl rfl ?_)
      | (refine CallOp.std ?_; (conv => whnf); fail_if_success refine (?_ : False)))
    | (apply CallDet.id; first
      | (refine call_atD rfl rfl rfl rfl rfl ?_)
      | (refine call_rdD rfl rfl rfl rfl rfl ?_)
      | (refine CallDet.std ?_; (conv => whnf); fail_if_success refine (?_ : False)))
    | (refine EndOk.mk (by kernel_rfl) ?_; conv => whnf)
    | (refine And.intro q1 ?_; conv => whnf)
    | (refine And.intro q2 ?_; conv => whnf)
    | (refine And.intro q3 ?_; conv => whnf)
    | (refine And.intro q4 ?_; conv => whnf)
    | (refine And.intro (by (first | decide | exact trivial | omega | exact Nat.le_refl _ | (((try simp only [decide_eq_true_eq, decide_eq_false_iff_not, cond_true, cond_false, beq_iff_eq, beq_eq_false_iff_ne, bne_iff_ne, bne_eq_false_iff_eq, ne_eq, Bool.not_eq_true', Bool.not_eq_false', Bool.not_eq_eq_eq_not, Bool.not_true, Bool.not_false, sLe_eq, Bool.and_eq_true, Bool.and_eq_false_iff, List.length_map, List.length_set, List.length_append, List.length_take, List.length_drop, List.length_replicate, List.length_cons, List.length_nil, lenMax, capMax, Int.toNat_natCast, gt_iff_lt, ge_iff_le] at *); (try simp (disch := omega) only [wr, wru, shr1, Int.tdiv_eq_ediv_of_nonneg] at *)); omega) | (((try simp only [decide_eq_true_eq, decide_eq_false_iff_not, cond_true, cond_false, beq_iff_eq, beq_eq_false_iff_ne, bne_iff_ne, bne_eq_false_iff_eq, ne_eq, Bool.not_eq_true', Bool.not_eq_false', Bool.not_eq_eq_eq_not, Bool.not_true, Bool.not_false, sLe_eq, Bool.and_eq_true, Bool.and_eq_false_iff, List.length_map, List.length_set, List.length_append, List.length_take, List.length_drop, List.length_replicate, List.length_cons, List.length_nil, lenMax, capMax, Int.toNat_natCast, gt_iff_lt, ge_iff_le] at *); (try simp (disch := omega) only [wr, wru, shr1, Int.tdiv_eq_ediv_of_nonneg] at *)); assumption))) ?_; conv => whnf)
    | (refine idxOld (by assumption) ?_; conv => whnf)
    | (refine idxMap (by (first | decide | exact trivial | omega | exact Nat.le_refl _ | (((try simp only [decide_eq_true_eq, decide_eq_false_iff_not, cond_true, cond_false, beq_iff_eq, beq_eq_false_iff_ne, bne_iff_ne, bne_eq_false_iff_eq, ne_eq, Bool.not_eq_true', Bool.not_eq_false', Bool.not_eq_eq_eq_not, Bool.not_true, Bool.not_false, sLe_eq, Bool.and_eq_true, Bool.and_eq_false_iff, List.length_map, List.length_set, List.length_append, List.length_take, List.length_drop, List.length_replicate, List.length_cons, List.length_nil, lenMax, capMax, Int.toNat_natCast, gt_iff_lt, ge_iff_le] at *); (try simp (disch := omega) only [wr, wru, shr1, Int.tdiv_eq_ediv_of_nonneg] at *)); omega) | (((try simp only [decide_eq_true_eq, decide_eq_false_iff_not, cond_true, cond_false, beq_iff_eq, beq_eq_false_iff_ne, bne_iff_ne, bne_eq_false_iff_eq, ne_eq, Bool.not_eq_true', Bool.not_eq_false', Bool.not_eq_eq_eq_not, Bool.not_true, Bool.not_false, sLe_eq, Bool.and_eq_true, Bool.and_eq_false_iff, List.length_map, List.length_set, List.length_append, List.length_take, List.length_drop, List.length_replicate, List.length_cons, List.length_nil, lenMax, capMax, Int.toNat_natCast, gt_iff_lt, ge_iff_le] at *); (try simp (disch := omega) only [wr, wru, shr1, Int.tdiv_eq_ediv_of_nonneg] at *)); assumption))) (fun _ _ => ?_); conv => whnf)
    | refine Exists.intro _ (And.intro (DV_toV rfl) ?_)
    | (refine rowSet (by (first | decide | exact trivial | omega | exact Nat.le_refl _ | (((try simp only [decide_eq_true_eq, decide_eq_false_iff_not, cond_true, cond_false, beq_iff_eq, beq_eq_false_iff_ne, bne_iff_ne, bne_eq_false_iff_eq, ne_eq, Bool.not_eq_true', Bool.not_eq_false', Bool.not_eq_eq_eq_not, Bool.not_true, Bool.not_false, sLe_eq, Bool.and_eq_true, Bool.and_eq_false_iff, List.length_map, List.length_set, List.length_append, List.length_take, List.length_drop, List.length_replicate, List.length_cons, List.length_nil, lenMax, capMax, Int.toNat_natCast, gt_iff_lt, ge_iff_le] at *); (try simp (disch := omega) only [wr, wru, shr1, Int.tdiv_eq_ediv_of_nonneg] at *)); omega) | (((try simp only [decide_eq_true_eq, decide_eq_false_iff_not, cond_true, cond_false, beq_iff_eq, beq_eq_false_iff_ne, bne_iff_ne, bne_eq_false_iff_eq, ne_eq, Bool.not_eq_true', Bool.not_eq_false', Bool.not_eq_eq_eq_not, Bool.not_true, Bool.not_false, sLe_eq, Bool.and_eq_true, Bool.and_eq_false_iff, List.length_map, List.length_set, List.length_append, List.length_take, List.length_drop, List.length_replicate, List.length_cons, List.length_nil, lenMax, capMax, Int.toNat_natCast, gt_iff_lt, ge_iff_le] at *); (try simp (disch := omega) only [wr, wru, shr1, Int.tdiv_eq_ediv_of_nonneg] at *)); assumption))) ?_; conv => whnf)
    | (refine rowOld (by assumption) ?_; conv => whnf)
    | (refine rowNew (by (first | decide | exact trivial | omega | exact Nat.le_refl _ | (((try simp only [decide_eq_true_eq, decide_eq_false_iff_not, cond_true, cond_false, beq_iff_eq, beq_eq_false_iff_ne, bne_iff_ne, bne_eq_false_iff_eq, ne_eq, Bool.not_eq_true', Bool.not_eq_false', Bool.not_eq_eq_eq_not, Bool.not_true, Bool.not_false, sLe_eq, Bool.and_eq_true, Bool.and_eq_false_iff, List.length_map, List.length_set, List.length_append, List.length_take, List.length_drop, List.length_replicate, List.length_cons, List.length_nil, lenMax, capMax, Int.toNat_natCast, gt_iff_lt, ge_iff_le] at *); (try simp (disch := omega) only [wr, wru, shr1, Int.tdiv_eq_ediv_of_nonneg] at *)); omega) | (((try simp only [decide_eq_true_eq, decide_eq_false_iff_not, cond_true, cond_false, beq_iff_eq, beq_eq_false_iff_ne, bne_iff_ne, bne_eq_false_iff_eq, ne_eq, Bool.not_eq_true', Bool.not_eq_false', Bool.not_eq_eq_eq_not, Bool.not_true, Bool.not_false, sLe_eq, Bool.and_eq_true, Bool.and_eq_false_iff, List.length_map, List.length_set, List.length_append, List.length_take, List.length_drop, List.length_replicate, List.length_cons, List.length_nil, lenMax, capMax, Int.toNat_natCast, gt_iff_lt, ge_iff_le] at *); (try simp (disch := omega) only [wr, wru, shr1, Int.tdiv_eq_ediv_of_nonneg] at *)); assumption))) (fun _ _ => ?_); conv => whnf)
    | (apply WpD.id; first
      | (refine WpD.loopAt 8 rfl (fun k : Nat => ⟨[(1, .ptr 0 0 0), (3, .v (.str ((p.l.take k).foldl addR p.d))), (4, .v (.int .i64 k))], [.arr 2 (vrows [p.row])], []⟩) (fun k => k ≤ p.l.length) (fun k => p.l.length - k) ?_ (fun k hk => ?_); rotate_left; rcases Nat.lt_or_ge k p.l.length with hlt | hge; (obtain ⟨x, hx⟩ : ∃ x, p.l[k]? = some x := ⟨_, List.getElem?_eq_getElem hlt⟩); (have hrx := hr x (List.mem_of_getElem? hx)); (have hn := hrx.n); (have hr4 := hrx.r); (have hk4 := hrx.k); (have hsz := txt_size (fun x hx => (hr x hx).n) p.d k); (have hnx : (p.l.take (k + 1)).foldl addR p.d = addR ((p.l.take k).foldl addR p.d) x := by { rw [take_get hx, List.foldl_append]; rfl }); (have dk : decide ((k : Int) < (p.l.length : Int)) = true := by { simp; omega }); (have dk2 : decide ((k : Int) < ((p.l.map Rl.row).length : Int)) = true := by { simp; omega }); (generalize (p.l.take k).foldl addR p.d = out at *); (obtain ⟨xr, xk, xn⟩ := x); dsimp only at hn hr4 hk4; (have hx0 : p.l[((k : Nat) : Int).toNat]? = some ⟨xr, xk, xn⟩ := hx); (have t1 := sgn_size xr); (have t2 := wrd_size xk); (have q1 : ((⟨#[32]⟩ : ByteArray).size) + (sgn xr).size ≤ 9223372036854775807 := by { show 1 + (sgn xr).size ≤ _; omega }); (have u1 : ((⟨#[32]⟩ : ByteArray) ++ sgn xr).size = 2 := by { rw [app_size, t1]; rfl }); (have q2 : ((⟨#[32]⟩ : ByteArray) ++ sgn xr).size + (wrd xk).size ≤ 9223372036854775807 := by omega); (have u2 : ((⟨#[32]⟩ : ByteArray) ++ sgn xr ++ wrd xk).size ≤ 10 := by { rw [app_size]; omega }); (have q3 : ((⟨#[32]⟩ : ByteArray) ++ sgn xr ++ wrd xk).size + xn.size ≤ 9223372036854775807 := by omega); (have q4 : out.size + ((⟨#[32]⟩ : ByteArray) ++ sgn xr ++ wrd xk ++ xn).size ≤ 9223372036854775807 := by { rw [app_size ((⟨#[32]⟩ : ByteArray) ++ sgn xr ++ wrd xk)]; omega }); (have hsg := row_sg hr4); (have hwd := row_wd hk4); rotate_left; (have dk : decide ((k : Int) < (p.l.length : Int)) = false := by { simp; omega }); (have dk2 : decide ((k : Int) < ((p.l.map Rl.row).length : Int)) = false := by { simp; omega }); rotate_left)
      | (refine WpD.walk rfl ?_; conv => whnf))
  all_goals ((try simp only [decide_eq_true_eq, decide_eq_false_iff_not, cond_true, cond_false, beq_iff_eq, beq_eq_false_iff_ne, bne_iff_ne, bne_eq_false_iff_eq, ne_eq, Bool.not_eq_true', Bool.not_eq_false', Bool.not_eq_eq_eq_not, Bool.not_true, Bool.not_false, sLe_eq, Bool.and_eq_true, Bool.and_eq_false_iff, List.length_map, List.length_set, List.length_append, List.length_take, List.length_drop, List.length_replicate, List.length_cons, List.length_nil, lenMax, capMax, Int.toNat_natCast, gt_iff_lt, ge_iff_le] at *); (try simp (disch := omega) only [wr, wru, shr1, Int.tdiv_eq_ediv_of_nonneg] at *))
  all_goals first
    | (exfalso; omega)
    | (refine ⟨0, [0], Nat.zero_le _, ⟨by decide, rfl, ?_, ?_, rfl⟩⟩
       · (repeat' first | exact trivial | rfl | apply And.intro | (refine leInt rfl ?_; first | omega | (dsimp only; omega)) | (refine leArr rfl ?_ rfl; (simp; try omega)) | (refine leBool rfl ?_; assumption))
         done
       · (repeat' first | exact trivial | (refine obLe_v ?_; try dsimp only) | rfl | apply And.intro)
         done)
    | (refine ⟨k + 1, [0], by omega, ⟨⟨by decide, rfl, ?_, ?_, rfl⟩, by omega⟩⟩
       · rw [hnx]
         (repeat' first | exact trivial | rfl | apply And.intro | (refine leInt rfl ?_; first | omega | (dsimp only; omega)) | (refine leArr rfl ?_ rfl; (simp; try omega)) | (refine leBool rfl ?_; assumption))
         done
       · (repeat' first | exact trivial | (refine obLe_v ?_; try dsimp only) | rfl | apply And.intro)
         done)
    | (rw [pText, show p.l.take k = p.l by rw [List.take_of_length_le (by omega)]]; done)
    | skip
  all_goals trace_state
theorem nmB_sz {s : ByteArray} (h : nmB s = true) : s.size ≤ 60 := by
  unfold nmB at h; simp at h; exact h.1.2
theorem rF_ok {x : Rl} (h : rF x = 0) : okR1 x := by
  unfold rF at h
  split at h
  · simp at h
  · split at h
    · simp at h
    · rename_i h1 h2
      split at h
      · split at h
        · rename_i h4
          exact ⟨by omega, by omega, by rw [h4]; decide⟩
        · simp at h
      · split at h
        · rename_i h4; exact ⟨by omega, by omega, nmB_sz h4⟩
        · simp at h
theorem pF_ok {p : Pl} (h : pF p = (0, 0)) : p.d.size ≤ 60 ∧ p.l.length ≤ 60 ∧ ∀ x ∈ p.l, okR1 x := by
  unfold pF at h
  split at h
  · simp at h
  · rename_i h1
    split at h
    · simp at h
    · rename_i h2
      rw [vfl_ok] at h
      refine ⟨nmB_sz (by simpa using h1), by omega, fun x hx => ?_⟩
      obtain ⟨i, hi, e⟩ := List.mem_iff_getElem.1 hx
      exact rF_ok (h i x (by rw [List.getElem?_eq_getElem hi, e]))
/-- What Print answers. -/
def prA (p : Pl) : ByteArray × (Int × Int) := if pF p ≠ (0, 0) then (e0, pF p) else if 4000 < (pText p).size then (e0, (1, -1)) else (pText p, (0, 0))
end Go.DL
