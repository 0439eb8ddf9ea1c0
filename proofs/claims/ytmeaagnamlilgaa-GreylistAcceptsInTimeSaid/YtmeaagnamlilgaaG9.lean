/- The greylist: what Try answers, told by what is found. No condition. -/
import Derived.Test.YtmeaagnamlilgaaG8
set_option linter.unusedVariables false
set_option linter.unusedSimpArgs false
set_option maxHeartbeats 4000000
namespace Go.DL
open Go.Proofs

abbrev gG (k : K3) (l : List Ge) : Option Ge := getL Ge.key k l
abbrev puG (y : Ge) (l : List Ge) : List Ge := putL lt3 Ge.key y l
def upG (x : Ge) (now : Int) : Ge := { x with b := now, k := x.k || decide (300 ≤ now - x.a) }
def freshF (l : List Ge) (e : Ge) (now : Int) : (List Ge × Bool) × (Int × Int) := if (live' now l).length = 300 then (([], false), (2, -1)) else ((puG e (live' now l), false), (0, 0))
def tryF (l : List Ge) (e : Ge) (now : Int) : (List Ge × Bool) × (Int × Int) :=
  if tF0 l e now ≠ (0, 0) then (([], false), tF0 l e now) else
  match gG e.key l with
  | some x => if now < x.b then (([], false), (19, (pG e.key l : Int))) else if exp' x now = false then ((puG (upG x now) l, (upG x now).k), (0, 0)) else freshF l e now
  | none => freshF l e now
def outV (r : (List Ge × Bool) × (Int × Int)) : V := if r.2 = (0, 0) then ges false r.1.1 else .sl 6 true []
theorem set_put {l : List Ge} {x y : Ge} {k : K3} (hx : l[pG k l]? = some x) (hk : x.key = k) (hy : y.key = k) : l.set (pG k l) y = puG y l := by
  unfold puG
  rw [putL_pos, hy]
  rw [List.set_eq_take_append_cons_drop, if_pos (lt_get hx)]
  unfold pG at hx
  rw [hx, if_pos (by simp [hk])]
theorem ins_put {m : List Ge} (hs : SG m) {e : Ge} (hg : gG e.key m = none) : m.take (pG e.key m) ++ e :: m.drop (pG e.key m) = puG e m := by
  unfold puG
  rw [putL_pos, if_neg, Nat.add_zero]
  intro hm
  unfold gG at hg
  rw [getL_pos ord3 hs] at hg
  rcases hx : m[posL lt3 Ge.key e.key m]? with _ | x
  · rw [hx] at hm; simp at hm
  · rw [hx] at hm hg
    simp at hm hg
    exact hg hm
theorem c_Try (z : Bool) (l : List Ge) (h f t : ByteArray) (now : Int) : CallV tab 11 [ges z l, .str h, .str f, .str t, .int .i64 now] (· = .tup [outV (tryF l (ent h f t now) now), .bool (tryF l (ent h f t now) now).1.2, fv (tryF l (ent h f t now) now).2]) := by
  by_cases hb : tF0 l (ent h f t now) now = (0, 0)
  · obtain ⟨a, b, c⟩ := tF_ok hb
    obtain ⟨hl, hr, hs⟩ := gchk_ok a
    cases hh : hG (ent h f t now).key l with
    | true =>
      obtain ⟨x, hx, hk, hg⟩ := hasL_at ord3 hs hh
      have e0 : tryF l (ent h f t now) now = if now < x.b then (([], false), (19, (pG (ent h f t now).key l : Int))) else if exp' x now = false then ((puG (upG x now) l, (upG x now).k), (0, 0)) else freshF l (ent h f t now) now := by
        unfold tryF gG; rw [if_neg (by simp [hb]), hg]
      by_cases hlt : now < x.b
      · have e1 : tryF l (ent h f t now) now = (([], false), (19, (pG (ent h f t now).key l : Int))) := by rw [e0, if_pos hlt]
        rw [e1]; exact c_Try_ord z l h f t now hb hh hx hlt
      · by_cases he : exp' x now = false
        · have e1 : tryF l (ent h f t now) now = ((puG (upG x now) l, (upG x now).k), (0, 0)) := by rw [e0, if_neg hlt, if_pos he]
          have := c_Try_has z l h f t now hb hh hx hlt he
          rw [set_put (y := { x with b := now, k := x.k || decide (300 ≤ now - x.a) }) hx hk hk] at this
          rw [e1]; exact this
        · have he' : exp' x now = true := by simpa using he
          have e1 : tryF l (ent h f t now) now = freshF l (ent h f t now) now := by rw [e0, if_neg hlt, if_neg he]
          have hn : gG (ent h f t now).key (live' now l) = none := by
            unfold gG live'
            rw [getL_filter ord3 _ hs, hg]; simp [he']
          by_cases hf : (live' now l).length = 300
          · have e2 : freshF l (ent h f t now) now = (([], false), (2, -1)) := by unfold freshF; rw [if_pos hf]
            rw [e1, e2]; exact c_Try_full1 z l h f t now hb hh hx hlt he' hf
          · have e2 : freshF l (ent h f t now) now = ((puG (ent h f t now) (live' now l), false), (0, 0)) := by unfold freshF; rw [if_neg hf]
            have := c_Try_ins1 z l h f t now hb hh hx hlt he' hf
            rw [ins_put (m := live' now l) (sort_filter _ hs) hn] at this
            rw [e1, e2]; exact this
    | false =>
      have hg : gG (ent h f t now).key l = none := hasL_no ord3 hs hh
      have e1 : tryF l (ent h f t now) now = freshF l (ent h f t now) now := by
        unfold tryF; rw [if_neg (by simp [hb]), hg]
      have hn : gG (ent h f t now).key (live' now l) = none := by
        unfold gG live'
        unfold gG at hg
        rw [getL_filter ord3 _ hs, hg]; rfl
      by_cases hf : (live' now l).length = 300
      · have e2 : freshF l (ent h f t now) now = (([], false), (2, -1)) := by unfold freshF; rw [if_pos hf]
        rw [e1, e2]; exact c_Try_full0 z l h f t now hb hh hf
      · have e2 : freshF l (ent h f t now) now = ((puG (ent h f t now) (live' now l), false), (0, 0)) := by unfold freshF; rw [if_neg hf]
        have := c_Try_ins0 z l h f t now hb hh hf
        rw [ins_put (m := live' now l) (sort_filter _ hs) hn] at this
        rw [e1, e2]; exact this
  · have e1 : tryF l (ent h f t now) now = (([], false), tF0 l (ent h f t now) now) := by unfold tryF; rw [if_pos hb]
    have e2 : outV (([], false), tF0 l (ent h f t now) now) = .sl 6 true [] := by unfold outV; rw [if_neg hb]
    rw [e1, e2]; exact c_Try_bad z l h f t now hb
end Go.DL
