/- DL, part 11: regions whose order Go leaves open: the rule. Own work; no condition. -/
import Derived.Test.YtdadnjhfennenaaDl10
set_option linter.unusedVariables false
set_option linter.unusedSimpArgs false
namespace Go.DL
open Go.RowKit

section
variable {P : Program} {T : Tab P}

theorem Real.restrict {G : Nat → Option (List V)} {X : Nat → Prop} {ρ : Nat → Slot} {w : World} {E E' : Nat → Option D} {H H' : Nat → Ob} {tmps : Array Value} (r : Real G X ρ w E' H' tmps) {rt rp : List Nat}
    (hE : ∀ t ∈ rt, E' t = E t) (hH : ∀ p ∈ rp, H' p = H p) : Real G X ρ w (onE rt E) (onH rp H) tmps := by
  refine ⟨r.glob, r.mem, fun t d h => ?_, fun p => ?_⟩
  · unfold onE at h
    cases hb : isIn t rt with
    | false => rw [hb] at h; cases h
    | true =>
      rw [hb, cond_true, ← hE t (isIn_iff.1 hb)] at h
      exact r.env t d h
  · unfold onH
    cases hb : isIn p rp with
    | false => trivial
    | true => rw [cond_true, ← hH p (isIn_iff.1 hb)]; exact r.obs p
theorem good_exec {ops : Array Oper} {o : Oper} {E : Nat → Option D} {H : Nat → Ob} {nw : List Nat} {d : D} {ups : List (Nat × Ob)} {gd rp : List Nat} (hdoes : Does T o (onE (opRds o.op) E) (onH rp H) nw (Just d ups))
    (hg : o.guard = none ∨ ∃ j want t, o.guard = some (j, want) ∧ nthDst ops.toList j = some t ∧ t ∈ gd ∧ E t = some (.v (.bool want))) :
    Good T ops o E H ⟨⟨gd ++ opRds o.op, rp, o.dst, ups.map (·.1)⟩, d, ups, nw⟩ := by
  intro E' H' hE hH X ρ w a Q K r hn hK
  have hw : Region.wanted o (yielded ops a.tmps) = true := by
    rcases hg with hg | ⟨j, want, t, hg, ht, hmem, hEt⟩
    · simp [Region.wanted, hg]
    · have hdst : (ops[j]?).bind (·.dst) = some t := by rw [nthDst_eq] at ht; simpa using ht
      obtain ⟨v, hv, hd⟩ := r.env t _ ((hE t (List.mem_append_left _ hmem)).trans hEt)
      unfold DCell VCell at hd
      subst hd
      have hy : yielded ops a.tmps j = some want := by simp [yielded, hdst, hv]
      simp [Region.wanted, hg, hy]
  rw [if_pos hw]
  refine .inl (hdoes X ρ w a Q K (r.restrict (fun t ht => hE t (List.mem_append_right _ ht)) hH) hn ?_)
  rintro d' ups' v w' X' ρ' ⟨rfl, rfl⟩ st hd ho
  exact hK v w' X' ρ' st hd ho
/-- What a guard does not want. -/
def Unw (want : Bool) (d : Option D) : Prop := (∃ lit, d = some (.v (.bool lit)) ∧ lit ≠ want) ∨ ∃ u, d = some (.v (.raw u)) ∧ ∀ b, u ≠ .bool b
theorem good_skip {ops : Array Oper} {o : Oper} {E : Nat → Option D} {H : Nat → Ob} {gd : List Nat} {j t : Nat} {want : Bool} (hg : o.guard = some (j, want)) (ht : nthDst ops.toList j = some t) (hmem : t ∈ gd) (hu : Unw want (E t)) :
    Good T ops o E H ⟨⟨gd, [], o.dst, []⟩, .v (.raw undef), [], []⟩ := by
  intro E' H' hE hH X ρ w a Q K r hn hK
  have hdst : (ops[j]?).bind (·.dst) = some t := by rw [nthDst_eq] at ht; simpa using ht
  have hw : Region.wanted o (yielded ops a.tmps) = false := by
    rcases hu with ⟨lit, hEt, hne⟩ | ⟨u, hEt, hnb⟩
    · obtain ⟨v, hv, hd⟩ := r.env t _ ((hE t hmem).trans hEt)
      unfold DCell VCell at hd
      subst hd
      have hy : yielded ops a.tmps j = some lit := by simp [yielded, hdst, hv]
      simp [Region.wanted, hg, hy, hne]
    · obtain ⟨v, hv, hd⟩ := r.env t _ ((hE t hmem).trans hEt)
      have hv2 : v = u := hd
      subst hv2
      have hy : yielded ops a.tmps j ≠ some want := yielded_not hdst hv hnb
      simp [Region.wanted, hg, hy]
  rw [if_neg (by simp [hw])]
  exact hK _ w X ρ (Step.refl r.mem) rfl (by simp)
theorem look_put {σ : St} {dst : Option Nat} {d : D} {ups : List (Nat × Ob)} : look (σ.put dst d ups).env = updE (look σ.env) dst d ∧ (σ.put dst d ups).heap = setObs σ.heap ups := by
  constructor
  · funext u
    cases dst with
    | none => simp [St.put, updE]
    | some t =>
      simp only [St.put, updE, look]
      by_cases h : t = u
      · subst h; simp
      · have : Nat.beq t u = false := by
          cases hb : Nat.beq t u with
          | false => rfl
          | true => exact absurd (Nat.eq_of_beq_eq_true hb) h
        simp [this, h]
  · cases dst <;> rfl
theorem dec_put {σ : St} {dst : Option Nat} {d : D} {ups : List (Nat × Ob)} (h : ∀ t b, look σ.dec t = some b → look σ.env t = some (.v (.bool b))) :
    ∀ t b, look (σ.put dst d ups).dec t = some b → look (σ.put dst d ups).env t = some (.v (.bool b)) := by
  intro t b ht
  rw [look_put.1]
  cases dst with
  | none => simp only [updE]; rw [if_neg (by simp)]; exact h t b ht
  | some u =>
    obtain ⟨hne, hl⟩ := look_purge u σ.dec t b ht
    rw [updE_ne (by simpa using Ne.symm hne)]
    exact h t b hl
theorem look_lit {σ : St} {t : Nat} {b : Bool} (h : look σ.env t = some (.v (.bool b))) : look (litSt t b σ).env = look σ.env := by
  funext u
  simp only [litSt, look]
  cases hb : Nat.beq t u with
  | true => rw [cond_true, ← Nat.eq_of_beq_eq_true hb, h]
  | false => rfl
def DecOk (σ : St) : Prop := ∀ t b, look σ.dec t = some b → look σ.env t = some (.v (.bool b))
theorem DecOk.lit {σ : St} (k : DecOk σ) {t : Nat} {b : Bool} (h : look σ.env t = some (.v (.bool b))) : DecOk (litSt t b σ) := by
  intro u c hu
  rw [look_lit h]
  simp only [litSt, look] at hu
  cases hb : Nat.beq t u with
  | true => rw [hb, cond_true] at hu; injection hu with hu; subst hu; rw [← Nat.eq_of_beq_eq_true hb]; exact h
  | false => rw [hb, cond_false] at hu; exact k u c hu
theorem nwIn_out {nw : List Nat} {ups : List (Nat × Ob)} {K : Prop} (h : nwIn nw ups K) : K ∧ ∀ p ∈ nw, p ∈ ups.map (·.1) := by
  unfold nwIn at h
  split at h
  · rename_i hb
    exact ⟨h, fun p hp => isIn_iff.1 (List.all_eq_true.1 hb p hp)⟩
  · exact h.elim
attribute [local semireducible] CallDet in
theorem drawOps_tr {N : Nat} {ops : Array Oper} {J : List Rec → St → Prop} : ∀ (l : List Oper) (rs : List Rec) (σ : St), drawOps T N ops.toList l rs σ J → DecOk σ →
    ∃ xs σ', Tr T ops l xs (look σ.env) (obAt σ.heap) σ.heap.length (look σ'.env) (obAt σ'.heap) σ'.heap.length ∧ J (rs ++ xs.map (·.r)) σ' ∧ (∀ o ∈ l, dstB N o.dst = true) ∧ σ'.dec = []
  | [], rs, σ, h, _ => ⟨[], ⟨σ.env, σ.heap, []⟩, .nil, by simpa [drawOps, endK_eq] using h, by simp, rfl⟩
  | o :: rest, rs, σ, h, hdec => by
    -- one operation that is carried out
    have fin : ∀ {σ1 : St} {x : Inst}, look σ1.env = look σ.env → σ1.heap = σ.heap → DecOk σ1 → Good T ops o (look σ.env) (obAt σ.heap) x → x.r.dst = o.dst → x.r.wp = x.ups.map (·.1) → (∀ p ∈ x.nw, σ.heap.length ≤ p ∧ p ∈ x.r.wp) → dstB N o.dst = true →
        drawOps T N ops.toList rest (rs ++ [x.r]) (σ1.put o.dst x.d x.ups) J →
        ∃ xs σ', Tr T ops (o :: rest) xs (look σ.env) (obAt σ.heap) σ.heap.length (look σ'.env) (obAt σ'.heap) σ'.heap.length ∧ J (rs ++ xs.map (·.r)) σ' ∧ (∀ o' ∈ o :: rest, dstB N o'.dst = true) ∧ σ'.dec = [] := by
      intro σ1 x hE hH hd g hdst hwp hnw hN hK
      obtain ⟨xs, σ', tr, hJ, hall, hdec'⟩ := drawOps_tr rest _ _ hK (dec_put hd)
      rw [look_put.1, look_put.2, hE, hH, obAt_setObs] at tr
      obtain ⟨h1, h2, _⟩ := setObs_at x.ups σ.heap
      refine ⟨x :: xs, σ', .cons g hdst hwp hnw h2 (fun p hp => ?_) tr, ?_, ?_, hdec'⟩
      · rw [hwp] at hp
        obtain ⟨y, hy, rfl⟩ := List.mem_map.1 hp
        exact h1 y hy
      · simpa using hJ
      · intro o' ho'
        rcases List.mem_cons.1 ho' with rfl | ho'
        · exact hN
        · exact hall o' ho'
    have exec : ∀ {σ1 : St} {gd : List Nat}, look σ1.env = look σ.env → σ1.heap = σ.heap → DecOk σ1 →
        (o.guard = none ∨ ∃ j want t, o.guard = some (j, want) ∧ nthDst ops.toList j = some t ∧ t ∈ gd ∧ look σ.env t = some (.v (.bool want))) →
        drawExec T N o gd σ1 (fun σ r => drawOps T N ops.toList rest (rs ++ [r]) σ J) →
        ∃ xs σ', Tr T ops (o :: rest) xs (look σ.env) (obAt σ.heap) σ.heap.length (look σ'.env) (obAt σ'.heap) σ'.heap.length ∧ J (rs ++ xs.map (·.r)) σ' ∧ (∀ o' ∈ o :: rest, dstB N o'.dst = true) ∧ σ'.dec = [] := by
      intro σ1 gd hE hH hd hg hx
      unfold drawExec at hx
      simp only [putK_eq, lenK_eq, recK_eq] at hx
      split at hx
      · rename_i hN hc
        obtain ⟨d, ups, nw, hnw, hdoes, hK⟩ := hx
        rw [hE, hH] at hdoes
        rw [hH] at hnw
        exact fin (x := ⟨⟨gd ++ opRds o.op, posAt σ1.env (opRds o.op), o.dst, ups.map (·.1)⟩, d, ups, nw⟩) hE hH hd (good_exec hdoes hg) rfl rfl hnw hN hK
      · rename_i hN hc
        obtain ⟨d, ups, nw, hJ, hnw, hdoes⟩ := opD_does hx
        rw [hE, hH] at hdoes
        obtain ⟨hK, hin⟩ := nwIn_out hJ
        exact fin (x := ⟨⟨gd ++ opRds o.op, posAt σ1.env (opRds o.op), o.dst, ups.map (·.1)⟩, d, ups, nw⟩) hE hH hd (good_exec hdoes hg) rfl rfl (fun p hp => ⟨by rw [hnw p hp, hH]; exact Nat.le_refl _, hin p hp⟩) hN hK
      · exact hx.elim
    have skip : ∀ {σ1 : St} {gd : List Nat} {j t : Nat} {want : Bool}, look σ1.env = look σ.env → σ1.heap = σ.heap → DecOk σ1 → o.guard = some (j, want) → nthDst ops.toList j = some t → t ∈ gd → Unw want (look σ.env t) →
        (match dstB N o.dst with | true => drawOps T N ops.toList rest (rs ++ [⟨gd, [], o.dst, []⟩]) (σ1.put o.dst (.v (.raw undef)) []) J | false => False) →
        ∃ xs σ', Tr T ops (o :: rest) xs (look σ.env) (obAt σ.heap) σ.heap.length (look σ'.env) (obAt σ'.heap) σ'.heap.length ∧ J (rs ++ xs.map (·.r)) σ' ∧ (∀ o' ∈ o :: rest, dstB N o'.dst = true) ∧ σ'.dec = [] := by
      intro σ1 gd j t want hE hH hd hg ht hmem hu hx
      split at hx
      · rename_i hN
        exact fin (x := ⟨⟨gd, [], o.dst, []⟩, .v (.raw undef), [], []⟩) hE hH hd (good_skip hg ht hmem hu) rfl rfl (by simp) hN hx
      · exact hx.elim
    simp only [drawOps, putK_eq] at h
    unfold drawGuard at h
    simp only [litK_eq] at h
    cases hg : o.guard with
    | none =>
      simp only [hg] at h
      exact exec rfl rfl hdec (.inl hg) h
    | some g =>
      obtain ⟨j, want⟩ := g
      simp only [hg] at h
      cases ht : nthDst ops.toList j with
      | none => simp only [ht] at h
      | some t =>
        simp only [ht] at h
        have both : ∀ (lit : Bool) (σ1 : St), look σ1.env = look σ.env → σ1.heap = σ.heap → DecOk σ1 → look σ.env t = some (.v (.bool lit)) →
            pickLit want lit (drawExec T N o [t] σ1 fun σ r => drawOps T N ops.toList rest (rs ++ [r]) σ J) (match dstB N o.dst with | true => drawOps T N ops.toList rest (rs ++ [⟨[t], [], o.dst, []⟩]) (σ1.put o.dst (.v (.raw undef)) []) J | false => False) →
            ∃ xs σ', Tr T ops (o :: rest) xs (look σ.env) (obAt σ.heap) σ.heap.length (look σ'.env) (obAt σ'.heap) σ'.heap.length ∧ J (rs ++ xs.map (·.r)) σ' ∧ (∀ o' ∈ o :: rest, dstB N o'.dst = true) ∧ σ'.dec = [] := by
          intro lit σ1 hE hH hd hl hp
          rcases pickLit_out hp with ⟨rfl, hA⟩ | ⟨hne, hB⟩
          · exact exec hE hH hd (.inr ⟨j, lit, t, hg, ht, by simp, hl⟩) hA
          · exact skip hE hH hd hg ht (by simp) (.inl ⟨lit, hl, hne⟩) hB
        cases hl : look σ.dec t with
        | some lit =>
          simp only [hl] at h
          exact both lit σ rfl rfl hdec (hdec t lit hl) h
        | none =>
          simp only [hl] at h
          split at h
          · rename_i b hb
            cases b with
            | true => exact both true _ (look_lit hb) rfl (hdec.lit hb) hb (h.t rfl)
            | false => exact both false _ (look_lit hb) rfl (hdec.lit hb) hb (h.f rfl)
          · rename_i v hv
            obtain ⟨hnb, hB⟩ := rawK_out h
            exact skip rfl rfl hdec hg ht (by simp) (.inr ⟨v, hv, hnb⟩) hB
          · exact h.elim

/-! ##### every order -/
theorem draw_any {N : Nat} {ops : Array Oper} {xs : List Inst} {E0 E1 : Nat → Option D} {H0 H1 : Nat → Ob} {n0 n1 : Nat} (tr : Tr T ops ops.toList xs E0 H0 n0 E1 H1 n1) (he : edgesOk 0 ops.toList = true)
    (hc : chkAll [] (xs.map (·.r)) (ancs ops.toList []) = true) (hd : ∀ o ∈ ops.toList, dstB N o.dst = true) {C : Ctx} (hN : C.N = N) {Q : Exit → Act → World → Prop}
    (hQ : ∀ (a : Act) w X ρ, a.tmps.size = C.N → a.defers = [] → Real T.glob X ρ w E1 H1 a.tmps → Step (fun _ => True) C.X C.ρ C.w X ρ w → (∀ q, n1 ≤ q → ρ q = .hole) → Q .normal a w) :
    ∀ (fuel : Nat) (u : List Nat) (listed : Array Bool) (a : Act) (w : World) X ρ, listed.size = ops.size → u.length ≤ fuel → (∀ j, j < ops.size → listed.getD j false = false → j ∈ u) →
      (∀ (j : Nat) o, ops[j]? = some o → listed.getD j false = true → ∀ e ∈ o.after, Region.binds .any e = true → listed.getD e.on false = true) →
      a.tmps.size = C.N → a.defers = [] → Real T.glob X ρ w (selE (fun j => listed.getD j false) 0 xs E0) (selH (fun j => listed.getD j false) 0 xs H0) a.tmps → Step (fun _ => True) C.X C.ρ C.w X ρ w →
      (∀ q, n0 ≤ q → (∀ (j : Nat) y, listed.getD j false = true → xs[j]? = some y → q ∉ y.r.wp) → ρ q = .hole) → wpAny P .any ops Q fuel listed a w := by
  obtain ⟨hlen, hle, hE1, hH1, hwp, hat⟩ := tr.get
  have hlen' : ops.size = xs.length := by simpa using hlen
  have hw' : ∀ y ∈ xs, y.r.wp = y.ups.map (·.1) := fun y hy => (hwp y hy).1
  -- all are listed
  have all : ∀ (listed : Array Bool) (a : Act) (w : World) X ρ, (∀ j, j < ops.size → listed.getD j false = true) → a.tmps.size = C.N → a.defers = [] →
      Real T.glob X ρ w (selE (fun j => listed.getD j false) 0 xs E0) (selH (fun j => listed.getD j false) 0 xs H0) a.tmps → Step (fun _ => True) C.X C.ρ C.w X ρ w →
      (∀ q, n0 ≤ q → (∀ (j : Nat) y, listed.getD j false = true → xs[j]? = some y → q ∉ y.r.wp) → ρ q = .hole) → Q .normal a w := by
    intro listed a w X ρ hall h1 h2 r st hh
    rw [selE_congr (S' := fun _ => true) xs 0 (fun j hj => by rw [Nat.zero_add]; exact hall j (by omega)), selH_congr (S' := fun _ => true) xs 0 (fun j hj => by rw [Nat.zero_add]; exact hall j (by omega)), ← hE1, ← hH1] at r
    exact hQ a w X ρ h1 h2 r st fun q hq => hh q (by omega) fun j y _ hy hm => by
      have := (hwp y (List.mem_of_getElem? hy)).2 q hm
      omega
  -- the first that is not listed is ready
  have first : ∀ (listed : Array Bool), listed.size = ops.size → Region.ready .any ops listed = [] → ∀ n j, j < n → j < ops.size → listed.getD j false = true := by
    intro listed hs hr n
    induction n with
    | zero => intro j hj; omega
    | succ n ih =>
      intro j hj hjs
      by_cases hjn : j < n
      · exact ih j hjn hjs
      have hjn : j = n := by omega
      subst hjn
      cases hb : listed.getD j false with
      | true => rfl
      | false =>
        exfalso
        have : j ∈ Region.ready .any ops listed := by
          refine mem_ready.2 ⟨?_, ops[j], by simp [hjs], fun e hein hbd => ?_⟩
          · have : j < listed.size := by omega
            simp [this] at hb ⊢; exact hb
          · have := edgesOk_spec he j ops[j] (by simp [hjs]) e hein hbd
            exact ih e.on (by omega) (by omega)
        rw [hr] at this; cases this
  intro fuel
  induction fuel with
  | zero =>
    intro u listed a w X ρ hs hu hmem hdown h1 h2 r st hh
    have hu0 : u = [] := List.length_eq_zero_iff.1 (by omega)
    subst hu0
    have hall : ∀ j, j < ops.size → listed.getD j false = true := by
      intro j hj
      cases hb : listed.getD j false with
      | true => rfl
      | false => exact absurd (hmem j hj hb) (by simp)
    refine ⟨?_, all listed a w X ρ hall h1 h2 r st hh⟩
    cases hr : Region.ready .any ops listed with
    | nil => rfl
    | cons j l =>
      exfalso
      have hj : j ∈ Region.ready .any ops listed := by rw [hr]; exact List.mem_cons_self
      obtain ⟨h0, o, ho, _⟩ := mem_ready.1 hj
      have hjs : j < ops.size := (Array.getElem?_eq_some_iff.1 ho).1
      have := hall j hjs
      have hjl : j < listed.size := by omega
      simp [hjl] at h0 this
      rw [h0] at this; cases this
  | succ fuel ih =>
    intro u listed a w X ρ hs hu hmem hdown h1 h2 r st hh
    refine ⟨fun hr => all listed a w X ρ (fun j hj => first listed hs hr (j + 1) j (by omega) hj) h1 h2 r st hh, ?_⟩
    intro i hi
    obtain ⟨h0, o, ho, hedge⟩ := mem_ready.1 hi
    have his : i < ops.size := (Array.getElem?_eq_some_iff.1 ho).1
    have hil : i < listed.size := by omega
    have hout : listed.getD i false = false := by simp [hil] at h0 ⊢; exact h0
    obtain ⟨x, hx, hxd, hg, hn⟩ := hat i o (by simpa using ho)
    have hs' : ∀ j, (listed.setIfInBounds i true).getD j false = if j = i then true else listed.getD j false := by
      intro j
      by_cases hji : j = i
      · subst hji; simp [hil]
      · rw [if_neg hji, getD_set_ne false (Ne.symm hji)]
    have anc : ∀ (S : Nat → Prop), (∀ (j : Nat) o, ops[j]? = some o → S j → ∀ e ∈ o.after, Region.binds .any e = true → S e.on) → ∀ (i j : Nat) a b, i < j → xs[i]? = some a → xs[j]? = some b → confl a.r b.r = true → S j → S i := by
      intro S hS i j a b hij ha hb hcf hSj
      have hjl : j < (ancs ops.toList []).length := by
        rw [ancs_length]
        have := (List.getElem?_eq_some_iff.1 hb).1
        simp; omega
      have hm := chkAll_spec (ms0 := []) hc rfl (by simp) i j a.r b.r (ancs ops.toList [])[j] hij (by simp [ha]) (by simp [hb]) (by simp [hjl]) hcf
      exact ancs_spec ops.toList [] S (by simp) (fun j o hj hSj e he hb => hS j o (by simpa using hj) (by simpa using hSj) e he hb) j hjl hSj i hm
    have fits : Fits xs (fun j => listed.getD j false) i x := by
      refine ⟨hx, hout, fun j y hj hy hcf => ?_, fun j y hj hy hcf => ?_⟩
      · have := anc (fun j => listed.getD j false = true ∨ j = i) (fun j o' ho' hS e he hb => by
          rcases hS with hS | rfl
          · exact .inl (hdown j o' ho' hS e he hb)
          · rw [ho] at ho'; injection ho' with ho'; subst ho'
            exact .inl (hedge e he hb)) j i y x hj hy hx hcf (.inr rfl)
        rcases this with h | h
        · exact h
        · omega
      · cases hb : listed.getD j false with
        | false => rfl
        | true =>
          have := anc (fun j => listed.getD j false = true) hdown i j x y hj hx hy hcf hb
          rw [hout] at this; cases this
    unfold wpOp
    rw [ho]
    refine hg _ _ (fun t ht => fits.readE E0 ht) (fun p hp => fits.readH hw' H0 hp) X ρ w a Q _ r (fun p hp => ?_) ?_
    · obtain ⟨n1', n2', n3'⟩ := hn p hp
      refine hh p n1' fun j y hj hy hm => ?_
      by_cases hji : j < i
      · exact n3' j y hji hy hm
      · have hne : j ≠ i := fun e => by subst e; rw [hout] at hj; cases hj
        have := fits.behind j y (by omega) hy (confl_wp_wp n2' hm)
        rw [hj] at this; cases this
    · intro v w' X' ρ' st' hdc hob
      refine ih (u.erase i) _ _ _ X' ρ' (by simpa using hs) ?_ ?_ ?_ ?_ ?_ ?_ (Step.trans st st' C.mem) ?_
      · have := List.length_erase_of_mem (hmem i his hout)
        have := List.length_pos_of_mem (hmem i his hout)
        omega
      · intro j hj hb
        rw [hs'] at hb
        by_cases hji : j = i
        · rw [if_pos hji] at hb; cases hb
        · rw [if_neg hji] at hb
          exact (List.mem_erase_of_ne hji).2 (hmem j hj hb)
      · intro j o' ho' hj e hein hbd
        rw [hs'] at hj ⊢
        by_cases hei : e.on = i
        · rw [if_pos hei]
        · rw [if_neg hei]
          by_cases hji : j = i
          · subst hji; rw [ho] at ho'; injection ho' with ho'; subst ho'
            exact hedge e hein hbd
          · rw [if_neg hji] at hj; exact hdown j o' ho' hj e hein hbd
      · cases o.dst <;> simp [Act.put, h1]
      · cases o.dst <;> simp [Act.put, h2]
      · have := Real.step r st' o.dst hdc (fun t ht => by rw [h1, hN]; exact dstB_lt (hd o (by simpa using Array.mem_of_getElem? ho)) t ht) (H' := updH (selH (fun j => listed.getD j false) 0 xs H0) x.ups) (fun p => ⟨fun hp => ?_, fun hp => updH_out hp⟩)
        · rw [fits.addE E0 hs', fits.addH hw' H0 hs', hxd]; exact this
        · obtain ⟨_, y, hy, e1, e2⟩ := updH_in (H := selH (fun j => listed.getD j false) 0 xs H0) (H' := fun _ => .gone) hp
          rw [e2, ← e1]; exact hob y hy
      · intro q hq hno
        have h3 : q ∉ x.ups.map (·.1) := by
          rw [← hw' x (List.mem_of_getElem? hx)]
          exact hno i x (by rw [hs', if_pos rfl]) hx
        rw [st'.same q h3]
        refine hh q hq fun j y hj hy => hno j y ?_ hy
        rw [hs']; split
        · rfl
        · exact hj
theorem Real.drew {G : Nat → Option (List V)} {X : Nat → Prop} {ρ : Nat → Slot} {w : World} {E : Nat → Option D} {H : Nat → Ob} {tmps : Array Value} (r : Real G X ρ w E H tmps) (n : Nat) : Real G X ρ (w.drewN n) E H tmps := by
  have s : Step (fun _ => False) X ρ w X ρ (w.drewN n) := Step.drew r.mem n
  refine ⟨fun g cs h => VCell.keep (s.keeps r.mem) _ _ (r.glob g cs h), s.mem, fun t d h => ?_, fun p => (r.obs p).keep s r.mem (fun h => h)⟩
  obtain ⟨v, hv, hd⟩ := r.env t d h
  exact ⟨v, hv, DCell.keep (s.keeps r.mem) s.slots _ _ hd⟩
attribute [local semireducible] WpD in
theorem WpD.draw {m N : Nat} {σ : St} {Q : Exit → St → Prop} {id : Nat} {ops : Array Oper} (h : endK σ fun σ => drawR T N ops.toList ops.toList [] σ (drawEnd ops.toList (Q .normal))) : WpD T m N (.region id ops true) σ Q := by
  intro C hN hm a w c
  rw [endK_eq, drawR_eq] at h
  obtain ⟨xs, σ', tr, hJ, hall, hdec⟩ := drawOps_tr ops.toList [] _ h (fun t b ht => by simp [look] at ht)
  obtain ⟨hb, hJ⟩ := hJ
  obtain ⟨he, hc⟩ := endB_eq hb
  · refine wp_region_any T.mixed ?_
    obtain ⟨X, ρ, r, st, hh⟩ := c.real
    have z1 : selE (fun j => (Array.replicate ops.size false).getD j false) 0 xs (look σ.env) = look σ.env := by
      funext t; exact selE_none _ _ _ (fun j x hj _ => by simp [Array.getElem?_replicate]; split <;> rfl)
    have z2 : selH (fun j => (Array.replicate ops.size false).getD j false) 0 xs (obAt σ.heap) = obAt σ.heap := by
      funext t; exact selH_none _ _ _ (fun j x hj _ => by simp [Array.getElem?_replicate]; split <;> rfl)
    have st' := Step.trans st (Step.drew (fp := fun _ => False) r.mem 1) C.mem
    refine draw_any tr he (by simpa using hc) hall hN ?_ ops.size (List.range ops.size) (Array.replicate ops.size false) a _ X ρ (by simp) (by simp) (fun j hj _ => by simpa using hj) ?_ c.size c.defers ?_ st' ?_
    · intro a w X ρ h1 h2 r st hh
      exact ⟨σ', ⟨h1, h2, fun t b ht => by rw [hdec] at ht; simp [look] at ht, X, ρ, r, st, hh⟩, hJ⟩
    · intro j o ho hj
      exfalso
      simp [Array.getElem?_replicate] at hj
      split at hj <;> simp at hj
    · rw [z1, z2]
      exact r.drew 1
    · intro q hq hno
      exact hh q hq
end
end Go.DL
