import Derived.Test.YtpdnnndedejlhaaGreatWV4
import Derived.Below
import Derived.ChangeArms
import Derived.ChangeSlices
import Derived.ChangeOld
import Derived.DataElems
import Derived.Sort.Row
import Derived.Sort.Grow
/- A reader of function bodies in plain values, part 5. -/
/- A region that draws, in its own order: the records. -/
namespace Go.Proofs.YtpdnnndedejlhaaGreatV
open Go
set_option linter.unusedVariables false
set_option linter.unusedSimpArgs false
variable {U : Uni} {P : Program} {R : Type}
structure RD (D : Nat → Type) where
  x : Rc D
  n : DR
def LY (l : List (RD U.D)) (s : St U.D) : St U.D := lay (l.map (·.x)) s
theorem LY_cons (y : RD U.D) (l : List (RD U.D)) (s : St U.D) : LY (y :: l) s = LY l (y.x.app s) := rfl
theorem LY_app (l k : List (RD U.D)) (s : St U.D) : LY (l ++ k) s = LY k (LY l s) := by simp [LY, lay_app]
theorem LY_len (l : List (RD U.D)) (s : St U.D) : (LY l s).t.length = s.t.length := lay_len _ _
theorem lget_put (s : St U.D) (d : Option Nat) (c : VV U.D) (j : Nat) : lget (s.put d c).t j = if d = some j ∧ j < s.t.length then c else lget s.t j := by
  simp only [lget, List.getD_eq_getElem?_getD, put_get]
  split <;> rfl
theorem lget_app (x : Rc U.D) (s : St U.D) (j : Nat) : lget (x.app s).t j = if x.dst = some j ∧ j < s.t.length then x.v else lget s.t j := lget_put _ _ _ _
def SimV (c c' : VV U.D) : Prop := c = c' ∨ ∃ b, boolOf c = some b ∧ boolOf c' = some b
theorem SimV.symm {c c' : VV U.D} (h : SimV c c') : SimV c' c := by
  rcases h with rfl | ⟨b, h1, h2⟩
  · exact .inl rfl
  · exact .inr ⟨b, h2, h1⟩
theorem men_bool {c : VV U.D} {b : Bool} (h : boolOf c = some b) : men c = [] := by
  cases c <;> first | rfl | cases h
theorem SimV.men {c c' : VV U.D} (h : SimV c c') : men c = men c' := by
  rcases h with rfl | ⟨b, h1, h2⟩
  · rfl
  · rw [men_bool h1, men_bool h2]
theorem SimV.bool {c c' : VV U.D} (h : SimV c c') {b : Bool} (hb : boolOf c = some b) : boolOf c' = some b := by
  rcases h with rfl | ⟨b', h1, h2⟩
  · exact hb
  · rw [h1] at hb; cases hb; exact h2
theorem SimV.und {c c' : VV U.D} (h : SimV c c') : isUnd c = isUnd c' := by
  have key : ∀ {c : VV U.D} {b : Bool}, boolOf c = some b → isUnd c = false := by
    intro c b h
    cases c <;> first | rfl | cases h
  rcases h with rfl | ⟨b, h1, h2⟩
  · rfl
  · rw [key h1, key h2]
structure Sim (c s : St U.D) : Prop where
  m : c.m = s.m
  n : c.t.length = s.t.length
  t : ∀ i : Nat, SimV (lget c.t i) (lget s.t i)
theorem Sim.rfl' (s : St U.D) : Sim s s := ⟨rfl, rfl, fun _ => .inl rfl⟩
theorem Sim.symm {c s : St U.D} (h : Sim c s) : Sim s c := ⟨h.m.symm, h.n.symm, fun i => (h.t i).symm⟩
theorem Sim.app {c s : St U.D} (h : Sim c s) (x : Rc U.D) : Sim (x.app c) (x.app s) where
  m := by rw [app_m, app_m, h.m]
  n := by rw [app_len, app_len, h.n]
  t i := by
    rw [lget_app, lget_app, h.n]
    split
    · exact .inl rfl
    · exact h.t i
theorem Sim.know {c s : St U.D} (h : Sim c s) {i : Nat} {b : Bool} (hb : boolOf (lget s.t i) = some b) : Sim (c.put (some i) (.lit b)) s where
  m := h.m
  n := by rw [put_len, h.n]
  t j := by
    rw [lget_put]
    split
    · rename_i e
      obtain ⟨e, -⟩ := e
      cases e
      exact .inr ⟨b, rfl, hb⟩
    · exact h.t j
theorem lget_some {t : List (VV U.D)} {i : Nat} {c : VV U.D} (h : t[i]? = some c) : lget t i = c := by simp [lget, List.getD_eq_getElem?_getD, h]
theorem Rel.sim {C : Fr} {L : Lc} {s c : St U.D} {a : Act} {w : World} (hR : Rel U C L s a w) (h : Sim c s) : Rel U C L c a w where
  toMRel := by rw [h.m]; exact hR.toMRel
  sz := hR.sz.trans h.n.symm
  tm i x v hx hv := by
    have hi : i < s.t.length := by rw [← h.n]; exact idx_lt hx
    have hy : s.t[i]? = some s.t[i] := List.getElem?_eq_getElem hi
    have ht := h.t i
    rw [lget_some hx, lget_some hy] at ht
    have hr := hR.tm i _ v hy hv
    rcases ht with e | ⟨b, h1, h2⟩
    · rw [e]; exact hr
    · rw [hr.bool_inv h2]; exact .leaf (.bool h1)
  df := hR.df
  fx := hR.fx
theorem newOk_of {s : St U.D} {u : Upd U.D} (h : ∀ κ, κ ∈ frU s.m u → κ ∉ menL s.t ∧ κ ∉ menM s.m) : newOk s u = true := by
  induction u with
  | nil => rfl
  | cons p u ih =>
    obtain ⟨κ, b⟩ := p
    cases b with
    | none => simp only [newOk]; exact ih h
    | some b =>
      simp only [newOk, frU] at h ⊢
      cases hm : mget s.m κ with
      | some b' =>
        rw [hm] at h
        simp only [Bool.true_and]
        exact ih h
      | none =>
        rw [hm] at h
        simp only at h ⊢
        rw [Bool.and_eq_true]
        refine ⟨?_, ih fun q hq => h q (List.mem_cons_of_mem _ hq)⟩
        obtain ⟨h1, h2⟩ := h κ List.mem_cons_self
        have e1 : hasK κ (menL s.t) = false := by
          cases e : hasK κ (menL s.t) with
          | false => rfl
          | true => exact absurd (hasK_iff.1 e) h1
        have e2 : hasK κ (menM s.m) = false := by
          cases e : hasK κ (menM s.m) with
          | false => rfl
          | true => exact absurd (hasK_iff.1 e) h2
        simp [e1, e2]
theorem frU_same {m m' : Mem U.D} (u : Upd U.D) (h : ∀ κ ∈ keysU u, mget m' κ = mget m κ) : frU m' u = frU m u := by
  induction u with
  | nil => rfl
  | cons p u ih =>
    obtain ⟨κ, b⟩ := p
    have ih := ih fun q hq => h q (by simp only [keysU]; exact List.mem_cons_of_mem _ hq)
    cases b with
    | none => simpa only [frU] using ih
    | some b => simp only [frU, ih, h κ (by simp [keysU])]
structure Ran (E : Nat → List (Con U)) (o : Oper) (c : St U.D) (y : RD U.D) : Prop where
  rd : y.n.rd = rdO o.op c.m (o.op.operands.toList.map (ev c.t))
  ou : outR y.n.d (keysM c.m) = true
  go : ∀ (R' : Type) (K' : VV U.D → Upd U.D → Option R'), Vop U E o.op y.n.d (ev c.t) (restr y.n.rd c.m) K' = K' y.x.v y.x.u
def Wants (ops : Array Oper) (i : Nat) (o : Oper) (s : St U.D) (yes : Bool) : Prop := match o.guard with
  | none => yes = true
  | some (g, want) => ∃ d, (ops[g]?).bind (·.dst) = some d ∧ anc ops ops.size i g = true ∧ ((∃ b, boolOf (lget s.t d) = some b ∧ (b == want) = yes) ∨ (isUnd (lget s.t d) = true ∧ yes = false))
structure StepOk (E : Nat → List (Con U)) (ops : Array Oper) (M0 : List Nat) (s0 : St U.D) (pre : List (RD U.D)) (y : RD U.D) (o : Oper) (c : St U.D) : Prop where
  op : ops[pre.length]? = some o
  ds : y.x.dst = o.dst
  i : y.n.i = pre.length
  d : y.n.d = o.dst.getD 1000
  wr : y.n.wr = keysU y.x.u
  fr : y.n.fr = frU c.m y.x.u
  mn : y.n.mn = men y.x.v ++ menU y.x.u
  m0 : disj y.n.fr M0 = true
  ck : ∀ z ∈ pre, chk1 ops y.n z.n = true
  sm : Sim c (LY pre s0)
  ra : (Wants ops pre.length o (LY pre s0) true ∧ Ran E o c y) ∨ (Wants ops pre.length o (LY pre s0) false ∧ y.x.v = .tup [] ∧ y.x.u = [])
theorem chkD_inv {ops : Array Oper} {n : DR} : ∀ (l : List DR), chkD ops n l = true → ∀ r ∈ l, chk1 ops n r = true
  | [], _, r, hr => by simp at hr
  | x :: xs, h, r, hr => by
    simp only [chkD, Bool.and_eq_true] at h
    rcases List.mem_cons.1 hr with rfl | hr
    · exact h.1
    · exact chkD_inv xs h.2 r hr
theorem Vdr_run {E : Nat → List (Con U)} {ops : Array Oper} {K : St U.D → Option R} {M0 : List Nat} {s0 : St U.D} {r : R} : ∀ (os : List Oper) (pre : List (RD U.D)) (c : St U.D), ops.toList.drop pre.length = os → Sim c (LY pre s0) → Vdr U E ops K M0 (pre.reverse.map (·.n)) pre.length os c = some r →
    ∃ l c', l.length = os.length ∧ K c' = some r ∧ Sim c' (LY (pre ++ l) s0) ∧ ∀ l1 y l2, l = l1 ++ y :: l2 → ∃ o c, StepOk E ops M0 s0 (pre ++ l1) y o c
  | [], pre, c, hd, hs, h => ⟨[], c, rfl, h, by simpa using hs, fun l1 y l2 e => by cases l1 <;> cases e⟩
  | o :: os, pre, c, hd, hs, h => by
    have hi : ops[pre.length]? = some o := by
      have := congrArg (fun l => l[0]?) hd
      simpa using this
    have hd' : ops.toList.drop (pre.length + 1) = os := by
      rw [← List.drop_drop, hd]; rfl
    have next : ∀ (y : RD U.D) (c2 : St U.D), StepOk E ops M0 s0 pre y o c2 → Vdr U E ops K M0 (y.n :: pre.reverse.map (·.n)) (pre.length + 1) os (y.x.app c2) = some r →
        ∃ l c', l.length = (o :: os).length ∧ K c' = some r ∧ Sim c' (LY (pre ++ l) s0) ∧ ∀ l1 y l2, l = l1 ++ y :: l2 → ∃ o c, StepOk E ops M0 s0 (pre ++ l1) y o c := by
      intro y c2 hy h
      obtain ⟨l, c', h1, h2, h3, h4⟩ := Vdr_run os (pre ++ [y]) (y.x.app c2) (by simpa using hd') (by rw [LY_app]; exact hy.sm.app _) (by simpa using h)
      refine ⟨y :: l, c', by simp [h1], h2, by simpa using h3, fun l1 z l2 e => ?_⟩
      cases l1 with
      | nil =>
        simp only [List.nil_append, List.cons.injEq] at e
        obtain ⟨rfl, -⟩ := e
        exact ⟨o, c2, by simpa using hy⟩
      | cons w l1 =>
        simp only [List.cons_append, List.cons.injEq] at e
        obtain ⟨rfl, e⟩ := e
        simpa using h4 l1 z l2 e
    have ckd : ∀ n : DR, chkD ops n (pre.reverse.map (·.n)) = true → ∀ z ∈ pre, chk1 ops n z.n = true := fun n hn z hz => chkD_inv _ hn z.n (List.mem_map.2 ⟨z, by simpa using hz, rfl⟩)
    have go : ∀ c2 : St U.D, Sim c2 (LY pre s0) → Wants ops pre.length o (LY pre s0) true → (bif outR (o.dst.getD 1000) (keysM c2.m) then
        Vop U E o.op (o.dst.getD 1000) (ev c2.t) (restr (rdO o.op c2.m (o.op.operands.toList.map (ev c2.t))) c2.m) fun v u =>
          bif disj (frU c2.m u) M0 && chkD ops ⟨pre.length, o.dst.getD 1000, rdO o.op c2.m (o.op.operands.toList.map (ev c2.t)), keysU u, frU c2.m u, men v ++ menU u⟩ (pre.reverse.map (·.n)) then Vdr U E ops K M0 (⟨pre.length, o.dst.getD 1000, rdO o.op c2.m (o.op.operands.toList.map (ev c2.t)), keysU u, frU c2.m u, men v ++ menU u⟩ :: pre.reverse.map (·.n)) (pre.length + 1) os ({ c2 with m := mupd c2.m u }.put o.dst v) else none
      else none) = some r → ∃ l c', l.length = (o :: os).length ∧ K c' = some r ∧ Sim c' (LY (pre ++ l) s0) ∧ ∀ l1 y l2, l = l1 ++ y :: l2 → ∃ o c, StepOk E ops M0 s0 (pre ++ l1) y o c := by
      intro c2 hs2 hw h
      cases ho : outR (o.dst.getD 1000) (keysM c2.m) with
      | false => rw [ho] at h; cases h
      | true =>
        rw [ho] at h
        simp only [cond_true] at h
        obtain ⟨v, u, hv⟩ := Vop_par h
        rw [hv] at h
        cases hc : (disj (frU c2.m u) M0 && chkD ops ⟨pre.length, o.dst.getD 1000, rdO o.op c2.m (o.op.operands.toList.map (ev c2.t)), keysU u, frU c2.m u, men v ++ menU u⟩ (pre.reverse.map (·.n))) with
        | false => rw [hc] at h; cases h
        | true =>
          rw [hc] at h
          simp only [cond_true] at h
          rw [Bool.and_eq_true] at hc
          exact next ⟨⟨pre.length, o.dst, v, u⟩, ⟨pre.length, o.dst.getD 1000, rdO o.op c2.m (o.op.operands.toList.map (ev c2.t)), keysU u, frU c2.m u, men v ++ menU u⟩⟩ c2
            ⟨hi, rfl, rfl, rfl, rfl, rfl, rfl, hc.1, ckd _ hc.2, hs2, .inl ⟨hw, rfl, ho, hv⟩⟩ h
    simp only [Vdr] at h
    cases hg : o.guard with
    | none =>
      rw [hg] at h
      exact go c hs (by simp [Wants, hg]) h
    | some jw =>
      obtain ⟨g, want⟩ := jw
      rw [hg] at h
      simp only at h
      cases hj : (ops[g]?).bind (·.dst) with
      | none => rw [hj] at h; cases h
      | some t =>
        rw [hj] at h
        simp only at h
        cases ha : anc ops ops.size pre.length g with
        | false => rw [ha] at h; cases h
        | true =>
          rw [ha] at h
          simp only [cond_true] at h
          have skip : ∀ c2 : St U.D, Sim c2 (LY pre s0) → Wants ops pre.length o (LY pre s0) false → (bif chkD ops (skD pre.length o) (pre.reverse.map (·.n)) then Vdr U E ops K M0 (skD pre.length o :: pre.reverse.map (·.n)) (pre.length + 1) os (c2.put o.dst (.tup [])) else none) = some r →
              ∃ l c', l.length = (o :: os).length ∧ K c' = some r ∧ Sim c' (LY (pre ++ l) s0) ∧ ∀ l1 y l2, l = l1 ++ y :: l2 → ∃ o c, StepOk E ops M0 s0 (pre ++ l1) y o c := by
            intro c2 hs2 hw h2
            cases hc : chkD ops (skD pre.length o) (pre.reverse.map (·.n)) with
            | false => rw [hc] at h2; cases h2
            | true =>
              rw [hc] at h2
              exact next ⟨⟨pre.length, o.dst, .tup [], []⟩, skD pre.length o⟩ c2 ⟨hi, rfl, rfl, rfl, rfl, rfl, by simp [skD, men, menL, menU], rfl, ckd _ hc, hs2, .inr ⟨hw, rfl, rfl⟩⟩ h2
          cases hu : isUnd (lget c.t t) with
          | true =>
            rw [hu] at h
            simp only [cond_true] at h
            exact skip c hs (by unfold Wants; rw [hg]; exact ⟨t, hj, ha, .inr ⟨by rw [← (hs.t t).und]; exact hu, rfl⟩⟩) h
          | false =>
          rw [hu] at h
          simp only [cond_false] at h
          obtain ⟨b, hb, h⟩ := vcond_inv h
          have hb' := (hs.t t).bool hb
          have hs2 : Sim (c.put (some t) (.lit b)) (LY pre s0) := hs.know hb'
          have hw : Wants ops pre.length o (LY pre s0) (b == want) := by simp only [Wants, hg]; exact ⟨t, hj, ha, .inl ⟨b, hb', rfl⟩⟩
          cases hbw : (b == want) with
          | true =>
            rw [hbw] at hw
            refine go _ hs2 hw ?_
            cases b <;> simp only [if_true, Bool.false_eq_true, if_false] at h <;> rw [hbw] at h <;> simpa using h
          | false =>
            rw [hbw] at hw
            refine skip _ hs2 hw ?_
            cases b <;> simp only [if_true, Bool.false_eq_true, if_false] at h <;> rw [hbw] at h <;> simpa using h
end Go.Proofs.YtpdnnndedejlhaaGreatV
/- A region that draws: one operation, at a set of operations that are done. -/
namespace Go.Proofs.YtpdnnndedejlhaaGreatV
open Go
set_option linter.unusedVariables false
set_option linter.unusedSimpArgs false
variable {U : Uni} {P : Program} {R : Type}
theorem outR_inv {d : Nat} : ∀ (l : List Nat), outR d l = true → ∀ κ ∈ l, 64 * d ≤ κ → κ < 64 * d + 64 → False
  | [], _, κ, h, _, _ => by simp at h
  | q :: r, h, κ, hk, h1, h2 => by
    simp only [outR, Bool.and_eq_true, Bool.or_eq_true] at h
    rcases List.mem_cons.1 hk with rfl | hk
    · rcases h.1 with e | e
      · have := Nat.le_of_ble_eq_true e; omega
      · have := Nat.le_of_ble_eq_true e; omega
    · exact outR_inv r h.2 κ hk h1 h2
theorem keysM_of {m : Mem U.D} {κ : Nat} {b : Blk U.D} (h : mget m κ = some b) : κ ∈ keysM m := by
  induction m with
  | nil => cases h
  | cons p m ih =>
    obtain ⟨q, b'⟩ := p
    simp only [mget] at h
    cases e : Nat.beq q κ with
    | true => have := Nat.eq_of_beq_eq_true e; subst this; simp [keysM]
    | false => rw [e] at h; simp only [keysM]; exact List.mem_cons_of_mem _ (ih h)
theorem LY_skip_m (κ : Nat) : ∀ (l : List (RD U.D)) (s : St U.D), (∀ z ∈ l, κ ∉ keysU z.x.u) → mget (LY l s).m κ = mget s.m κ
  | [], s, _ => rfl
  | z :: l, s, h => by
    rw [LY_cons, LY_skip_m κ l _ (fun y hy => h y (List.mem_cons_of_mem _ hy)), app_m, mget_upd_other _ _ _ (h z List.mem_cons_self)]
theorem LY_skip_t (i : Nat) : ∀ (l : List (RD U.D)) (s : St U.D), (∀ z ∈ l, z.x.dst ≠ some i) → lget (LY l s).t i = lget s.t i
  | [], s, _ => rfl
  | z :: l, s, h => by
    rw [LY_cons, LY_skip_t i l _ (fun y hy => h y (List.mem_cons_of_mem _ hy)), lget_app, if_neg (fun e => h z List.mem_cons_self e.1)]
theorem LY_fil_m (p : RD U.D → Bool) (κ : Nat) : ∀ (l : List (RD U.D)) (s s' : St U.D), (∀ z ∈ l, p z = false → κ ∉ keysU z.x.u) → mget s'.m κ = mget s.m κ → mget (LY (l.filter p) s').m κ = mget (LY l s).m κ
  | [], s, s', _, h => h
  | z :: l, s, s', hz, h => by
    have ih := fun s s' => LY_fil_m p κ l s s' (fun y hy => hz y (List.mem_cons_of_mem _ hy))
    cases hp : p z with
    | true =>
      rw [List.filter_cons_of_pos hp, LY_cons, LY_cons]
      exact ih _ _ (by rw [app_m, app_m]; exact mget_upd_same _ _ _ _ (.inr h))
    | false =>
      rw [List.filter_cons_of_neg (by simp [hp]), LY_cons]
      exact ih _ _ (by rw [app_m, mget_upd_other _ _ _ (hz z List.mem_cons_self hp)]; exact h)
theorem LY_fil_t (p : RD U.D → Bool) (i : Nat) : ∀ (l : List (RD U.D)) (s s' : St U.D), (∀ z ∈ l, p z = false → z.x.dst ≠ some i) → s'.t.length = s.t.length → lget s'.t i = lget s.t i → lget (LY (l.filter p) s').t i = lget (LY l s).t i
  | [], s, s', _, _, h => h
  | z :: l, s, s', hz, hn, h => by
    have ih := fun s s' => LY_fil_t p i l s s' (fun y hy => hz y (List.mem_cons_of_mem _ hy))
    cases hp : p z with
    | true =>
      rw [List.filter_cons_of_pos hp, LY_cons, LY_cons]
      exact ih _ _ (by rw [app_len, app_len, hn]) (by rw [lget_app, lget_app, hn, h])
    | false =>
      rw [List.filter_cons_of_neg (by simp [hp]), LY_cons]
      exact ih _ _ (by rw [app_len, hn]) (by rw [lget_app, if_neg (fun e => hz z List.mem_cons_self hp e.1)]; exact h)
section
variable {ops : Array Oper} {D : Nat → Bool}
def Down (ops : Array Oper) (D : Nat → Bool) : Prop := ∀ (i : Nat) (o : Oper), ops[i]? = some o → D i = true → ∀ e ∈ o.after.toList, Region.binds .any e = true → D e.on = true
theorem anc_down (hd : Down ops D) : ∀ (k j i : Nat), anc ops k j i = true → D j = true → D i = true
  | 0, j, i, h, _ => by simp [anc] at h
  | k + 1, j, i, h, hj => by
    simp only [anc] at h
    cases ho : ops[j]? with
    | none => rw [ho] at h; cases h
    | some o =>
      rw [ho] at h
      simp only [List.any_eq_true, Bool.and_eq_true, Bool.or_eq_true] at h
      obtain ⟨e, he, hb, h⟩ := h
      have hon := hd j o ho hj e he hb
      rcases h with h | h
      · rw [← Nat.eq_of_beq_eq_true h]; exact hon
      · exact anc_down hd k e.on i h hon
theorem anc_ready (hd : Down ops D) {j : Nat} {o : Oper} (ho : ops[j]? = some o) (hr : ∀ e ∈ o.after.toList, Region.binds .any e = true → D e.on = true) : ∀ (k i : Nat), anc ops k j i = true → D i = true
  | 0, i, h => by simp [anc] at h
  | k + 1, i, h => by
    simp only [anc, ho, List.any_eq_true, Bool.and_eq_true, Bool.or_eq_true] at h
    obtain ⟨e, he, hb, h⟩ := h
    have hon := hr e he hb
    rcases h with h | h
    · rw [← Nat.eq_of_beq_eq_true h]; exact hon
    · exact anc_down hd k e.on i h hon
theorem aparts_inv {i j : Nat} {x y : Oper} (h : aparts ops i j = true) (hx : ops[i]? = some x) (hy : ops[j]? = some y) :
    (∀ d, x.dst = some d → d ∉ y.looksAt ops) ∧ (∀ d, x.dst = some d → y.dst ≠ some d) ∧ (∀ d, y.dst = some d → d ∉ x.looksAt ops) := by
  simp only [aparts, hx, hy, Bool.and_eq_true] at h
  exact Oper.apart_spec h.1
structure Un (ops : Array Oper) (o : Oper) (y z : RD U.D) : Prop where
  rd : ∀ κ ∈ y.n.rd, κ ∉ keysU z.x.u
  wr : ∀ κ ∈ keysU y.x.u, κ ∉ keysU z.x.u
  rg : ∀ κ, 64 * y.n.d ≤ κ → κ < 64 * y.n.d + 64 → κ ∉ keysU z.x.u
  lk : ∀ t, z.x.dst = some t → t ∉ o.looksAt ops
  ds : ∀ t, y.x.dst = some t → z.x.dst ≠ some t
variable {y z : RD U.D} {o oz : Oper}
theorem chk1_fr (h : chk1 ops y.n z.n = true) : ∀ κ ∈ y.n.fr, κ ∉ z.n.mn := by
  simp only [chk1, Bool.and_eq_true] at h
  exact disj_inv _ _ h.1
theorem un_early (h : chk1 ops y.n z.n = true) (na : anc ops ops.size y.n.i z.n.i = false) (ho : ops[y.n.i]? = some o) (hoz : ops[z.n.i]? = some oz) (hd : y.x.dst = o.dst) (hdz : z.x.dst = oz.dst) (hw : y.n.wr = keysU y.x.u) (hwz : z.n.wr = keysU z.x.u) : Un ops o y z := by
  simp only [chk1, na, Bool.false_or, Bool.and_eq_true] at h
  obtain ⟨-, ⟨⟨⟨⟨⟨ha, h1⟩, h2⟩, h3⟩, h4⟩, h5⟩, h6⟩ := h
  rw [hwz] at h1 h2 h5
  rw [hw] at h2 h3 h6
  obtain ⟨a1, a2, a3⟩ := aparts_inv ha hoz ho
  exact ⟨fun κ hk hz => disj_inv _ _ h1 κ hz hk, fun κ hk hz => disj_inv _ _ h2 κ hz hk, fun κ l1 l2 hz => outR_inv _ h5 κ hz l1 l2, fun t ht => a1 t (hdz ▸ ht), fun t ht hz => a2 t (hdz ▸ hz) (hd ▸ ht)⟩
theorem un_late (h : chk1 ops z.n y.n = true) (na : anc ops ops.size z.n.i y.n.i = false) (ho : ops[y.n.i]? = some o) (hoz : ops[z.n.i]? = some oz) (hd : y.x.dst = o.dst) (hdz : z.x.dst = oz.dst) (hw : y.n.wr = keysU y.x.u) (hwz : z.n.wr = keysU z.x.u) : Un ops o y z ∧ ∀ κ ∈ y.n.fr, κ ∉ z.n.mn := by
  simp only [chk1, na, Bool.false_or, Bool.and_eq_true] at h
  obtain ⟨-, ⟨⟨⟨⟨⟨ha, h1⟩, h2⟩, h3⟩, h4⟩, h5⟩, h6⟩ := h
  rw [hwz] at h2 h3 h6
  rw [hw] at h1 h2 h5
  obtain ⟨a1, a2, a3⟩ := aparts_inv ha ho hoz
  exact ⟨⟨fun κ hk hz => disj_inv _ _ h3 κ hz hk, fun κ hk hz => disj_inv _ _ h2 κ hk hz, fun κ l1 l2 hz => outR_inv _ h6 κ hz l1 l2, fun t ht => a3 t (hdz ▸ ht), fun t ht hz => a2 t (hd ▸ ht) (hdz ▸ hz)⟩, disj_inv _ _ h4⟩
end
theorem lget_range (f : Nat → VV U.D) (n j : Nat) : lget ((List.range n).map f) j = if j < n then f j else .junk := by
  simp only [lget, List.getD_eq_getElem?_getD, List.getElem?_map]
  by_cases h : j < n
  · rw [if_pos h, List.getElem?_range h]; rfl
  · rw [if_neg h, List.getElem?_eq_none (by simpa using h)]; rfl
theorem lget_none {t : List (VV U.D)} {j : Nat} (h : ¬ j < t.length) : lget t j = .junk := by
  simp only [lget, List.getD_eq_getElem?_getD]
  rw [List.getElem?_eq_none (by omega)]; rfl
def SD (l : List (RD U.D)) (s0 : St U.D) (D : Nat → Bool) : St U.D := LY (l.filter fun z => D z.n.i) s0
theorem draw_step {C : Fr} {L : Lc} {a : Act} {w : World} {E : Nat → List (Con U)} {ops : Array Oper} {s0 : St U.D} {l : List (RD U.D)} {Q : Exit → Act → World → Prop} {K : Act → World → Prop} {D D' : Nat → Bool} (PL : Plaw P U) (hE : EnvOk P U E) (hops : ∀ o ∈ ops, opsOk o.op = true ∧ Free C o)
    (hl : ∀ l1 y l2, l = l1 ++ y :: l2 → ∃ o c, StepOk E ops (menL s0.t ++ menM s0.m) s0 l1 y o c) (hdn : Down ops D) {l1 : List (RD U.D)} {y : RD U.D} {l2 : List (RD U.D)} (hsp : l = l1 ++ y :: l2) (hi : D l1.length = false)
    (hrd : ∀ o, ops[l1.length]? = some o → ∀ e ∈ o.after.toList, Region.binds .any e = true → D e.on = true) (hD1 : ∀ j, j ≠ l1.length → D' j = D j) (hD2 : D' l1.length = true)
    (hR : Rel U C L (SD l s0 D) a w) (next : ∀ L' a' w', L'.kv = L.kv → Rel U C L' (SD l s0 D') a' w' → K a' w') : wpOp P ops Q l1.length K a w := by
  obtain ⟨o, c, hs⟩ := hl l1 y l2 hsp
  have hyi := hs.i
  have ho := hs.op
  obtain ⟨hok, hfree⟩ := hops o (Array.mem_of_getElem? ho)
  have hz1 : ∀ z ∈ l1, ∃ oz, ops[z.n.i]? = some oz ∧ z.x.dst = oz.dst ∧ z.n.wr = keysU z.x.u ∧ z.n.mn = men z.x.v ++ menU z.x.u ∧ z.n.i < l1.length := by
    intro z hz
    obtain ⟨b, e, rfl⟩ := List.append_of_mem hz
    obtain ⟨oz, cz, h⟩ := hl b z (e ++ y :: l2) (by rw [hsp]; simp)
    exact ⟨oz, by rw [h.i]; exact h.op, h.ds, h.wr, h.mn, by rw [h.i]; simp⟩
  have hz2 : ∀ z ∈ l2, ∃ oz, ops[z.n.i]? = some oz ∧ z.x.dst = oz.dst ∧ z.n.wr = keysU z.x.u ∧ z.n.mn = men z.x.v ++ menU z.x.u ∧ l1.length < z.n.i ∧ chk1 ops z.n y.n = true := by
    intro z hz
    obtain ⟨b, e, rfl⟩ := List.append_of_mem hz
    obtain ⟨oz, cz, h⟩ := hl (l1 ++ y :: b) z e (by rw [hsp]; simp)
    exact ⟨oz, by rw [h.i]; exact h.op, h.ds, h.wr, h.mn, by rw [h.i]; simp, h.ck y (by simp)⟩
  have un : ∀ z, (z ∈ l1 ∧ D z.n.i = false) ∨ (z ∈ l2 ∧ D z.n.i = true) → Un ops o y z ∧ ∀ κ ∈ y.n.fr, κ ∉ z.n.mn := by
    rintro z (⟨hz, hd⟩ | ⟨hz, hd⟩)
    · obtain ⟨oz, h1, h2, h3, h4, h5⟩ := hz1 z hz
      have ck := hs.ck z hz
      have na : anc ops ops.size y.n.i z.n.i = false := by
        cases e : anc ops ops.size y.n.i z.n.i with
        | false => rfl
        | true =>
          rw [hyi] at e
          have := anc_ready hdn ho (hrd o ho) _ _ e
          rw [hd] at this; cases this
      exact ⟨un_early ck na (by rw [hyi]; exact ho) h1 hs.ds h2 hs.wr h3, chk1_fr ck⟩
    · obtain ⟨oz, h1, h2, h3, h4, h5, ck⟩ := hz2 z hz
      have na : anc ops ops.size z.n.i y.n.i = false := by
        cases e : anc ops ops.size z.n.i y.n.i with
        | false => rfl
        | true =>
          rw [hyi] at e
          have := anc_down hdn _ _ _ e hd
          rw [hi] at this; cases this
      exact un_late ck na (by rw [hyi]; exact ho) h1 hs.ds h2 hs.wr h3
  have hfil : (l.filter fun z => D z.n.i) = (l1.filter fun z => D z.n.i) ++ l2.filter fun z => D z.n.i := by
    rw [hsp, List.filter_append, List.filter_cons_of_neg (by rw [hyi, hi]; simp)]
  have hm : ∀ κ, (∀ z, (z ∈ l1 ∧ D z.n.i = false) ∨ (z ∈ l2 ∧ D z.n.i = true) → κ ∉ keysU z.x.u) → mget (SD l s0 D).m κ = mget (LY l1 s0).m κ := by
    intro κ h
    unfold SD
    rw [hfil, LY_app, LY_skip_m κ _ _ (fun z hz => by have := List.mem_filter.1 hz; exact h z (.inr ⟨this.1, this.2⟩))]
    exact LY_fil_m _ κ l1 s0 s0 (fun z hz hd => h z (.inl ⟨hz, hd⟩)) rfl
  have ht : ∀ i, (∀ z, (z ∈ l1 ∧ D z.n.i = false) ∨ (z ∈ l2 ∧ D z.n.i = true) → z.x.dst ≠ some i) → lget (SD l s0 D).t i = lget (LY l1 s0).t i := by
    intro i h
    unfold SD
    rw [hfil, LY_app, LY_skip_t i _ _ (fun z hz => by have := List.mem_filter.1 hz; exact h z (.inr ⟨this.1, this.2⟩))]
    exact LY_fil_t _ i l1 s0 s0 (fun z hz hd => h z (.inl ⟨hz, hd⟩)) rfl rfl
  have htl : ∀ i, i ∈ o.looksAt ops → lget (SD l s0 D).t i = lget (LY l1 s0).t i := fun i hi => ht i fun z hz e => (un z hz).1.lk i e hi
  -- what is laid last may be laid where it belongs
  have ins : ∀ {L' : Lc} {a' : Act} {w' : World}, Rel U C L' (y.x.app (SD l s0 D)) a' w' → Rel U C L' (SD l s0 D') a' w' := by
    intro L' a' w' h
    have hfil' : (l.filter fun z => D' z.n.i) = (l1.filter fun z => D z.n.i) ++ y :: l2.filter fun z => D z.n.i := by
      rw [hsp, List.filter_append, List.filter_cons_of_pos (by rw [hyi]; exact hD2)]
      congr 1
      · exact List.filter_congr fun z hz => by obtain ⟨oz, -, -, -, -, h5⟩ := hz1 z hz; rw [hD1 _ (by omega)]
      · congr 1
        exact List.filter_congr fun z hz => by obtain ⟨oz, -, -, -, -, h5, -⟩ := hz2 z hz; rw [hD1 _ (by omega)]
    have e1 : SD l s0 D' = lay ((l2.filter fun z => D z.n.i).map (·.x)) (y.x.app (LY (l1.filter fun z => D z.n.i) s0)) := by
      unfold SD; rw [hfil', LY_app, LY_cons]; rfl
    have e2 : SD l s0 D = lay ((l2.filter fun z => D z.n.i).map (·.x)) (LY (l1.filter fun z => D z.n.i) s0) := by
      unfold SD; rw [hfil, LY_app]; rfl
    have mem : ∀ x ∈ (l2.filter fun z => D z.n.i).map (·.x), ∃ z, z.x = x ∧ Un ops o y z := by
      intro x hx
      obtain ⟨z, hz, e⟩ := List.mem_map.1 hx
      have := List.mem_filter.1 hz
      exact ⟨z, e, (un z (.inr ⟨this.1, this.2⟩)).1⟩
    rw [e1]
    rw [e2] at h
    refine h.less (by simp [lay_len, app_len]) (fun i c hc => .inr ?_) (fun κ b hb => ?_)
    · rw [← lay_last_t y.x i _ _ (fun x hx e => by obtain ⟨z, rfl, hz⟩ := mem x hx; exact hz.ds i e)]; exact hc
    · rw [← lay_last_m y.x κ _ _ _ (fun x hx e => by obtain ⟨z, rfl, hz⟩ := mem x hx; exact hz.wr κ e) rfl]; exact hb
  -- what is wanted
  have want : ∀ yes, Wants ops l1.length o (LY l1 s0) yes → Region.wanted o (yielded ops a.tmps) = yes := by
    intro yes h
    unfold Wants at h
    cases hg : o.guard with
    | none => rw [hg] at h; simp only at h; subst h; simp [Region.wanted, hg]
    | some jw =>
      obtain ⟨g, wnt⟩ := jw
      rw [hg] at h
      obtain ⟨t, hj, ha, h⟩ := h
      have hlk : t ∈ o.looksAt ops := by
        unfold Oper.looksAt
        refine List.mem_append_right _ ?_
        rw [hg]; simp only [hj]; simp
      rw [← htl t hlk] at h
      rcases h with ⟨b, hb, rfl⟩ | ⟨hu, rfl⟩
      · have hv := (hR.get t).bool_inv hb
        have hy : yielded ops a.tmps g = some b := by
          unfold yielded
          rw [hj, Option.bind_some]
          cases ht : a.tmps[t]? with
          | none => simp [Array.getD_eq_getD_getElem?, ht, undef] at hv
          | some x => simp [Array.getD_eq_getD_getElem?, ht] at hv; subst hv; rfl
        simp only [Region.wanted, hg, hy]; cases b <;> cases wnt <;> rfl
      · have hv := isUnd_inv hu (hR.get t)
        have hy : yielded ops a.tmps g = none := by
          unfold yielded
          rw [hj, Option.bind_some]
          cases ht : a.tmps[t]? with
          | none => rfl
          | some x => simp [Array.getD_eq_getD_getElem?, ht] at hv; subst hv; rfl
        simp only [Region.wanted, hg, hy]; rfl
  unfold wpOp
  simp only [ho]
  rcases hs.ra with ⟨hw, ran⟩ | ⟨hw, ev_, eu⟩
  · rw [want _ hw, if_pos rfl]
    refine .inl ?_
    have hS : Sim (U := U) ⟨(List.range (SD l s0 D).t.length).map (fun t => if t ∈ o.looksAt ops then lget c.t t else lget (SD l s0 D).t t), (SD l s0 D).m⟩ (SD l s0 D) := by
      refine ⟨rfl, by simp, fun i => ?_⟩
      rw [lget_range]
      by_cases h1 : i < (SD l s0 D).t.length
      · rw [if_pos h1]
        by_cases h2 : i ∈ o.looksAt ops
        · rw [if_pos h2, htl i h2]; exact hs.sm.t i
        · rw [if_neg h2]; exact .inl rfl
      · rw [if_neg h1, lget_none h1]; exact .inl rfl
    have hR' := hR.sim hS
    have hlen : c.t.length = (SD l s0 D).t.length := by rw [hs.sm.n, LY_len]; unfold SD; rw [LY_len]
    have hev : ∀ x ∈ o.op.operands.toList, ev c.t x = ev ((List.range (SD l s0 D).t.length).map (fun t => if t ∈ o.looksAt ops then lget c.t t else lget (SD l s0 D).t t)) x := by
      intro x hx
      cases x with
      | tmp i =>
        have hlk : i ∈ o.looksAt ops := List.mem_append_left _ (List.mem_filterMap.2 ⟨.tmp i, hx, rfl⟩)
        simp only [ev]
        rw [lget_range]
        by_cases h1 : i < (SD l s0 D).t.length
        · rw [if_pos h1, if_pos hlk]
        · rw [if_neg h1, lget_none (by rw [hlen]; exact h1)]
      | const v => cases v <;> rfl
      | func f => rfl
      | global g => rfl
    have hcm : ∀ κ, mget (LY l1 s0).m κ = mget c.m κ := fun κ => by rw [hs.sm.m]
    have hfr : Fresh (SD l s0 D).m y.n.d := by
      intro q h1 h2
      rw [hm q (fun z hz => (un z hz).1.rg q h1 h2), hcm]
      cases e : mget c.m q with
      | none => rfl
      | some b => exact (outR_inv _ ran.ou q (keysM_of e) h1 h2).elim
    have hgo := Vop_mono (restr_more (m := c.m) y.n.rd (m' := (SD l s0 D).m) (fun κ hk => by rw [hm κ (fun z hz => (un z hz).1.rd κ hk), hcm])) hfr (ran.go _ (fun v u => some (v, u)))
    rw [Vop_rho hev] at hgo
    obtain ⟨v', u', e, hg⟩ := p_op PL hE hR' hok hgo
    simp only [Option.some.injEq, Prod.mk.injEq] at e
    obtain ⟨rfl, rfl⟩ := e
    have hn := hg (newOk_of fun κ hk => by
      have hfrU : frU (SD l s0 D).m y.x.u = y.n.fr := by
        rw [hs.fr]
        exact frU_same _ (fun κ hk => by rw [hm κ (fun z hz => (un z hz).1.wr κ hk), hcm])
      simp only at hk
      rw [hfrU] at hk
      have key : ¬ (κ ∈ menL (SD l s0 D).t ∨ κ ∈ menM (SD l s0 D).m) := by
        intro h
        rcases lay_men _ _ h with h | ⟨x, hx, h⟩
        · exact disj_inv _ _ hs.m0 κ hk (List.mem_append.2 h)
        · obtain ⟨z, hz, rfl⟩ := List.mem_map.1 hx
          rw [hfil] at hz
          rcases List.mem_append.1 hz with hz | hz
          · have := List.mem_filter.1 hz
            obtain ⟨oz, -, -, -, h4, -⟩ := hz1 z this.1
            rw [← h4] at h
            exact chk1_fr (hs.ck z this.1) κ hk h
          · have := List.mem_filter.1 hz
            obtain ⟨oz, -, -, -, h4, -⟩ := hz2 z this.1
            rw [← h4] at h
            exact (un z (.inr ⟨this.1, this.2⟩)).2 κ hk h
      refine ⟨fun h => key (.inl ?_), fun h => key (.inr h)⟩
      obtain ⟨i, x, h1, h2⟩ := menL_inv h
      have hlt : i < (SD l s0 D).t.length := by rw [← hS.n]; exact idx_lt h1
      have hq := List.getElem?_eq_getElem hlt
      have hsv := hS.t i
      rw [lget_some h1, lget_some hq] at hsv
      rw [hsv.men] at h2
      exact menL_mem hq h2)
    refine hn K Q (fun L' w' v' hM hv hk he => next L' _ w' hk (ins ?_))
    have := hR'.put (dst := o.dst) hM hv hk he hfree
    refine this.sim ?_
    have h := hS.symm.app y.x
    unfold Rc.app at h
    rw [hs.ds] at h
    unfold Rc.app
    rw [hs.ds]
    exact h
  · rw [want _ hw]
    simp only [Bool.false_eq_true, if_false]
    refine next L _ w rfl (ins ?_)
    have h := hR.putv (dst := o.dst) (v := undef) .und hfree
    unfold Rc.app
    rw [eu, hs.ds, ev_]
    exact h
end Go.Proofs.YtpdnnndedejlhaaGreatV
/- Regions that draw. -/
namespace Go.Proofs.YtpdnnndedejlhaaGreatV
open Go
set_option linter.unusedVariables false
set_option linter.unusedSimpArgs false
variable {U : Uni} {P : Program} {R : Type}
theorem getD_tf {l : Array Bool} {i : Nat} (h : i < l.size) : l.getD i true = l.getD i false := by simp [Array.getD, h]
theorem ready_iff {ops : Array Oper} {listed : Array Bool} {i : Nat} : i ∈ Region.ready .any ops listed ↔ ∃ o, ops[i]? = some o ∧ listed.getD i true = false ∧ ∀ e ∈ o.after.toList, Region.binds .any e = true → listed.getD e.on false = true := by
  unfold Region.ready
  rw [List.mem_filter, List.mem_range]
  constructor
  · rintro ⟨hi, h⟩
    rw [Bool.and_eq_true] at h
    obtain ⟨h1, h2⟩ := h
    refine ⟨ops[i], by simp [hi], by simpa using h1, fun e he hb => ?_⟩
    rw [Array.getElem?_eq_getElem hi] at h2
    simp only [Option.map_some, Option.getD_some, Array.all_eq_true'] at h2
    have := h2 e (by simpa using he)
    rw [hb] at this
    simpa using this
  · rintro ⟨o, ho, h1, h2⟩
    obtain ⟨hi, he⟩ := Array.getElem?_eq_some_iff.1 ho
    refine ⟨hi, ?_⟩
    rw [Bool.and_eq_true]
    refine ⟨by simp [h1], ?_⟩
    rw [ho]
    simp only [Option.map_some, Option.getD_some, Array.all_eq_true']
    intro e he
    cases hb : Region.binds .any e with
    | false => rfl
    | true => simpa using h2 e (by simpa using he) hb
theorem okD_go : ∀ (os : List Oper) (j : Nat), okD.go j os = true → ∀ (k : Nat) (o : Oper), os[k]? = some o → ∀ e ∈ o.after.toList, Region.binds .any e = true → e.on < j + k
  | [], j, h, k, o, ho, e, he, hb => by simp at ho
  | x :: os, j, h, k, o, ho, e, he, hb => by
    simp only [okD.go, Bool.and_eq_true, List.all_eq_true] at h
    cases k with
    | zero =>
      simp only [List.getElem?_cons_zero, Option.some.injEq] at ho
      subst ho
      have := h.1 e he
      rw [hb] at this
      have : e.on < j := by simpa using this
      omega
    | succ k =>
      have := okD_go os (j + 1) h.2 k o (by simpa using ho) e he hb
      omega
theorem okD_inv {ops : Array Oper} (h : okD ops = true) {i : Nat} {o : Oper} (ho : ops[i]? = some o) : ∀ e ∈ o.after.toList, Region.binds .any e = true → e.on < i := by
  intro e he hb
  have := okD_go ops.toList 0 h i o (by simpa using ho) e he hb
  omega
theorem setD (listed : Array Bool) (i j : Nat) (hi : i < listed.size) : (listed.setIfInBounds i true).getD j false = if j = i then true else listed.getD j false := by
  rw [Array.getD_eq_getD_getElem?, Array.getD_eq_getD_getElem?, Array.getElem?_setIfInBounds]
  by_cases h : i = j
  · subst h; simp [hi]
  · rw [if_neg h, if_neg (fun e => h e.symm)]
theorem any_sound {C : Fr} {E : Nat → List (Con U)} {ops : Array Oper} {s0 : St U.D} {l : List (RD U.D)} {Q : Exit → Act → World → Prop} {kv : Value} (PL : Plaw P U) (hE : EnvOk P U E) (hon : okD ops = true) (hops : ∀ o ∈ ops, opsOk o.op = true ∧ Free C o)
    (hll : l.length = ops.size) (hl : ∀ l1 y l2, l = l1 ++ y :: l2 → ∃ o c, StepOk E ops (menL s0.t ++ menM s0.m) s0 l1 y o c)
    (hQ : ∀ L a w, L.kv = kv → Rel U C L (LY l s0) a w → Q .normal a w) : ∀ (fuel : Nat) (listed : Array Bool) (a : Act) (w : World) (L : Lc) (os : List Nat), listed.size = ops.size → Down ops (fun i => listed.getD i false) →
      (∀ i, i < ops.size → listed.getD i false = false → i ∈ os) → os.length ≤ fuel → L.kv = kv → Rel U C L (SD l s0 (fun i => listed.getD i false)) a w → wpAny P .any ops Q fuel listed a w := by
  have fin_ : ∀ (listed : Array Bool) (a : Act) (w : World) (L : Lc), (∀ i, i < ops.size → listed.getD i false = true) → L.kv = kv → Rel U C L (SD l s0 (fun i => listed.getD i false)) a w → Q .normal a w := by
    intro listed a w L hall hkv hR
    refine hQ L a w hkv ?_
    have e : (l.filter fun z => listed.getD z.n.i false) = l := by
      rw [List.filter_eq_self]
      intro z hz
      obtain ⟨b, e, rfl⟩ := List.append_of_mem hz
      obtain ⟨o, c, h⟩ := hl b z e rfl
      refine hall _ ?_
      rw [h.i, ← hll]; simp
    unfold SD at hR
    rw [e] at hR
    exact hR
  intro fuel
  induction fuel with
  | zero =>
    intro listed a w L os hsz hdn hos hlen hkv hR
    have : os = [] := List.eq_nil_of_length_eq_zero (by omega)
    subst this
    have hall : ∀ i, i < ops.size → listed.getD i false = true := by
      intro i hi
      cases e : listed.getD i false with
      | true => rfl
      | false => exact absurd (hos i hi e) (by simp)
    refine ⟨?_, fin_ listed a w L hall hkv hR⟩
    rw [List.eq_nil_iff_forall_not_mem]
    intro i hi
    obtain ⟨o, ho, h1, -⟩ := ready_iff.1 hi
    have hi := (Array.getElem?_eq_some_iff.1 ho).1
    rw [getD_tf (by omega), hall i hi] at h1
    cases h1
  | succ fuel ih =>
    intro listed a w L os hsz hdn hos hlen hkv hR
    refine ⟨fun hr => fin_ listed a w L (fun i hi => ?_) hkv hR, fun i hi => ?_⟩
    · induction i using Nat.strongRecOn with
      | _ i ihi =>
        cases e : listed.getD i false with
        | true => rfl
        | false =>
          have : i ∈ Region.ready .any ops listed := ready_iff.2 ⟨ops[i], by simp [hi], by rw [getD_tf (by omega)]; exact e, fun e' he' hb => by
            have := okD_inv hon (i := i) (by simp [hi]) e' he' hb
            exact ihi e'.on this (by omega)⟩
          rw [hr] at this; cases this
    · obtain ⟨o, ho, h1, h2⟩ := ready_iff.1 hi
      have hi := (Array.getElem?_eq_some_iff.1 ho).1
      rw [getD_tf (by omega)] at h1
      have hil : i < l.length := by omega
      have hsp : l = l.take i ++ l[i] :: l.drop (i + 1) := by simp
      have hlen1 : (l.take i).length = i := by simp; omega
      have hmem := hos i hi h1
      have key := draw_step (K := wpAny P .any ops Q fuel (listed.setIfInBounds i true)) (Q := Q) (D := fun i => listed.getD i false) (D' := fun j => (listed.setIfInBounds i true).getD j false) PL hE hops hl hdn hsp (by rw [hlen1]; exact h1)
        (fun o' ho' e he hb => by rw [hlen1, ho] at ho'; cases ho'; exact h2 e he hb) (fun j hj => by rw [hlen1] at hj; rw [setD _ _ _ (by omega), if_neg hj]) (by rw [hlen1]; rw [setD _ _ _ (by omega), if_pos rfl]) hR
        (fun L' a' w' hk hR' => by
          refine ih (listed.setIfInBounds i true) a' w' L' (os.erase i) (by simp [hsz]) (fun j o' ho' hj e he hb => ?_) (fun j hj hf => ?_) (by rw [List.length_erase_of_mem hmem]; omega) (hk.trans hkv) hR'
          · simp only at hj ⊢
            rw [setD _ _ _ (by omega)] at hj ⊢
            by_cases hji : j = i
            · subst hji
              rw [ho] at ho'; cases ho'
              have := h2 e he hb
              rw [this]; split <;> rfl
            · rw [if_neg hji] at hj
              have := hdn j o' ho' hj e he hb
              simp only at this
              rw [this]; split <;> rfl
          · rw [setD _ _ _ (by omega)] at hf
            by_cases hji : j = i
            · rw [if_pos hji] at hf; cases hf
            · rw [if_neg hji] at hf
              exact (List.mem_erase_of_ne hji).2 (hos j hj hf))
      rw [hlen1] at key
      exact key
theorem BR.drew {F : Nat → Prop} {w0 w : World} {L : Lc} {κ n : Nat} {b : Blk U.D} (h : BR U F w0 w L κ b) : BR U F w0 { w with drawn := n } L κ b := by
  cases b with
  | box t cs => exact h
  | row k xs => exact ⟨h.1.stay (fun _ _ => rfl), h.2⟩
  | krow k xs => exact ⟨⟨h.1.1.stay (fun _ _ => rfl), h.1.2⟩, h.2⟩
  | hole k xs i j =>
    obtain ⟨⟨cap, cur, f, h1, h2, h3, h4, h5, h6, h6k, h7, h8⟩, h9⟩ := h
    exact ⟨⟨cap, cur, f, h1, h2, h3, h4, h5, h6, h6k, h7, fun i' x j' c hx hj hn => (h8 i' x j' c hx hj hn).stay (fun _ _ => rfl)⟩, h9⟩
  | brow k xs =>
    obtain ⟨cap, cur, h1, h2, h3, h4, h5, h6, h7, h8⟩ := h
    exact ⟨cap, cur, h1, h2, h3, h4, h5, h6, h7, fun i x j c hx hj => (h8 i x j c hx hj).imp id (fun h => h.stay (fun _ _ => rfl))⟩
  | arr t n k xs => exact h
theorem reg_ok (PL : Plaw P U) {E : Nat → List (Con U)} (hE : EnvOk P U E) (hm : P.follows .mixedOrders = true) {ops : Array Oper} (hon : okD ops = true) (C : Fr) (kv : Value) (r : R) (N : Nat) : RegOk P U C kv r N E ops true := by
  intro hops id K Q s L a w hK hkv hN hR h
  simp only [cond_true] at h
  obtain ⟨l, c', h1, h2, h3, h4⟩ := Vdr_run (s0 := s) ops.toList [] s rfl (Sim.rfl' _) h
  refine wp_region_any hm ?_
  have hR' : Rel U C L s a { w with drawn := w.drawn + 1 } := { me := fun κ b h => (hR.me κ b h).drew, fg := hR.fg, g0 := hR.g0, hl := hR.hl, rvo := hR.rvo, hs := hR.hs, os := hR.os, tp := hR.tp, ou := hR.ou, sz := hR.sz, tm := hR.tm, df := hR.df, fx := hR.fx }
  have gf : ∀ i, (Array.replicate ops.size false).getD i false = false := by
    intro i
    rw [Array.getD_eq_getD_getElem?, Array.getElem?_replicate]
    split <;> rfl
  refine any_sound (kv := kv) (l := l) (s0 := s) PL hE hon hops (by simpa using h1) h4 (fun L a w hk hR => hK c' L a w hk (by rw [h3.n, LY_len, hN]) (hR.sim h3) h2) ops.size _ a _ L (List.range ops.size) (by simp) (fun i o ho hi => by simp only [gf] at hi; cases hi) (fun i hi _ => List.mem_range.2 hi) (by simp) hkv ?_
  have e : (l.filter fun z => (Array.replicate ops.size false).getD z.n.i false) = [] := by
    rw [List.filter_eq_nil_iff]
    intro z hz
    rw [gf]; simp
  unfold SD
  rw [e]
  exact hR'
theorem sound_fn' (PL : Plaw P U) (hm : P.follows .mixedOrders = true) {f : FuncId} {fn : Func} {body : Code} (hf : P.funcs[f]? = some fn) (hb : fn.body = some body) {A R : List Sg} {J : List Nat} {E : Nat → Nat → List (Con U)} {F : Nat → Nat → St U.D → Option (TL U.D (lvsL R ++ outsL A))} {g : Nat → TL U.D (lvsL A) → Option (TL U.D (lvsL R ++ outsL A))}
    {n0 : Nat} (hE : ∀ k, k ≤ n0 → EnvOk P U (E k)) (hF0 : ∀ id s, F 0 id s = none) (hok : (okC (ioIx 0 A) body && Nat.ble A.length fn.ntmps && (draws body).all okD) = true)
    (htop : ∀ k x, Vc U (E k) J (F k) body (K0 fn.results.toList A R) (ini fn.ntmps A x) = g k x)
    (hcut : ∀ k id q, (id, q) ∈ Vcuts U (E k) J (F k) body (K0 fn.results.toList A R) → ∀ s : St U.D, ∀ r, F (k + 1) id s = some r → ∃ (S : Slot) (x : TL U.D (lvsL S.ss)), proj S s = some x ∧ q (slot fn.ntmps S x) = some r)
    (k : Nat) (hk : k ≤ n0) : SoundC P U f ⟨A, R, g k⟩ := by
  simp only [Bool.and_eq_true, List.all_eq_true] at hok
  exact sound_fn PL hf hb hE hF0 hok.1.1 hok.1.2 (fun k hk ops ho C kv r N => reg_ok PL (hE k hk) hm (hok.2 ops ho) C kv r N) htop hcut k hk
end Go.Proofs.YtpdnnndedejlhaaGreatV
/- Kinds of elements, put together; the table of types, checked. -/
namespace Go.Proofs.YtpdnnndedejlhaaGreatV
open Go
set_option linter.unusedVariables false
set_option linter.unusedSimpArgs false
structure Pt where
  α : Type
  x : α
structure EL (D : Nat → Type) (α : Type) where
  cells : α → List (VV D)
  mkv : List (VV D) → Option α
  sz : Nat
def mkI {D : Nat → Type} {α : Type} (k : IntKind) (K : Int → Option α) : VV D → Option α
  | .int k' n => bif ikeq k k' then K n else none
  | _ => none
def mkB {D : Nat → Type} {α : Type} (K : Bool → Option α) : VV D → Option α
  | .lit b => K b
  | .bv b => K b
  | .nb b => K (!b)
  | .bp p d => K (@decide p d)
  | .np p d => K (!@decide p d)
  | _ => none
def mkR {D : Nat → Type} {α : Type} (k : Nat) (K : List (D k) → Option α) : VV D → Option α
  | .nil => K []
  | .tree k' xs => match Nat.decEq k' k with
    | .isTrue h => K (h ▸ xs)
    | .isFalse _ => none
  | _ => none
def EL.int {D : Nat → Type} (k : IntKind) : EL D Int := ⟨fun x => [.int k x], fun cs => match cs with
  | [c] => mkI k some c
  | _ => none, 1⟩
def EL.bool {D : Nat → Type} : EL D Bool := ⟨fun x => [.bv x], fun cs => match cs with
  | [c] => mkB some c
  | _ => none, 1⟩
def EL.row {D : Nat → Type} (k : Nat) : EL D (List (D k)) := ⟨fun x => [.tree k x], fun cs => match cs with
  | [c] => mkR k some c
  | _ => none, 1⟩
def EL.pair {D : Nat → Type} {α β : Type} (a : EL D α) (b : EL D β) : EL D (α × β) := ⟨fun x => a.cells x.1 ++ b.cells x.2, fun cs => match a.mkv (cs.take a.sz) with
  | some x => match b.mkv (cs.drop a.sz) with
    | some y => some (x, y)
    | none => none
  | none => none, a.sz + b.sz⟩
def EL.iso {D : Nat → Type} {α β : Type} (a : EL D α) (f : α → β) (g : β → α) : EL D β := ⟨fun x => a.cells (g x), fun cs => match a.mkv cs with
  | some x => some (f x)
  | none => none, a.sz⟩
def EL.none {D : Nat → Type} {α : Type} : EL D α := ⟨fun _ => [], fun _ => Option.none, 0⟩
inductive LE0 {D : Nat → Type} : VV D → VV D → Prop where
  | int (k : IntKind) (n : Int) : LE0 (.int k n) (.int k n)
  | lit (b : Bool) : LE0 (.bv b) (.lit b)
  | bv (b : Bool) : LE0 (.bv b) (.bv b)
  | nb (b : Bool) : LE0 (.bv (!b)) (.nb b)
  | bp (p : Prop) (d : Decidable p) : LE0 (.bv (@decide p d)) (.bp p d)
  | np (p : Prop) (d : Decidable p) : LE0 (.bv (!@decide p d)) (.np p d)
  | tree (k : Nat) (xs : List (D k)) : LE0 (.tree k xs) (.tree k xs)
  | nil (k : Nat) : LE0 (.tree k []) .nil
theorem LE0.le {U : Uni} {c c' : VV U.D} (h : LE0 c c') : LE c c' := by
  cases h with
  | int => exact .int _ _
  | lit b => exact .bool rfl
  | bv b => exact .bool rfl
  | nb b => exact .bool rfl
  | bp p d => exact .bool rfl
  | np p d => exact .bool rfl
  | tree => exact .tree _ _
  | nil => exact .nil _
def LEs {D : Nat → Type} (as bs : List (VV D)) : Prop := as.length = bs.length ∧ ∀ (j : Nat) (c c' : VV D), as[j]? = some c → bs[j]? = some c' → LE0 c c'
def isRow {D : Nat → Type} : VV D → Prop
  | .tree _ _ => True
  | .ktree _ _ => True
  | _ => False
structure EL.Ok {D : Nat → Type} {α : Type} (e : EL D α) (flat : Bool) : Prop where
  len : ∀ x, (e.cells x).length = e.sz
  shp : ∀ (x y : α) (j k : Nat) (ys : List (D k)), (e.cells x)[j]? = some (.tree k ys) → ∃ zs : List (D k), (e.cells y)[j]? = some (.tree k zs)
  mke : ∀ cs x, e.mkv cs = some x → LEs (e.cells x) cs
  fla : flat = true → ∀ (x : α) (j : Nat) (c : VV D), (e.cells x)[j]? = some c → ¬ isRow c
theorem LEs.one {D : Nat → Type} {a b : VV D} (h : LE0 a b) : LEs [a] [b] := by
  refine ⟨rfl, fun j c c' h1 h2 => ?_⟩
  cases j with
  | zero => simp at h1 h2; rw [← h1, ← h2]; exact h
  | succ j => simp at h1
theorem EL.int_ok {D : Nat → Type} (k : IntKind) (hk : ikeq k k = true) (flat : Bool) : (EL.int k : EL D Int).Ok flat where
  len x := rfl
  shp x y j k ys h := by
    cases j with
    | zero => simp [EL.int] at h
    | succ j => simp [EL.int] at h
  mke cs x h := by
    match cs, h with
    | [], h => cases h
    | [c], h =>
      simp only [EL.int] at h
      cases c <;> simp only [mkI] at h <;> try (cases h; done)
      rename_i k' n
      cases hq : ikeq k k' with
      | false => rw [hq] at h; cases h
      | true =>
        rw [hq] at h
        simp only [cond_true, Option.some.injEq] at h
        have := ikeq_eq' hq
        subst h this
        exact .one (.int _ _)
    | _ :: _ :: _, h => cases h
  fla _ x j c h := by
    cases j with
    | zero => simp [EL.int] at h; subst h; exact id
    | succ j => simp [EL.int] at h
theorem EL.row_ok {D : Nat → Type} (k : Nat) : (EL.row k : EL D (List (D k))).Ok false where
  len x := rfl
  shp x y j k' ys h := by
    cases j with
    | zero =>
      have h' : (VV.tree k x : VV D) = .tree k' ys := by simpa [EL.row] using h
      cases h'
      exact ⟨y, rfl⟩
    | succ j => simp [EL.row] at h
  mke cs x h := by
    match cs, h with
    | [], h => cases h
    | [c], h =>
      simp only [EL.row] at h
      cases c <;> simp only [mkR] at h <;> try (cases h; done)
      case nil => cases h; exact .one (.nil _)
      case tree k' xs =>
        cases hq : Nat.decEq k' k with
        | isFalse hn => rw [hq] at h; cases h
        | isTrue e =>
          rw [hq] at h
          subst e
          cases h
          exact .one (.tree _ _)
    | _ :: _ :: _, h => cases h
  fla h := by cases h
theorem LEs.app {D : Nat → Type} {as bs as' bs' : List (VV D)} (h : LEs as bs) (h' : LEs as' bs') : LEs (as ++ as') (bs ++ bs') := by
  refine ⟨by simp [h.1, h'.1], fun j c c' h1 h2 => ?_⟩
  by_cases hj : j < as.length
  · rw [List.getElem?_append_left hj] at h1
    rw [List.getElem?_append_left (by rw [← h.1]; exact hj)] at h2
    exact h.2 j c c' h1 h2
  · rw [List.getElem?_append_right (by omega)] at h1
    rw [List.getElem?_append_right (by rw [← h.1]; omega), ← h.1] at h2
    exact h'.2 _ c c' h1 h2
theorem EL.pair_ok {D : Nat → Type} {α β : Type} {a : EL D α} {b : EL D β} {fl : Bool} (ha : a.Ok fl) (hb : b.Ok fl) : (a.pair b).Ok fl where
  len x := by simp only [EL.pair, List.length_append, ha.len, hb.len]
  shp x y j k ys h := by
    simp only [EL.pair] at h ⊢
    by_cases hj : j < (a.cells x.1).length
    · rw [List.getElem?_append_left hj] at h
      obtain ⟨zs, hz⟩ := ha.shp _ y.1 j k ys h
      exact ⟨zs, by rw [List.getElem?_append_left (by rw [ha.len] at hj ⊢; exact hj)]; exact hz⟩
    · rw [List.getElem?_append_right (by omega), ha.len] at h
      obtain ⟨zs, hz⟩ := hb.shp _ y.2 _ k ys h
      refine ⟨zs, ?_⟩
      rw [List.getElem?_append_right (by rw [ha.len] at hj ⊢; omega), ha.len]
      exact hz
  mke cs x h := by
    simp only [EL.pair] at h ⊢
    cases h1 : a.mkv (cs.take a.sz) with
    | none => rw [h1] at h; cases h
    | some u =>
      cases h2 : b.mkv (cs.drop a.sz) with
      | none => rw [h1, h2] at h; cases h
      | some v =>
        rw [h1, h2] at h
        cases h
        have := (ha.mke _ _ h1).app (hb.mke _ _ h2)
        rwa [List.take_append_drop] at this
  fla hf x j c h := by
    simp only [EL.pair] at h
    by_cases hj : j < (a.cells x.1).length
    · rw [List.getElem?_append_left hj] at h; exact ha.fla hf _ _ _ h
    · rw [List.getElem?_append_right (by omega)] at h; exact hb.fla hf _ _ _ h
theorem EL.iso_ok {D : Nat → Type} {α β : Type} {a : EL D α} {f : α → β} {g : β → α} {fl : Bool} (ha : a.Ok fl) (h2 : ∀ y, g (f y) = y) : (a.iso f g).Ok fl where
  len x := ha.len _
  shp x y j k ys h := ha.shp _ _ j k ys h
  mke cs x h := by
    simp only [EL.iso] at h ⊢
    cases hq : a.mkv cs with
    | none => rw [hq] at h; cases h
    | some u => rw [hq] at h; cases h; rw [h2]; exact ha.mke _ _ hq
  fla hf x j c h := ha.fla hf _ _ _ h
theorem EL.none_ok {D : Nat → Type} {α : Type} (fl : Bool) : (EL.none : EL D α).Ok fl where
  len _ := rfl
  shp x y j k ys h := by simp [EL.none] at h
  mke cs y hy := by cases hy
  fla _ y j c hc := by simp [EL.none] at hc
structure KE (P : Nat → Pt) (fl : Nat → Bool) where
  k : Nat
  e : EL (fun k => (P k).α) (P k).α
  ok : e.Ok (fl k)
def findE {P : Nat → Pt} {fl : Nat → Bool} : List (KE P fl) → (k : Nat) → EL (fun k => (P k).α) (P k).α
  | [], k => EL.none
  | x :: r, k => match Nat.decEq x.k k with
    | .isTrue h => h ▸ x.e
    | .isFalse _ => findE r k
theorem findE_ok {P : Nat → Pt} {fl : Nat → Bool} : ∀ (l : List (KE P fl)) (k : Nat), (findE l k).Ok (fl k)
  | [], k => EL.none_ok _
  | x :: r, k => by
    simp only [findE]
    split
    · rename_i h _
      subst h
      exact x.ok
    · exact findE_ok r k
def mkU (P : Nat → Pt) (el : (k : Nat) → EL (fun k => (P k).α) (P k).α) (flat : Nat → Bool) (lim : Nat → Nat) (ti : Nat → Option TY) : Uni :=
  { D := fun k => (P k).α, df := fun k => (P k).x, cells := fun k => (el k).cells, mkE := fun k => (el k).mkv, ti, lim, flat, sz := fun k => (el k).sz }
theorem mkU_ok {P : Nat → Pt} {el : (k : Nat) → EL (fun k => (P k).α) (P k).α} {flat : Nat → Bool} {lim : Nat → Nat} {ti : Nat → Option TY} (h : ∀ k, (el k).Ok (flat k)) : Ulaw (mkU P el flat lim ti) where
  len k x := (h k).len x
  shp k x y j k' ys hh := (h k).shp x y j k' ys hh
  mke k cs x hx := by
    have := (h k).mke cs x hx
    exact ⟨this.1, fun j c c' h1 h2 => (this.2 j c c' h1 h2).le⟩
  fla k x j c hf hc := by
    have := (h k).fla hf x j c hc
    cases c <;> first | trivial | exact this trivial
def lookT {α : Type} : List (Nat × α) → Nat → Option α
  | [], _ => none
  | p :: r, t => bif Nat.beq p.1 t then some p.2 else lookT r t
theorem lookT_mem {α : Type} : ∀ {l : List (Nat × α)} {t : Nat} {x : α}, lookT l t = some x → (t, x) ∈ l
  | [], t, x, h => by cases h
  | p :: r, t, x, h => by
    simp only [lookT] at h
    cases hb : Nat.beq p.1 t with
    | true =>
      rw [hb] at h
      simp only [cond_true, Option.some.injEq] at h
      have := Nat.eq_of_beq_eq_true hb
      subst this h
      exact List.mem_cons_self
    | false => rw [hb] at h; exact List.mem_cons_of_mem _ (lookT_mem h)
def eqZ : List Value → List ZC → Bool
  | v :: vs, zs => match zs with
    | [] => false
    | z :: zs => (match v with
      | .int k n => match z with
        | .i k' => ikeq k k' && n == 0
        | _ => false
      | .bool b => match z with
        | .b => !b
        | _ => false
      | .slice a l c => match z with
        | .n => a.isNone && l == 0 && c == 0
        | _ => false
      | _ => false) && eqZ vs zs
  | [], zs => zs.isEmpty
theorem eqZ_eq : ∀ (vs : List Value) (zs : List ZC), eqZ vs zs = true → vs = zs.map zval
  | [], zs, h => by
    cases zs with
    | nil => rfl
    | cons _ _ => cases h
  | v :: vs, [], h => by cases h
  | v :: vs, z :: zs, h => by
    simp only [eqZ, Bool.and_eq_true] at h
    have ih := eqZ_eq vs zs h.2
    have h1 := h.1
    rw [List.map_cons, ← ih]
    congr 1
    cases v <;> cases z <;> try (cases h1; done)
    case int.i k n k' =>
      simp only [Bool.and_eq_true, beq_iff_eq] at h1
      rw [ikeq_eq' h1.1, h1.2]; rfl
    case bool.b b =>
      cases b
      · rfl
      · cases h1
    case slice.n a l c =>
      simp only [Bool.and_eq_true, beq_iff_eq, Option.isNone_iff_eq_none] at h1
      rw [h1.1.1, h1.1.2, h1.2]; rfl
def okT (P : Program) (t : Nat) (T : TY) : Bool :=
  (match P.info? t with
    | some i => i.size == T.sz && i.bytes == T.by_ && (match i.zero with
      | some z => eqZ z.cells.toList T.z
      | none => false)
    | none => false) && T.z.length == T.sz && (match T.d with
    | .int k => T.sz == 1 && (match P.underlying t with
      | some (.int k') => ikeq k k'
      | _ => false)
    | .bool => T.sz == 1 && (match P.underlying t with
      | some .bool => true
      | _ => false)
    | .str fs => (match P.underlying t with
      | some (.struct fields) => fields.toList.map (fun f => (f.offset, f.type)) == fs && fields.toList.all fun f => (match P.info? f.type with
        | some i => i.size != 0
        | none => false)
      | _ => false)
    | .sl e => T.sz == 1 && (match P.underlying t with
      | some (.slice e') => e == e'
      | _ => false)
    | .ar n e => (match P.underlying t with
      | some (.array n' e') => n == n' && e == e'
      | _ => false)
    | .oth => true) && (!T.eq || eqOkB P t T.sz)
theorem okT_ok {P : Program} {t : Nat} {T : TY} (h : okT P t T = true) : TYok P t T := by
  simp only [okT, Bool.and_eq_true, beq_iff_eq] at h
  obtain ⟨⟨⟨h1, h2⟩, h3⟩, h4⟩ := h
  refine ⟨?_, h2, ?_, ?_, ?_⟩
  · cases hi : P.info? t with
    | none => rw [hi] at h1; cases h1
    | some i =>
      rw [hi] at h1
      simp only [Bool.and_eq_true, beq_iff_eq] at h1
      cases hz : i.zero with
      | none => rw [hz] at h1; exact absurd h1.2 (by simp)
      | some z =>
        rw [hz] at h1
        refine ⟨i, z, rfl, h1.1.1, h1.1.2, hz, ?_⟩
        have := eqZ_eq _ _ h1.2
        rw [← this]
  · cases hd : T.d <;> rw [hd] at h3 <;> simp only [Bool.and_eq_true, beq_iff_eq] at h3 <;> first | exact h3.1 | trivial
  · cases hd : T.d <;> rw [hd] at h3 <;> simp only [Bool.and_eq_true, beq_iff_eq] at h3 <;> simp only
    case int k =>
      cases hu : P.underlying t with
      | none => rw [hu] at h3; exact absurd h3.2 (by simp)
      | some d =>
        rw [hu] at h3
        cases d <;> try (have q3 := h3.2; cases q3; done)
        rw [ikeq_eq' h3.2]
    case bool =>
      cases hu : P.underlying t with
      | none => rw [hu] at h3; exact absurd h3.2 (by simp)
      | some d =>
        rw [hu] at h3
        cases d <;> try (have q3 := h3.2; cases q3; done)
        rfl
    case str fs =>
      cases hu : P.underlying t with
      | none => rw [hu] at h3; exact absurd h3 (by simp)
      | some d =>
        rw [hu] at h3
        cases d <;> try (cases h3; done)
        rename_i fields
        simp only [Bool.and_eq_true, beq_iff_eq, List.all_eq_true] at h3
        refine ⟨fields, rfl, h3.1, fun f hf => ?_⟩
        have := h3.2 f hf
        cases hi : P.info? f.type with
        | none => rw [hi] at this; cases this
        | some i => rw [hi] at this; exact ⟨i, rfl, by simpa using this⟩
    case sl e =>
      cases hu : P.underlying t with
      | none => rw [hu] at h3; exact absurd h3.2 (by simp)
      | some d =>
        rw [hu] at h3
        cases d <;> try (have q3 := h3.2; cases q3; done)
        rw [eq_of_beq h3.2]
    case ar n e =>
      cases hu : P.underlying t with
      | none => rw [hu] at h3; exact absurd h3 (by simp)
      | some d =>
        rw [hu] at h3
        cases d <;> try (cases h3; done)
        simp only [Bool.and_eq_true, beq_iff_eq] at h3
        rw [h3.1, h3.2]
  · intro he
    rw [he] at h4
    simpa using h4
theorem plaw_of {P : Program} {P' : Nat → Pt} {el : (k : Nat) → EL (fun k => (P' k).α) (P' k).α} {flat : Nat → Bool} {lim : Nat → Nat} {l : List (Nat × TY)} (h : ∀ k, (el k).Ok (flat k)) (ht : (l.all fun p => okT P p.1 p.2) = true) : Plaw P (mkU P' el flat lim (lookT l)) where
  toUlaw := mkU_ok h
  ty t T hT := by
    have := List.all_eq_true.1 ht _ (lookT_mem (show lookT l t = some T from hT))
    exact okT_ok this
end Go.Proofs.YtpdnnndedejlhaaGreatV
/- A function's contract, out of its tables. -/
namespace Go.Proofs.YtpdnnndedejlhaaGreatV
open Go
set_option linter.unusedVariables false
set_option linter.unusedSimpArgs false
variable {U : Uni} {P : Program} {R : Type}
theorem ite_c {α : Type} {p : Prop} [d : Decidable p] {a b a' b' : α} (h1 : p → a = a') (h2 : ¬ p → b = b') : (if p then a else b) = if p then a' else b' := by
  by_cases h : p
  · rw [if_pos h, if_pos h]; exact h1 h
  · rw [if_neg h, if_neg h]; exact h2 h
theorem ite_l {α : Type} {p : Prop} [d : Decidable p] {a b c : α} (h : p) (e : a = c) : (if p then a else b) = c := by rw [if_pos h]; exact e
theorem ite_r {α : Type} {p : Prop} [d : Decidable p] {a b c : α} (h : ¬ p) (e : b = c) : (if p then a else b) = c := by rw [if_neg h]; exact e
theorem bind_c {α β : Type} {o : Option α} {f g : α → Option β} (h : ∀ x, f x = g x) : o.bind f = o.bind g := by rw [funext h]
structure CutD (U : Uni) (R : Type) where
  id : Nat
  S : Slot
  f : Nat → TL U.D (lvsL S.ss) → Option R
def Fl : List (CutD U R) → Nat → Nat → St U.D → Option R
  | [], _, _ => fun _ => none
  | c :: r, k, i => bif Nat.beq c.id i then Fcut c.S (c.f k) else Fl r k i
def El : List (Nat × List (Con U)) → Nat → List (Con U)
  | [], _ => []
  | p :: r, g => bif Nat.beq p.1 g then p.2 else El r g
structure FD (U : Uni) where
  A : List Sg
  R : List Sg
  J : List Nat
  E : Nat → List (Nat × List (Con U))
  K : List (CutD U (TL U.D (lvsL R ++ outsL A)))
def VT (d : FD U) (fn : Func) (k : Nat) (x : TL U.D (lvsL d.A)) : Option (TL U.D (lvsL d.R ++ outsL d.A)) :=
  Vc U (El (d.E k)) d.J (Fl d.K k) (bodyOf fn) (K0 fn.results.toList d.A d.R) (ini fn.ntmps d.A x)
def VL (d : FD U) (fn : Func) (k : Nat) : List (Nat × (St U.D → Option (TL U.D (lvsL d.R ++ outsL d.A)))) :=
  Vcuts U (El (d.E k)) d.J (Fl d.K k) (bodyOf fn) (K0 fn.results.toList d.A d.R)
def VS (d : FD U) (fn : Func) (k i : Nat) (S : Slot) (x : TL U.D (lvsL S.ss)) : Option (TL U.D (lvsL d.R ++ outsL d.A)) := nthC (VL d fn k) i (slot fn.ntmps S x)
def Ok (P : Program) (U : Uni) (f : Nat) (c : Con U) : Prop := Enters P f ∧ SoundC P U f c
def Oks (P : Program) (U : Uni) (f : Nat) : List (Con U) → Prop
  | [] => True
  | c :: r => Ok P U f c ∧ Oks P U f r
def EOk (P : Program) (U : Uni) : List (Nat × List (Con U)) → Prop
  | [] => True
  | p :: r => Oks P U p.1 p.2 ∧ EOk P U r
def KOk (d : FD U) (fn : Func) (k : Nat) : Nat → List (CutD U (TL U.D (lvsL d.R ++ outsL d.A))) → Prop
  | _, [] => True
  | i, c :: r => (∀ x, VS d fn k i c.S x = c.f (k + 1) x) ∧ KOk d fn k (i + 1) r
def K0Ok : List (CutD U R) → Prop
  | [] => True
  | c :: r => (∀ x, c.f 0 x = none) ∧ K0Ok r
theorem Oks.mem {f : Nat} : ∀ {l : List (Con U)}, Oks P U f l → ∀ c ∈ l, Ok P U f c
  | [], _, c, h => by simp at h
  | x :: l, h, c, hc => by
    rcases List.mem_cons.1 hc with rfl | hc
    · exact h.1
    · exact Oks.mem h.2 c hc
theorem EOk.env : ∀ {l : List (Nat × List (Con U))}, EOk P U l → EnvOk P U (El l)
  | [], _, g, c, h => by cases h
  | p :: l, h, g, c, hc => by
    simp only [El] at hc
    cases hb : Nat.beq p.1 g with
    | true =>
      rw [hb] at hc
      have := Nat.eq_of_beq_eq_true hb
      subst this
      exact h.1.mem c hc
    | false => rw [hb] at hc; exact EOk.env h.2 g c hc
theorem Fl_zero : ∀ {l : List (CutD U R)}, K0Ok l → ∀ id s, Fl l 0 id s = none
  | [], _, id, s => rfl
  | c :: l, h, id, s => by
    simp only [Fl]
    cases Nat.beq c.id id with
    | true =>
      simp only [cond_true, Fcut]
      split
      · exact h.1 _
      · rfl
    | false => exact Fl_zero h.2 id s
theorem nthC_of : ∀ (l : List (Nat × (St U.D → Option R))) (i : Nat) (p : Nat × (St U.D → Option R)), l[i]? = some p → ∀ s, nthC l i s = p.2 s
  | [], i, p, h, s => by simp at h
  | x :: l, 0, p, h, s => by simp at h; subst h; rfl
  | x :: l, i + 1, p, h, s => nthC_of l i p (by simpa using h) s
theorem KOk.get {d : FD U} {fn : Func} {k : Nat} : ∀ {l : List (CutD U (TL U.D (lvsL d.R ++ outsL d.A)))} {j : Nat}, KOk d fn k j l → ∀ (i : Nat) (c : CutD U (TL U.D (lvsL d.R ++ outsL d.A))), l[i]? = some c → ∀ x, VS d fn k (j + i) c.S x = c.f (k + 1) x
  | [], j, _, i, c, h, x => by simp at h
  | y :: l, j, hk, 0, c, h, x => by simp at h; subst h; exact hk.1 x
  | y :: l, j, hk, i + 1, c, h, x => by
    have := KOk.get hk.2 i c (by simpa using h) x
    rwa [show j + 1 + i = j + (i + 1) by omega] at this
theorem Fl_get : ∀ {l : List (CutD U R)} {k i : Nat} {c : CutD U R}, (l.map (·.id)).Nodup → l[i]? = some c → Fl l k c.id = Fcut c.S (c.f k)
  | [], k, i, c, _, h => by simp at h
  | y :: l, k, 0, c, hn, h => by
    simp at h; subst h
    simp only [Fl, Nat.beq_refl, cond_true]
  | y :: l, k, i + 1, c, hn, h => by
    simp only [List.map_cons, List.nodup_cons] at hn
    simp only [Fl]
    have hne : Nat.beq y.id c.id = false := by
      cases hb : Nat.beq y.id c.id with
      | false => rfl
      | true =>
        refine absurd ?_ hn.1
        rw [Nat.eq_of_beq_eq_true hb]
        exact List.mem_map.2 ⟨c, List.mem_of_getElem? (by simpa using h), rfl⟩
    rw [hne]
    exact Fl_get hn.2 (by simpa using h)
theorem hcut_of {d : FD U} {fn : Func} {k : Nat} (hid : (VL d fn k).map (·.1) = d.K.map (·.id)) (hnd : (d.K.map (·.id)).Nodup) (hk : KOk d fn k 0 d.K) :
    ∀ id q, (id, q) ∈ VL d fn k → ∀ s : St U.D, ∀ r, Fl d.K (k + 1) id s = some r → ∃ (S : Slot) (x : TL U.D (lvsL S.ss)), proj S s = some x ∧ q (slot fn.ntmps S x) = some r := by
  intro id q hq s r hr
  obtain ⟨i, hi⟩ := List.getElem?_of_mem hq
  have hi2 : (d.K.map (·.id))[i]? = some id := by rw [← hid, List.getElem?_map, hi]; rfl
  rw [List.getElem?_map] at hi2
  obtain ⟨c, hc, rfl⟩ := Option.map_eq_some_iff.1 hi2
  rw [Fl_get hnd hc] at hr
  unfold Fcut at hr
  cases hp : proj c.S s with
  | none => rw [hp] at hr; cases hr
  | some x =>
    rw [hp] at hr
    refine ⟨c.S, x, hp, ?_⟩
    have := hk.get i c hc x
    rw [Nat.zero_add] at this
    unfold VS at this
    rw [nthC_of _ _ _ hi] at this
    exact this.trans hr
def stOk (d : FD U) (fn : Func) : Bool := !(fn.name == "runtime.NumGoroutine") && okC (ioIx 0 d.A) (bodyOf fn) && Nat.ble d.A.length fn.ntmps && (draws (bodyOf fn)).all okD && ndp (d.K.map (·.id))
theorem ndp_nd : ∀ {l : List Nat}, ndp l = true → l.Nodup
  | [], _ => List.nodup_nil
  | x :: l, h => by
    simp only [ndp, Bool.and_eq_true, Bool.not_eq_true'] at h
    refine List.nodup_cons.2 ⟨fun hm => ?_, ndp_nd h.2⟩
    rw [hasK_iff.2 hm] at h
    exact absurd h.1 (by simp)
theorem ent_of {f : FuncId} {fn : Func} {body : Code} (hf : P.funcs[f]? = some fn) (hb : fn.body = some body) (hn : (fn.name == "runtime.NumGoroutine") = false) : Enters P f := by
  intro args w
  unfold callFunc
  simp only [Sem.run_bind, run_program, Result.andThen_ok, hf, hn, hb, Option.isNone_some, Bool.false_eq_true, if_false]
  rfl
theorem fn_ok (PL : Plaw P U) (hm : P.follows .mixedOrders = true) {f : FuncId} {fn : Func} {body : Code} (hf : P.funcs[f]? = some fn) (hb : fn.body = some body) (d : FD U) {g : Nat → TL U.D (lvsL d.A) → Option (TL U.D (lvsL d.R ++ outsL d.A))}
    (hst : stOk d fn = true) (hid : ∀ k, (VL d fn k).map (·.1) = d.K.map (·.id)) (hz : K0Ok d.K) (hE : ∀ k, EOk P U (d.E k)) (htop : ∀ k x, VT d fn k x = g k x) (hk : ∀ k, KOk d fn k 0 d.K) (k : Nat) : Ok P U f ⟨d.A, d.R, g k⟩ := by
  have e : bodyOf fn = body := by unfold bodyOf; rw [hb]
  simp only [stOk, Bool.and_eq_true, Bool.not_eq_true'] at hst
  refine ⟨ent_of hf hb hst.1.1.1.1, sound_fn' (n0 := k) (J := d.J) (E := fun k => El (d.E k)) (F := fun k => Fl d.K k) (g := g) PL hm hf hb (fun k _ => (hE k).env) (Fl_zero hz) ?_ (fun k x => ?_) (fun k => ?_) k (Nat.le_refl _)⟩
  · rw [← e]; simp only [Bool.and_eq_true]; exact ⟨⟨hst.1.1.1.2, hst.1.1.2⟩, hst.1.2⟩
  · rw [← e]; exact htop k x
  · rw [← e]; exact hcut_of (hid k) (ndp_nd hst.2) (hk k)
theorem ring_ok (PL : Plaw P U) (hm : P.follows .mixedOrders = true) {f : FuncId} {fn : Func} {body : Code} (hf : P.funcs[f]? = some fn) (hb : fn.body = some body) (d : FD U) {g : Nat → TL U.D (lvsL d.A) → Option (TL U.D (lvsL d.R ++ outsL d.A))}
    (hst : stOk d fn = true) (hid : ∀ k, (VL d fn k).map (·.1) = d.K.map (·.id)) (hz : K0Ok d.K) (htop : ∀ k x, VT d fn k x = g (k + 1) x) (hk : ∀ k, KOk d fn k 0 d.K) (k : Nat) (hE : ∀ j, j ≤ k → EOk P U (d.E j)) : Ok P U f ⟨d.A, d.R, g (k + 1)⟩ := by
  have e : bodyOf fn = body := by unfold bodyOf; rw [hb]
  simp only [stOk, Bool.and_eq_true, Bool.not_eq_true'] at hst
  refine ⟨ent_of hf hb hst.1.1.1.1, sound_fn' (n0 := k) (J := d.J) (E := fun k => El (d.E k)) (F := fun k => Fl d.K k) (g := fun j => g (j + 1)) PL hm hf hb (fun k hk => (hE k hk).env) (Fl_zero hz) ?_ (fun k x => ?_) (fun k => ?_) k (Nat.le_refl _)⟩
  · rw [← e]; simp only [Bool.and_eq_true]; exact ⟨⟨hst.1.1.1.2, hst.1.1.2⟩, hst.1.2⟩
  · rw [← e]; exact htop k x
  · rw [← e]; exact hcut_of (hid k) (ndp_nd hst.2) (hk k)
theorem zero_ok {f : FuncId} (hen : Enters P f) {A R : List Sg} {g : TL U.D (lvsL A) → Option (TL U.D (lvsL R ++ outsL A))} (h : ∀ x, g x = none) : Ok P U f ⟨A, R, g⟩ := by
  refine ⟨hen, fun κ0 x y hy => ?_⟩
  have := h x
  rw [show g x = some y from hy] at this
  cases this
theorem ring_ind {Q : Nat → Prop} (h0 : Q 0) (hs : ∀ k, (∀ j, j ≤ k → Q j) → Q (k + 1)) (k : Nat) : Q k := by
  induction k using Nat.strongRecOn with
  | _ k ih =>
    cases k with
    | zero => exact h0
    | succ k => exact hs k (fun j hj => ih j (by omega))
end Go.Proofs.YtpdnnndedejlhaaGreatV
/- What a law's parameter reads as: rows, structs, trees of structs. -/
namespace Go.Proofs.YtpdnnndedejlhaaGreatV
open Go
set_option linter.unusedVariables false
set_option linter.unusedSimpArgs false
variable {U : Uni} {P : Program}
def RCs (U : Uni) (w : World) (cs : List (VV U.D)) (vs : List Value) : Prop := cs.length = vs.length ∧ ∀ (i : Nat) (c : VV U.D) (v : Value), cs[i]? = some c → vs[i]? = some v → RC U (fun b => b < w.heap.size) w c v
def Opn (P : Program) (U : Uni) (t : TypeId) {α : Type} (e : EL U.D α) (G : α → Prop) (n : Nat) : Prop :=
  ∀ (H : Type) (enc : TypeId × Value → H) (w : World) (base : Nat) (sp : Nat → Bool) (held : Bool) (cs : List Value) (y : DataW H × List MemPlace), DataW.trod enc P w base sp held n t cs = some y → ∃ x, RCs U w (e.cells x) cs ∧ G x
theorem RCs.one {w : World} {c : VV U.D} {v : Value} (h : RC U (fun b => b < w.heap.size) w c v) : RCs U w [c] [v] := by
  refine ⟨rfl, fun i c' v' h1 h2 => ?_⟩
  cases i with
  | zero => simp at h1 h2; subst h1 h2; exact h
  | succ i => simp at h1
theorem RCs.app {w : World} {as bs : List (VV U.D)} {vs us : List Value} (h : RCs U w as vs) (h' : RCs U w bs us) : RCs U w (as ++ bs) (vs ++ us) := by
  refine ⟨by simp [h.1, h'.1], fun j c v h1 h2 => ?_⟩
  by_cases hj : j < as.length
  · rw [List.getElem?_append_left hj] at h1
    rw [List.getElem?_append_left (by rw [← h.1]; exact hj)] at h2
    exact h.2 j c v h1 h2
  · rw [List.getElem?_append_right (by omega)] at h1
    rw [List.getElem?_append_right (by rw [← h.1]; omega), ← h.1] at h2
    exact h'.2 _ c v h1 h2
theorem opn_int {t : TypeId} {k : IntKind} (ht : P.underlying t = some (.int k)) (n : Nat) : Opn P U t (EL.int k) (fun x => (Lit.int k x).wf = true) n := by
  intro H enc w base sp held cs y h
  obtain ⟨m, rfl, _, hw⟩ := DataW.trod_int ht h
  exact ⟨m, .one (.int _ _), hw⟩
theorem list_ofV {α : Type} {p : Nat → α → Prop} : ∀ n, (∀ i, i < n → ∃ x, p i x) → ∃ xs : List α, xs.length = n ∧ ∀ i x, xs[i]? = some x → p i x
  | 0, _ => ⟨[], rfl, fun i x h => by simp at h⟩
  | n + 1, h => by
    obtain ⟨xs, hl, hx⟩ := list_ofV n (fun i hi => h i (by omega))
    obtain ⟨x, hp⟩ := h n (by omega)
    refine ⟨xs ++ [x], by simp [hl], fun i z hz => ?_⟩
    rcases Nat.lt_or_ge i n with hi | hi
    · rw [List.getElem?_append_left (by omega)] at hz
      exact hx i z hz
    · have hi2 : i = n := by
        have := (List.getElem?_eq_some_iff.1 hz).1
        simp [hl] at this
        omega
      subst hi2
      rw [List.getElem?_append_right (by omega)] at hz
      simp [hl] at hz
      rw [← hz]; exact hp
theorem cells_eachV {w : World} {base : Nat} {a : Addr} {n : Nat} {cs : List Value} (h : w.cells? base a n = some cs) : cs.length = n ∧ ∀ i u, cs[i]? = some u → w.cell? (a.add i) = some u := by
  unfold World.cells? at h
  split at h
  · have hl := mapM_some_length h
    simp at hl
    refine ⟨hl, fun i u hu => ?_⟩
    have hi := (List.getElem?_eq_some_iff.1 hu).1
    have h1 := mapM_some_get h i i (by rw [List.getElem?_range (by omega)])
    rw [hu] at h1
    exact h1
  · cases h
theorem opn_row {t e : TypeId} {n : Nat} {d : EL U.D (U.D e)} {G : U.D e → Prop} (hd : ∀ x, U.cells e x = d.cells x) (PL : Ulaw U) (ht : P.underlying t = some (.slice e)) (hc : P.cellsOf e = U.sz e) (hz : 1 ≤ U.sz e) (h : ∀ m, m < n → Opn P U e d G m) :
    Opn P U t (EL.row e) (fun xs => xs.length ≤ maxLen ∧ ∀ x ∈ xs, G x) n := by
  intro H enc w base sp held cs y hy
  rcases DataW.trod_slice ht hy with ⟨rfl, _⟩ | ⟨a, len, cap, elems, rest, m, rfl, rfl, _, hb, hlc, hm, hlen, hel, _, _⟩
  · exact ⟨[], .one (.tree0 _ _ _), by simp, fun x hx => by simp at hx⟩
  · have each : ∀ i, i < len → ∃ xc : U.D e × List Value, w.cells? base (a.add (i * U.sz e)) (U.sz e) = some xc.2 ∧ RCs U w (U.cells e xc.1) xc.2 ∧ G xc.1 := by
      intro i hi
      have h1 := hel i hi
      rw [hc] at h1
      have hi2 : i < elems.length := by omega
      rw [List.getElem?_eq_getElem hi2, Option.bind_eq_some_iff] at h1
      obtain ⟨c, hcc, hct⟩ := h1
      obtain ⟨x, hK, hG⟩ := h m (by omega) H enc w base sp held c _ hct
      exact ⟨(x, c), hcc, by rw [hd]; exact hK, hG⟩
    obtain ⟨xs, hl, hx⟩ := list_ofV len each
    have hmap : (xs.map (·.1)).length = len := by rw [List.length_map, hl]
    refine ⟨xs.map (·.1), ?_, by rw [hmap]; exact Nat.le_trans hlc hm, fun x hx' => ?_⟩
    · refine .one ?_
      cases hxs : xs with
      | nil =>
        rw [hxs] at hl
        simp at hl
        subst hl
        exact .tree0 _ _ _
      | cons p q =>
        rw [← hxs, ← hmap]
        have hcell : ∀ (i : Nat) (x : U.D e) (j : Nat) (c : VV U.D), (xs.map (·.1))[i]? = some x → (U.cells e x)[j]? = some c → ∃ v, w.cell? (a.add (i * U.sz e + j)) = some v ∧ RC U (fun b => b < w.heap.size) w c v := by
          intro i x j c hi hj
          rw [List.getElem?_map, Option.map_eq_some_iff] at hi
          obtain ⟨xc, hxc, rfl⟩ := hi
          obtain ⟨h1, h2, _⟩ := hx i xc hxc
          obtain ⟨h3, h4⟩ := cells_eachV h1
          have hj' : j < xc.2.length := by rw [← h2.1]; exact idx_lt hj
          have hv : xc.2[j]? = some xc.2[j] := List.getElem?_eq_getElem hj'
          refine ⟨_, ?_, h2.2 j c _ hj hv⟩
          have := h4 j _ hv
          rwa [Addr.add_add] at this
        refine .tree (fun i j => (w.cell? (a.add (i * U.sz e + j))).getD (.bool false)) (by rw [hmap]; exact hlc) ?_ (fun i x j c hi hj => ?_) (fun i x j c hi hj => ?_)
        · have h0 : (xs.map (·.1))[0]? = some p.1 := by rw [hxs]; rfl
          have hlen : 0 < (U.cells e p.1).length := by rw [PL.len]; omega
          obtain ⟨v, hv, _⟩ := hcell 0 p.1 0 _ h0 (List.getElem?_eq_getElem hlen)
          have := World.block_lt_of_cell? w _ hv
          rwa [add_block] at this
        · obtain ⟨v, hv, _⟩ := hcell i x j c hi hj
          rw [hv]; rfl
        · obtain ⟨v, hv, hr⟩ := hcell i x j c hi hj
          rw [hv]; exact hr
    · obtain ⟨xc, hm', rfl⟩ := List.mem_map.1 hx'
      obtain ⟨j, hj⟩ := List.getElem?_of_mem hm'
      exact (hx j xc hj).2.2
def FOpn (P : Program) (U : Uni) (fs : List Field) (off : Nat) {α : Type} (d : EL U.D α) (G : α → Prop) (m : Nat) : Prop :=
  ∀ (H : Type) (enc : TypeId × Value → H) (w : World) (base : Nat) (sp : Nat → Bool) (held : Bool) (cs : List Value), (∀ f ∈ fs, ∃ y, DataW.trod enc P w base sp held m f.type ((cs.drop f.offset).take (P.cellsOf f.type)) = some y) → ∃ x, RCs U w (d.cells x) ((cs.drop off).take d.sz) ∧ G x
theorem fopn_one {f : Field} {off m : Nat} {α : Type} {d : EL U.D α} {G : α → Prop} (ho : f.offset = off) (hc : P.cellsOf f.type = d.sz) (h : Opn P U f.type d G m) : FOpn P U [f] off d G m := by
  intro H enc w base sp held cs hf
  obtain ⟨y, hy⟩ := hf f (List.mem_singleton.2 rfl)
  rw [ho, hc] at hy
  exact h H enc w base sp held _ y hy
theorem fopn_cons {f : Field} {fs : List Field} {off m : Nat} {α β : Type} {a : EL U.D α} {b : EL U.D β} {G : α → Prop} {G' : β → Prop} (ho : f.offset = off) (hc : P.cellsOf f.type = a.sz) (h : Opn P U f.type a G m) (hs : FOpn P U fs (off + a.sz) b G' m) :
    FOpn P U (f :: fs) off (EL.pair a b) (fun x => G x.1 ∧ G' x.2) m := by
  intro H enc w base sp held cs hf
  obtain ⟨y, hy⟩ := hf f List.mem_cons_self
  rw [ho, hc] at hy
  obtain ⟨x1, k1, g1⟩ := h H enc w base sp held _ y hy
  obtain ⟨x2, k2, g2⟩ := hs H enc w base sp held cs (fun f' hf' => hf f' (List.mem_cons_of_mem _ hf'))
  refine ⟨(x1, x2), ?_, g1, g2⟩
  show RCs U w (a.cells x1 ++ b.cells x2) (List.take (a.sz + b.sz) (List.drop off cs))
  rw [List.take_add, List.drop_drop]
  exact k1.app k2
theorem opn_struct {t : TypeId} {fs : Array Field} {α : Type} {d : EL U.D α} {G : α → Prop} {n : Nat} (ht : P.underlying t = some (.struct fs)) (hc : P.cellsOf t = d.sz) (h : ∀ m, m < n → FOpn P U fs.toList 0 d G m) : Opn P U t d G n := by
  intro H enc w base sp held cs y hy
  obtain ⟨xs, m, rfl, _, hl, hlen, hf⟩ := DataW.trod_struct ht hy
  obtain ⟨x, hK, hG⟩ := h m (by omega) H enc w base sp held cs (fun f hf' => by
    obtain ⟨i, hi⟩ := List.getElem?_of_mem hf'
    have hi' : fs[i]? = some f := by simpa using hi
    have hlt : i < xs.length := by
      have := (Array.getElem?_eq_some_iff.1 hi').1
      omega
    exact ⟨_, (hf i f hi').trans (List.getElem?_eq_getElem hlt)⟩)
  rw [List.drop_zero, ← hc, ← hl, List.take_length] at hK
  exact ⟨x, hK, hG⟩
theorem opn_iso {t : TypeId} {α β : Type} {d : EL U.D α} {G : α → Prop} {n : Nat} {f : α → β} {g : β → α} (hgf : ∀ x, g (f x) = x) (h : Opn P U t d G n) : Opn P U t (EL.iso d f g) (fun y => G (g y)) n := by
  intro H enc w base sp held cs y hy
  obtain ⟨x, hK, hG⟩ := h H enc w base sp held cs y hy
  exact ⟨f x, by show RCs U w (d.cells (g (f x))) cs; rw [hgf]; exact hK, by show G (g (f x)); rw [hgf]; exact hG⟩
theorem opn_imp {t : TypeId} {α : Type} {d : EL U.D α} {G G' : α → Prop} {n : Nat} (h : Opn P U t d G n) (hG : ∀ x, G x → G' x) : Opn P U t d G' n := by
  intro H enc w base sp held cs y hy
  obtain ⟨x, hK, hx⟩ := h H enc w base sp held cs y hy
  exact ⟨x, hK, hG x hx⟩
theorem opn_fixG {t : TypeId} {α : Type} {d : EL U.D α} (GF : (α → Prop) → α → Prop) (gmono : ∀ {G G' : α → Prop}, (∀ x, G x → G' x) → ∀ x, GF G x → GF G' x)
    (step : ∀ (n : Nat) (G : α → Prop), (∀ m, m < n → Opn P U t d G m) → Opn P U t d (GF G) n) (n : Nat) : Opn P U t d (fun x => ∃ k, Nat.rec (motive := fun _ => α → Prop) (fun _ => False) (fun _ G => GF G) k x) n := by
  have gle : ∀ m k, m ≤ k → ∀ x, (Nat.rec (motive := fun _ => α → Prop) (fun _ => False) (fun _ G => GF G) m) x → (Nat.rec (motive := fun _ => α → Prop) (fun _ => False) (fun _ G => GF G) k) x := by
    intro m
    induction m with
    | zero => intro k _ x h; exact h.elim
    | succ m ih =>
      intro k hk x h
      obtain ⟨k, rfl⟩ : ∃ j, k = j + 1 := ⟨k - 1, by omega⟩
      exact gmono (fun x h => ih k (by omega) x h) x h
  have key : ∀ n, Opn P U t d (Nat.rec (motive := fun _ => α → Prop) (fun _ => False) (fun _ G => GF G) n) n := by
    intro n
    induction n using Nat.strongRecOn with
    | _ n ih =>
      cases n with
      | zero => intro H enc w base sp held cs y hy; simp [DataW.trod] at hy
      | succ n => exact step (n + 1) _ (fun m hm => opn_imp (ih m hm) (fun x h => gle m n (by omega) x h))
  exact opn_imp (key n) (fun x h => ⟨n, h⟩)
theorem RCs.agg {w : World} {L : Lc} {cs : List (VV U.D)} {vs : Array Value} (h : RCs U w cs vs.toList) : RV U (fun b => b < w.heap.size) w L (.agg cs) (.agg vs) :=
  .agg (by simpa using h.1) (fun i c v hc hv => .leaf (h.2 i c v hc (by simpa using hv))) (fun i v hv => by
    have hlt : i < cs.length := by rw [h.1]; exact idx_lt (by simpa using hv)
    exact (h.2 i _ v (List.getElem?_eq_getElem hlt) (by simpa using hv)).one)
theorem RCs.leaf {w : World} {L : Lc} {c : VV U.D} {v : Value} (h : RCs U w [c] [v]) : RV U (fun b => b < w.heap.size) w L c v := .leaf (h.2 0 c v rfl rfl)
def L0 : Lc := { bg := fun _ => 0, bo := fun _ => 0, bs := fun _ => 0, bn := fun _ => 0, rv := fun _ => .bool false, cl := fun _ => 0, kv := .bool false }
theorem M0 (w : World) : MRel U ⟨fun b => b < w.heap.size, fun b => b < w.heap.size, w, fun _ => none⟩ L0 [] w :=
  { me := fun κ b hb => (by cases hb), fg := fun b hb => hb, g0 := fun b hb => ⟨hb, rfl, rfl⟩, hl := fun b hb => absurd rfl hb, rvo := fun _ => rfl, hs := Nat.le_refl _, os := rfl, tp := rfl, ou := rfl }
theorem law_end {c : Con U} {x : TL U.D (lvsL c.A)} {y : TL U.D (lvsL c.R ++ outsL c.A)} {vs : List Value} {w : World} {r : Bool} {kv : Value} {f : FuncId} {args : Array Value} (hR : c.R.length = 1) (hio : ioU c.A vs = [])
    (hcs : (encL (c.R ++ ioS c.A) 0 ((unty (lvsL c.R ++ outsL c.A) y).take (lvsL c.R).length ++ mergeL c.A (unty (lvsL c.A) x) ((unty (lvsL c.R ++ outsL c.A) y).drop (lvsL c.R).length))).1 = [.bv r])
    (h : Calls P f args w (Ret U c ⟨fun b => b < w.heap.size, fun b => b < w.heap.size, w, fun _ => none⟩ kv 0 x y vs)) : Calls P f args w fun en w' => en = .returned (.bool r) ∧ RowKit.Below w.heap.size w w' := by
  refine h.mono fun en w' hr => ?_
  cases en with
  | returned u =>
    obtain ⟨L2, cs2, m2, κ2, rs, he, rfl, hl, hrv, hM, -⟩ := hr
    rw [he] at hcs
    simp only at hcs
    subst hcs
    rw [hR] at hl
    obtain ⟨u, rfl⟩ : ∃ u, rs = [u] := by
      cases rs with
      | nil => simp at hl
      | cons a t => cases t with
        | nil => exact ⟨a, rfl⟩
        | cons _ _ => simp at hl
    have hu := hrv.2 0 (.bv r) u rfl rfl
    refine ⟨by rw [hu.bool_inv (b := r) rfl]; rfl, hM.os, hM.tp, hM.ou, hM.hs, fun b hb => (hM.g0 b hb).2.2⟩
  | _ => exact hr.elim
end Go.Proofs.YtpdnnndedejlhaaGreatV
/- Library functions over a row of whole numbers of the frame's own. -/
namespace Go.Proofs.YtpdnnndedejlhaaGreatV
open Go
set_option linter.unusedVariables false
set_option linter.unusedSimpArgs false
section
variable {U : Uni} {P : Program} {e : Nat} {toI : U.D e → Int}
structure IntEl (U : Uni) (e : Nat) (toI : U.D e → Int) : Prop where
  cells : ∀ x, U.cells e x = [.int .i64 (toI x)]
  sz : U.sz e = 1
structure OneW (w w' : World) (g e : Nat) (cur cur' : Array Value) : Prop where
  at_ : w'.heap[g]? = some (.cells cur' e (0, 0))
  sz : cur'.size = cur.size
  ot : ∀ k, k < w.heap.size → k ≠ g → w'.heap[k]? = w.heap[k]?
  le : w.heap.size ≤ w'.heap.size
  os : w'.os = w.os
  tp : w'.tape = w.tape
  ou : w'.output = w.output
end
end Go.Proofs.YtpdnnndedejlhaaGreatV
/- A row that is made, with room. -/
namespace Go.Proofs.YtpdnnndedejlhaaGreatV
open Go
set_option linter.unusedVariables false
set_option linter.unusedSimpArgs false
section
variable {U : Uni} {P : Program} {e : Nat}
theorem grow_given {f : FuncId} (hen : Enters P f) {g : List (U.D e) → Int → Option (List (U.D e))} (hg : ∀ l n r, g l n = some r → r = [] ∧ 0 < n ∧ n < 2199023255552)
    (hr : ∀ (n : Nat) (w : World), 0 < n → n < 2199023255552 → Calls P f #[.slice none 0 0, .int .i64 n] w fun e' w' => ∃ cap cells, e' = .returned (.slice (some ⟨w.heap.size, 0, none⟩) 0 cap) ∧ w' = w.drew.alloc (.cells cells e (0, 0)) ∧ cap ≤ 9223372036854775807 ∧ cap * U.sz e ≤ cells.size) :
    Ok P U f ⟨[.c (.nul e), .c (.int .i64)], [.c (.own e)], fun x => g x.1 x.2⟩ := by
  refine ⟨hen, ?_⟩
  intro κ0 (x : List (U.D e) × Int) (y : List (U.D e)) (hy : g x.1 x.2 = some y) F G L w vs cs m κ he hv hM hKF
  cases he
  obtain ⟨rfl, h0, h1⟩ := hg _ _ _ hy
  obtain ⟨v, t, rfl, hv0, hv1⟩ := hv.uncons
  obtain ⟨u, t, rfl, hu0, hu1⟩ := hv1.uncons
  have ht : t = [] := List.eq_nil_of_length_eq_zero hu1.1.symm
  subst ht
  have ev := hv0.nil_inv
  have eu := hu0.int_inv
  subst ev eu
  obtain ⟨n, hn⟩ : ∃ n : Nat, x.2 = (n : Int) := ⟨x.2.toNat, by omega⟩
  rw [hn] at h0 h1 ⊢
  refine (hr n w (by omega) (by omega)).mono ?_
  rintro e' w' ⟨cap, cells, rfl, rfl, hk, hc⟩
  have hold : ∀ b, b < w.heap.size → (w.drew.alloc (.cells cells e (0, 0))).heap[b]? = w.heap[b]? := fun b hb => heap_alloc (w := w.drew) hb
  let L2 : Lc := { bg := fun _ => w.heap.size, bo := fun _ => 0, bs := fun _ => U.sz e, bn := fun _ => 0, rv := fun _ => .slice (some ⟨w.heap.size, 0, none⟩) 0 cap, cl := fun b => if b = w.heap.size then κ0 + 1 else 0, kv := L.kv }
  refine ⟨L2, [.ref κ0], [(κ0, .row e [])], κ0 + 1, [.slice (some ⟨w.heap.size, 0, none⟩) 0 cap], rfl, rfl, rfl, RVs.cons (RV.ref (L := L2) κ0) RVs.nil,
    { me := fun κ b hb => ?_, fg := hM.fg, g0 := fun b hb => ?_, hl := fun b hb => ?_, rvo := fun _ => rfl, hs := ?_, os := rfl, tp := rfl, ou := rfl }, rfl, fun q b hb => ?_⟩
  · simp only [mget] at hb
    cases hq : Nat.beq κ0 κ with
    | false => rw [hq] at hb; cases hb
    | true =>
      rw [hq] at hb
      have := Nat.eq_of_beq_eq_true hq
      subst this
      cases hb
      refine ⟨?_, rfl, fun g' o' n c h => ?_⟩
      · exact RO.tree (U := U) (k := e) (xs := []) (g := w.heap.size) (o := 0) (cap := cap) (cur := cells) (fun _ => 0) (if_pos rfl) (heap_alloc_self (w := w.drew)) (Nat.zero_le _) hk (by rw [Nat.zero_add]; exact hc) (fun i x j c hx => by simp at hx)
      · have h' : (Value.slice (some ⟨w.heap.size, 0, none⟩) 0 cap) = .slice (some ⟨g', o', none⟩) n c := h
        simp only [Value.slice.injEq, Option.some.injEq, Addr.mk.injEq, and_true] at h'
        exact ⟨h'.1.1, h'.1.2, rfl⟩
  · obtain ⟨h1, h2, h3⟩ := hM.g0 b hb
    exact ⟨h1, if_neg (Nat.ne_of_lt h1), hold b h1⟩
  · by_cases hbg : b = w.heap.size
    · subst hbg
      exact heap_lt (heap_alloc_self (w := w.drew) (ob := .cells cells e (0, 0)))
    · simp [L2, hbg] at hb
  · have := heap_lt (heap_alloc_self (w := w.drew) (ob := .cells cells e (0, 0)))
    exact Nat.le_of_lt this
  · simp only [mget] at hb
    cases hq : Nat.beq κ0 q with
    | false => rw [hq] at hb; cases hb
    | true => have := Nat.eq_of_beq_eq_true hq; omega
end
end Go.Proofs.YtpdnnndedejlhaaGreatV
/- A row of flat elements into which one is put. -/
namespace Go.Proofs.YtpdnnndedejlhaaGreatV
open Go
set_option linter.unusedVariables false
set_option linter.unusedSimpArgs false
section
variable {U : Uni} {P : Program} {e K : Nat} {fl : U.D e → List Int}
structure FlatEl (U : Uni) (e K : Nat) (fl : U.D e → List Int) : Prop where
  cells : ∀ x, U.cells e x = (fl x).map (VV.int .i64)
  sz : U.sz e = K
  len : ∀ x, (fl x).length = K
def flc (fl : U.D e → List Int) : List (U.D e) → List Value
  | [] => []
  | x :: l => (fl x).map (Value.int .i64) ++ flc fl l
theorem flc_len (hI : FlatEl U e K fl) : ∀ l : List (U.D e), (flc fl l).length = l.length * K
  | [] => by simp [flc]
  | x :: l => by rw [flc, List.length_append, List.length_map, hI.len, flc_len hI l, List.length_cons, Nat.add_mul, Nat.one_mul, Nat.add_comm]
theorem flc_app : ∀ l m : List (U.D e), flc fl (l ++ m) = flc fl l ++ flc fl m
  | [], m => rfl
  | x :: l, m => by rw [List.cons_append, flc, flc, flc_app l m, List.append_assoc]
theorem flc_take (hI : FlatEl U e K fl) (l : List (U.D e)) (i : Nat) (hi : i ≤ l.length) : flc fl (l.take i) = (flc fl l).take (i * K) := by
  have h : flc fl l = flc fl (l.take i) ++ flc fl (l.drop i) := by rw [← flc_app, List.take_append_drop]
  have hl : (flc fl (l.take i)).length = i * K := by rw [flc_len hI, List.length_take, Nat.min_eq_left hi]
  rw [h, ← hl, List.take_left]
theorem flc_drop (hI : FlatEl U e K fl) (l : List (U.D e)) (i : Nat) (hi : i ≤ l.length) : flc fl (l.drop i) = (flc fl l).drop (i * K) := by
  have h : flc fl l = flc fl (l.take i) ++ flc fl (l.drop i) := by rw [← flc_app, List.take_append_drop]
  have hl : (flc fl (l.take i)).length = i * K := by rw [flc_len hI, List.length_take, Nat.min_eq_left hi]
  conv => rhs; rw [h, ← hl, List.drop_left]
theorem flc_get (hI : FlatEl U e K fl) : ∀ (l : List (U.D e)) (i j : Nat) (x : U.D e) (n : Int), l[i]? = some x → (fl x)[j]? = some n → (flc fl l)[i * K + j]? = some (.int .i64 n)
  | [], i, j, x, n, h, _ => by simp at h
  | y :: l, 0, j, x, n, h, hj => by
    have e1 : y = x := by simpa using h
    subst e1
    have hl := idx_lt hj
    rw [flc, Nat.zero_mul, Nat.zero_add, List.getElem?_append_left (by rw [List.length_map]; exact hl), List.getElem?_map, hj]
    rfl
  | y :: l, i + 1, j, x, n, h, hj => by
    have ih := flc_get hI l i j x n (by simpa using h) hj
    have hl : ((fl y).map (Value.int .i64)).length = K := by rw [List.length_map, hI.len]
    rw [flc, List.getElem?_append_right (by rw [hl, Nat.add_mul]; omega), hl, show (i + 1) * K + j - K = i * K + j by rw [Nat.add_mul]; omega]
    exact ih
theorem flc_all (hI : FlatEl U e K fl) {Q : Nat → Value → Prop} : ∀ (l : List (U.D e)) (o : Nat), (∀ (i j : Nat) (x : U.D e) (n : Int), l[i]? = some x → (fl x)[j]? = some n → Q (o + (i * K + j)) (.int .i64 n)) → ∀ (j : Nat) (v : Value), (flc fl l)[j]? = some v → Q (o + j) v
  | [], o, _, j, v, h => by simp [flc] at h
  | y :: l, o, hq, j, v, h => by
    have hl : ((fl y).map (Value.int .i64)).length = K := by rw [List.length_map, hI.len]
    rw [flc] at h
    by_cases hj : j < K
    · rw [List.getElem?_append_left (by rw [hl]; exact hj), List.getElem?_map] at h
      obtain ⟨n, hn, rfl⟩ := Option.map_eq_some_iff.1 h
      have := hq 0 j y n rfl hn
      rw [Nat.zero_mul, Nat.zero_add] at this
      exact this
    · rw [List.getElem?_append_right (by rw [hl]; omega), hl] at h
      have := flc_all hI (Q := Q) l (o + K) (fun i j' x n hx hn => by
        have := hq (i + 1) j' x n (by simpa using hx) hn
        rw [Nat.add_mul, Nat.one_mul] at this
        rw [show o + K + (i * K + j') = o + (i * K + K + j') by omega]
        exact this) (j - K) v h
      rw [show o + K + (j - K) = o + j by omega] at this
      exact this
theorem flc_one : ∀ (l : List (U.D e)), ∀ v ∈ flc fl l, v.oneCell' = true
  | [], v, h => by simp [flc] at h
  | x :: l, v, h => by
    rw [flc] at h
    rcases List.mem_append.1 h with h | h
    · obtain ⟨n, _, rfl⟩ := List.mem_map.1 h
      rfl
    · exact flc_one l v h
theorem RO.flats (hI : FlatEl U e K fl) {w : World} {ok : Nat → Prop} {l : List (U.D e)} {v : Value} (h : RO U w ok (.tree e l) v) :
    (v = .slice none 0 0 ∧ l = []) ∨ ∃ g o cap cur, v = .slice (some ⟨g, o, none⟩) l.length cap ∧ ok g ∧ w.heap[g]? = some (.cells cur e (0, 0)) ∧ l.length ≤ cap ∧ cap ≤ 9223372036854775807 ∧ o + cap * K ≤ cur.size ∧ ∀ j v, (flc fl l)[j]? = some v → cur[o + j]? = some v := by
  cases h with
  | bool hb => simp [boolOf] at hb
  | tree0 => exact .inl ⟨rfl, rfl⟩
  | @tree _ _ _ g o cap cur f hg hh hc hk hs hr =>
    rw [hI.sz] at hs
    refine .inr ⟨g, o, cap, cur, rfl, hg, hh, hc, hk, hs, flc_all hI (Q := fun j v => cur[j]? = some v) l o fun i j x n hx hn => ?_⟩
    have hi := idx_lt hx
    have hj := idx_lt hn
    rw [hI.len] at hj
    have h1 := hr i x j (.int .i64 n) hx (by rw [hI.cells, List.getElem?_map, hn]; rfl)
    rw [hI.sz] at h1
    have hm : (i + 1) * K ≤ cap * K := Nat.mul_le_mul_right K (by omega)
    rw [Nat.add_mul, Nat.one_mul] at hm
    have hlt : o + (i * K + j) < cur.size := by omega
    have e1 : cur.getD (o + (i * K + j)) (.bool false) = cur[o + (i * K + j)] := by simp [Array.getD, hlt]
    rw [e1] at h1
    rw [Array.getElem?_eq_getElem hlt]
    generalize cur[o + (i * K + j)] = u at h1
    cases h1 with
    | int => rfl
    | bool hb => simp [boolOf] at hb
theorem RO.of_flats (hI : FlatEl U e K fl) {w : World} {ok : Nat → Prop} {l : List (U.D e)} {g o cap : Nat} {cur : Array Value} (hg : ok g) (hh : w.heap[g]? = some (.cells cur e (0, 0))) (hc : l.length ≤ cap) (hk : cap ≤ 9223372036854775807) (hs : o + cap * K ≤ cur.size)
    (hx : ∀ j v, (flc fl l)[j]? = some v → cur[o + j]? = some v) : RO U w ok (.tree e l) (.slice (some ⟨g, o, none⟩) l.length cap) := by
  refine .tree (fun _ => 0) hg hh hc hk (by rw [hI.sz]; exact hs) (fun i x j c h1 h2 => ?_)
  rw [hI.cells, List.getElem?_map] at h2
  obtain ⟨n, hn, rfl⟩ := Option.map_eq_some_iff.1 h2
  have h3 := hx _ _ (flc_get hI l i j x n h1 hn)
  rw [hI.sz]
  have e1 : cur.getD (o + (i * K + j)) (.bool false) = .int .i64 n := by rw [Array.getD_eq_getD_getElem?, h3]; rfl
  rw [e1]
  exact .int _ _
structure PutW (w w' : World) (g e : Nat) (cur' : Array Value) : Prop where
  at_ : w'.heap[g]? = some (.cells cur' e (0, 0))
  ot : ∀ k, k < w.heap.size → k ≠ g → w'.heap[k]? = w.heap[k]?
  le : w.heap.size ≤ w'.heap.size
  os : w'.os = w.os
  tp : w'.tape = w.tape
  ou : w'.output = w.output
theorem put_mrel (hI : FlatEl U e K fl) {F G : Nat → Prop} {L : Lc} {w w' : World} {m : Mem U.D} (hM : MRel U ⟨F, G, w, fun _ => none⟩ L m w) (κ0 : Nat) {g o cap : Nat} {cur' : Array Value} {y : List (U.D e)} (hgc : L.cl g ≠ 0 ∨ w.heap.size ≤ g) (hw : PutW w w' g e cur') (hc : y.length ≤ cap) (hk : cap ≤ 9223372036854775807) (hs : o + cap * K ≤ cur'.size)
    (hx : ∀ j v, (flc fl y)[j]? = some v → cur'[o + j]? = some v) : ∃ L2 : Lc, L2.kv = L.kv ∧ L2.rv κ0 = .slice (some ⟨g, o, none⟩) y.length cap ∧ MRel U ⟨F, G, w, fun _ => none⟩ L2 [(κ0, .row e y)] w' := by
  refine ⟨{ bg := fun _ => g, bo := fun _ => o, bs := fun _ => K, bn := fun _ => y.length, rv := fun _ => .slice (some ⟨g, o, none⟩) y.length cap, cl := fun b => if b = g then κ0 + 1 else 0, kv := L.kv }, rfl, rfl,
    { me := fun κ b hb => ?_, fg := hM.fg, g0 := fun b hb => ?_, hl := fun b hb => ?_, rvo := fun _ => rfl, hs := hw.le, os := hw.os, tp := hw.tp, ou := hw.ou }⟩
  · simp only [mget] at hb
    cases hq : Nat.beq κ0 κ with
    | false => rw [hq] at hb; cases hb
    | true =>
      rw [hq] at hb
      have := Nat.eq_of_beq_eq_true hq
      subst this
      cases hb
      refine ⟨RO.of_flats hI (by simp) hw.at_ hc hk hs hx, rfl, fun g' o' n c h => ?_⟩
      simp only [Value.slice.injEq, Option.some.injEq, Addr.mk.injEq, and_true] at h
      exact ⟨h.1.1, h.1.2, hI.sz.symm⟩
  · obtain ⟨h1, h2, h3⟩ := hM.g0 b hb
    have h1' : b < w.heap.size := h1
    have hne : b ≠ g := fun e => by
      rcases hgc with h | h
      · rw [e] at h2; exact h h2
      · omega
    exact ⟨h1, if_neg hne, hw.ot b h1 hne⟩
  · by_cases hbg : b = g
    · subst hbg
      exact (Array.getElem?_eq_some_iff.1 hw.at_).1
    · simp [hbg] at hb
theorem insert_given (hI : FlatEl U e K fl) {f : FuncId} (hen : Enters P f) {N : Nat} {g : List (U.D e) → Int → List (U.D e) → Option (List (U.D e))}
    (hg : ∀ l n v r, g l n v = some r → ∃ (i : Nat) (x : U.D e), n = (i : Int) ∧ v = [x] ∧ i ≤ l.length ∧ l.length ≤ N ∧ r = l.take i ++ x :: l.drop i)
    (hr : ∀ (base : Option Addr) (n c i vb voff vc : Nat) (cs vs : List Value) (w : World), i ≤ n → n ≤ c → c ≤ 9223372036854775807 → n ≤ N → cs.length = n * K → vs.length = K → (∀ v ∈ cs, v.oneCell' = true) → (∀ v ∈ vs, v.oneCell' = true) →
      ((base = none ∧ n = 0 ∧ c = 0) ∨ ∃ b off cur, base = some ⟨b, off, none⟩ ∧ w.heap[b]? = some (.cells cur e (0, 0)) ∧ off + c * K ≤ cur.size ∧ (∀ (j : Nat) (v : Value), cs[j]? = some v → cur[off + j]? = some v) ∧ vb ≠ b) →
      (∃ cuv, w.heap[vb]? = some (.cells cuv e (0, 0)) ∧ ∀ (j : Nat) (v : Value), vs[j]? = some v → cuv[voff + j]? = some v) →
      Calls P f #[.slice base n c, .int .i64 i, .slice (some ⟨vb, voff, none⟩) 1 vc] w fun e' w' => ∃ g' o' cap' cur', e' = .returned (.slice (some ⟨g', o', none⟩) (n + 1) cap') ∧ PutW w w' g' e cur' ∧ (g' = w.heap.size ∨ ∃ off, base = some ⟨g', off, none⟩) ∧ n + 1 ≤ cap' ∧ cap' ≤ 9223372036854775807 ∧ o' + cap' * K ≤ cur'.size ∧
        ∀ (j : Nat) (v : Value), (cs.take (i * K) ++ vs ++ cs.drop (i * K))[j]? = some v → cur'[o' + j]? = some v) : Ok P U f ⟨[.arr 0 e, .c (.int .i64), .arr 0 e], [.c (.own e)], fun x => g x.1 x.2.1 x.2.2⟩ := by
  refine ⟨hen, ?_⟩
  intro κ0 (x : List (U.D e) × Int × List (U.D e)) (y : List (U.D e)) (hy : g x.1 x.2.1 x.2.2 = some y) F G L w vs cs m κ he hv hM hKF
  obtain ⟨l, n, v⟩ := x
  cases he
  obtain ⟨i, z, h1, h2, hi, hN, rfl⟩ := hg _ _ _ _ hy
  dsimp only at h1 h2 hi hN
  subst h1 h2
  obtain ⟨v1, t, rfl, hv1, hv⟩ := hv.uncons
  obtain ⟨v2, t, rfl, hv2, hv⟩ := hv.uncons
  obtain ⟨v3, t, rfl, hv3, hv⟩ := hv.uncons
  have ht : t = [] := List.eq_nil_of_length_eq_zero hv.1.symm
  subst ht
  have e1 := hv1.ref_inv
  have e2 := hv2.int_inv
  have e3 := hv3.ref_inv
  subst e2
  have b1 : BR U F w w L 100000 (.row e l) := hM.me 100000 _ rfl
  have b3 : BR U F w w L 100001 (.row e [z]) := hM.me 100001 _ rfl
  obtain ⟨ro1, -, -⟩ := b1
  obtain ⟨ro3, -, -⟩ := b3
  rw [← e1] at ro1
  rw [← e3] at ro3
  rcases ro3.flats hI with ⟨_, h⟩ | ⟨vb, voff, vc, cuv, rfl, hvc, hvh, _, _, _, hvx⟩
  · cases h
  have hzl : (flc fl [z]).length = K := by rw [flc_len hI]; simp
  have fin : ∀ (base : Option Addr) (c : Nat), v1 = .slice base l.length c → l.length ≤ c → c ≤ 9223372036854775807 →
      ((base = none ∧ l.length = 0 ∧ c = 0) ∨ ∃ b off cur, base = some ⟨b, off, none⟩ ∧ w.heap[b]? = some (.cells cur e (0, 0)) ∧ off + c * K ≤ cur.size ∧ (∀ (j : Nat) (v : Value), (flc fl l)[j]? = some v → cur[off + j]? = some v) ∧ vb ≠ b) →
      (∀ b off, base = some ⟨b, off, none⟩ → L.cl b ≠ 0) → Calls P f #[v1, .int .i64 i, .slice (some ⟨vb, voff, none⟩) [z].length vc] w (Ret U ⟨[.arr 0 e, .c (.int .i64), .arr 0 e], [.c (.own e)], fun x => g x.1 x.2.1 x.2.2⟩ ⟨F, G, w, fun _ => none⟩ L.kv κ0 (l, (i : Int), [z]) (l.take i ++ z :: l.drop i) [v1, .int .i64 i, .slice (some ⟨vb, voff, none⟩) [z].length vc]) := by
    rintro base c rfl hlc hc63 hb hcol
    refine (hr base l.length c i vb voff vc (flc fl l) (flc fl [z]) w hi hlc hc63 hN (flc_len hI l) hzl (flc_one l) (flc_one [z]) hb ⟨cuv, hvh, hvx⟩).mono ?_
    rintro e' w' ⟨g', o', cap', cur', rfl, hw, hgg, h1, h2, h3, h4⟩
    have hyl : (l.take i ++ z :: l.drop i).length = l.length + 1 := by rw [List.length_append, List.length_cons, List.length_take, List.length_drop]; omega
    have hyc : flc fl (l.take i ++ z :: l.drop i) = (flc fl l).take (i * K) ++ flc fl [z] ++ (flc fl l).drop (i * K) := by
      rw [show l.take i ++ z :: l.drop i = l.take i ++ [z] ++ l.drop i by simp, flc_app, flc_app, flc_take hI l i hi, flc_drop hI l i hi]
    obtain ⟨L2, k1, k2, k3⟩ := put_mrel hI hM κ0 (y := l.take i ++ z :: l.drop i) (o := o') (cap := cap') (by
      rcases hgg with h | ⟨off, h⟩
      · right; omega
      · left; exact hcol _ _ h) hw (by rw [hyl]; exact h1) h2 h3 (by rw [hyc]; exact h4)
    rw [hyl] at k2
    refine ⟨L2, [.ref κ0], [(κ0, .row e (l.take i ++ z :: l.drop i))], κ0 + 1, [.slice (some ⟨g', o', none⟩) (l.length + 1) cap'], rfl, rfl, rfl, ?_, k3, k1, fun q b hb => ?_⟩
    · have := RVs.cons (U := U) (F := F) (w0 := w) (RV.ref (L := L2) κ0) RVs.nil
      rw [k2] at this
      exact this
    · simp only [mget] at hb
      cases hq : Nat.beq κ0 q with
      | false => rw [hq] at hb; cases hb
      | true => have := Nat.eq_of_beq_eq_true hq; omega
  rcases ro1.flats hI with ⟨rfl, rfl⟩ | ⟨b, off, c, cur, rfl, hcl, hh, hcap, hkk, hsz, hcell⟩
  · exact fin none 0 rfl (Nat.le_refl _) (by omega) (.inl ⟨rfl, rfl, rfl⟩) (fun _ _ h => by cases h)
  · exact fin (some ⟨b, off, none⟩) c rfl hcap hkk (.inr ⟨b, off, cur, rfl, hh, hsz, hcell, fun h => by rw [h, hcl] at hvc; omega⟩) (fun b' off' h => by
      cases h
      rw [hcl]
      omega)
end
end Go.Proofs.YtpdnnndedejlhaaGreatV
