import Derived.Test.YtpdnnndedejlhaaGreatWV3
import Derived.LoopN
import Derived.Laws.Sem
/- A reader of function bodies in plain values, part 4. -/
/- A region in its own order. -/
namespace Go.Proofs.YtpdnnndedejlhaaGreatV
open Go
set_option linter.unusedVariables false
set_option linter.unusedSimpArgs false
variable {U : Uni} {P : Program} {R : Type}
def biOk : Builtin → List Operand → Bool
  | .len, [_] => true
  | .min, [_, _] => true
  | .max, [_, _] => true
  | .append, [_, _] => true
  | _, _ => false
def opsOk (o : Op) : Bool := o.operands.toList.all opOk && (match o with
  | .makeFunc _ fs _ => fs.toList.isEmpty
  | .call c => (match c.callee with
    | .builtin b => biOk b c.args.toList
    | _ => true)
  | _ => true)
def okOp (fx : List Nat) (o : Oper) : Bool := opsOk o.op && (match o.dst with
  | some d => !hasK d fx
  | none => true)
section
variable {C : Fr} {L : Lc} {s : St U.D} {a : Act} {w : World} {E : Nat → List (Con U)} {d : Nat} {K : VV U.D → Upd U.D → Option R} {r : R} {o : Oper}
theorem place_ne {n i j i' j' : Nat} (hj : j < n) (hj' : j' < n) (h : i' * n + j' = i * n + j) : i' = i ∧ j' = j := by
  rcases Nat.lt_trichotomy i' i with h1 | h1 | h1
  · have := Nat.mul_le_mul_right n (Nat.succ_le_of_lt h1)
    rw [Nat.succ_mul] at this
    omega
  · subst h1; omega
  · have := Nat.mul_le_mul_right n (Nat.succ_le_of_lt h1)
    rw [Nat.succ_mul] at this
    omega
def hdB : Value → Nat
  | .slice (some a) _ _ => a.block
  | _ => 0
def hdO : Value → Nat
  | .slice (some a) _ _ => a.off
  | _ => 0
open Classical in
theorem split_mrel (PL : Ulaw U) {m : Mem U.D} (hM : MRel U C L m w) {κ k i j k' : Nat} {xs : List (U.D k)} {x : U.D k} {ys : List (U.D k')} (hm : mget m κ = some (.krow k xs)) (hx : xs[i]? = some x) (hj : (U.cells k x)[j]? = some (.tree k' ys)) {z : Nat}
    (hz : mget m z = none) (hzm : z ∉ menM m) : ∃ L1 v, MRel U C L1 (mput (mput m κ (.hole k xs i j)) z (.row k' ys)) w ∧ C.w0.cell? ⟨L.bg κ, L.bo κ + (i * L.bs κ + j), none⟩ = some v ∧ L1.rv z = v ∧ L1.kv = L.kv ∧ ∀ q, q ≠ z → EqAt L L1 q := by
  have hzκ : κ ≠ z := fun e => by rw [e] at hm; rw [hz] at hm; cases hm
  obtain ⟨⟨hro, hbn, hpos⟩, hhd⟩ := hM.me κ _ hm
  have hh0 := hhd i x j k' ys hx hj
  generalize hrv : L.rv κ = rv at hro hpos
  cases hro with
  | bool hb => simp [boolOf] at hb
  | tree0 => simp at hx
  | @tree _ _ _ g off cap cur f hg hh hcap hkk hs hr =>
    obtain ⟨e1, e2, e3⟩ := hpos _ _ _ _ rfl
    have hjs := cell_lt PL hj
    have hp2 := mul_fit (idx_lt hx) hjs
    have hp3 : xs.length * U.sz k ≤ cap * U.sz k := Nat.mul_le_mul_right _ hcap
    have hcell : w.cell? ⟨L.bg κ, L.bo κ + (i * L.bs κ + j), none⟩ = some (cur.getD (off + (i * U.sz k + j)) (.bool false)) := by
      rw [e1, e2, e3]; exact cell_of hh (by omega)
    have h5 := hr i x j _ hx hj
    generalize hv : cur.getD (off + (i * U.sz k + j)) (.bool false) = v at hcell h5
    let cl1 : Nat → Nat := fun b => if L.cl b = κ + 1 ∧ b ≠ g ∧ f b = i * U.sz k + j then z + 1 else L.cl b
    refine ⟨L.at z (hdB v) (hdO v) (U.sz k') ys.length v cl1, v, hM.step (fun q c hq => ?_) (fun b hb => ?_) (fun b hb => ?_) (Lc.one_at hM.rvo h5.one) (Nat.le_refl _) rfl rfl rfl, hh0 ▸ hcell, by simp [Lc.at], rfl, fun q hq => L.at_ne hq⟩
    · rw [mget_mput] at hq
      by_cases ez : q = z
      · subst ez
        rw [if_pos rfl] at hq; cases hq
        right
        refine ⟨?_, by simp [Lc.at], fun g' o' n' c' he => ?_⟩
        · have : (L.at q (hdB v) (hdO v) (U.sz k') ys.length v cl1).rv q = v := by simp [Lc.at]
          rw [this]
          exact h5.mono (fun b hb => by simp only [Lc.at, cl1]; rw [if_pos hb])
        · have : (L.at q (hdB v) (hdO v) (U.sz k') ys.length v cl1).rv q = v := by simp [Lc.at]
          rw [this] at he
          subst he
          simp [Lc.at, hdB, hdO]
      rw [if_neg ez, mget_mput] at hq
      by_cases eκ : q = κ
      · subst eκ
        rw [if_pos rfl] at hq; cases hq
        right
        have hat := L.at_ne (κ := z) (g := hdB v) (o := hdO v) (s := U.sz k') (n := ys.length) (v := v) (cl := cl1) ez
        refine ⟨⟨cap, cur, f, by rw [hat.2.2.2.2.1, hat.1, hat.2.1, hrv, e1, e2], by rw [hat.2.2.1]; exact e3, by rw [hat.2.2.2.1]; exact hbn, ?_, by rw [hat.1, e1]; exact hh, hcap, hkk, by rw [hat.2.1, e2]; exact hs, fun i' x' j' c hx' hj' hn => ?_⟩, hhd.step hat (fun _ => rfl)⟩
        · rw [hat.1, e1]
          show cl1 g = q + 1
          simp only [cl1]
          rw [if_neg (fun h => h.2.1 rfl)]; exact hg
        · rw [hat.1, hat.2.1, e1, e2]
          refine (hr i' x' j' c hx' hj').mono (fun b hb => ⟨?_, hb.2⟩)
          show cl1 b = q + 1
          simp only [cl1]
          rw [if_neg (fun h => hn (place_ne hjs (cell_lt PL hj') (by rw [← hb.2.2, h.2.2])))]
          exact hb.1
      · rw [if_neg eκ] at hq
        refine .inl ⟨hq, L.at_ne ez, fun p hp => L.at_ne (fun e => hzm (by rw [← e]; exact menM_mem hq hp)), fun x' hx' => ⟨?_, rfl⟩⟩
        show cl1 x' = q + 1
        simp only [cl1]
        rw [if_neg (fun h => eκ (by have := h.1; omega))]; exact hx'
    · obtain ⟨h1, h2, h3⟩ := hM.g0 b hb
      refine ⟨?_, rfl⟩
      show cl1 b = 0
      simp only [cl1]
      rw [if_neg (fun h => by have := h.1; omega)]; exact h2
    · refine hM.hl b (fun h => hb ?_)
      show cl1 b = 0
      simp only [cl1]
      rw [if_neg (fun h' => by have := h'.1; omega)]; exact h
theorem join_mrel (PL : Ulaw U) {m : Mem U.D} (hM : MRel U C L m w) {κ z k i j k' k0 : Nat} {xs : List (U.D k)} {x y : U.D k} {ys : List (U.D k')} {ys' : List (U.D k0)} (hκ : mget m κ = some (.hole k xs i j)) (hz : mget m z = some (.row k0 ys')) (hx : xs[i]? = some x) (hj : (U.cells k x)[j]? = some (.tree k' ys))
    (hv : C.w0.cell? ⟨L.bg κ, L.bo κ + (i * L.bs κ + j), none⟩ = some (L.rv z)) (hy : U.mkE k (setl (U.cells k x) j [.tree k0 ys']) = some y) :
    MRel U C (L.recl (fun b => if L.cl b = z + 1 then κ + 1 else L.cl b)) (mdel (mput m κ (.krow k (xs.set i y))) z) w := by
  have hzκ : κ ≠ z := fun e => by rw [e, hz] at hκ; cases hκ
  obtain ⟨⟨cap, cur, f, h1, h2, h3, h4, h5, h6, h6k, h7, h8⟩, hhd⟩ := hM.me κ _ hκ
  obtain ⟨z1, z2, z3⟩ := hM.me z _ hz
  have hjs := cell_lt PL hj
  have hne : L.cl (L.bg κ) ≠ z + 1 := by rw [h4]; omega
  have hlen : (xs.set i y).length = xs.length := List.length_set
  have hp3 : xs.length * U.sz k ≤ cap * U.sz k := Nat.mul_le_mul_right _ h6
  refine hM.step (fun q c hq => ?_) (fun b hb => ?_) (fun b hb => ?_) hM.rvo (Nat.le_refl _) rfl rfl rfl
  · rw [mget_mdel, mget_mput] at hq
    by_cases ez : q = z
    · rw [if_pos ez] at hq; cases hq
    rw [if_neg ez] at hq
    by_cases eκ : q = κ
    · subst eκ
      rw [if_pos rfl] at hq; cases hq
      right
      refine ⟨⟨?_, by show L.bn q = _; rw [hlen]; exact h3, fun g o n c e => ?_⟩, fun i' x' j' k2 zs hx' hj' => ?_⟩
      · show RO U w _ _ (L.rv q)
        rw [h1, ← hlen]
        refine .tree (fun b => if L.cl b = z + 1 then i * U.sz k + j else f b) (by show (if L.cl (L.bg q) = z + 1 then q + 1 else L.cl (L.bg q)) = q + 1; rw [if_neg hne]; exact h4) h5 (by rw [hlen]; exact h6) h6k h7 (fun i' x' j' c hx' hj' => ?_)
        have hj's := cell_lt PL hj'
        have hi' := idx_lt hx'
        rw [hlen] at hi'
        by_cases hij : i' = i ∧ j' = j
        · obtain ⟨rfl, rfl⟩ := hij
          rw [List.getElem?_set_self (idx_lt hx)] at hx'
          cases hx'
          have hcell : w.cell? ⟨L.bg q, L.bo q + (i' * L.bs q + j'), none⟩ = some (cur.getD (L.bo q + (i' * U.sz k + j')) (.bool false)) := by
            rw [h2]; exact cell_of h5 (by have := mul_fit (idx_lt hx) hjs; omega)
          have : cur.getD (L.bo q + (i' * U.sz k + j')) (.bool false) = L.rv z := by
            have e := hhd i' x j' k' ys hx hj
            rw [hcell, hv] at e
            exact Option.some.inj e
          rw [this]
          have hle := (PL.mke _ _ _ hy).2 (j' + 0) c _ (by simpa using hj') (setl_get_in [VV.tree k0 ys'] _ j' 0 _ rfl (by rw [PL.len]; simp; omega))
          refine (z1.mono (fun b hb => ⟨by show (if L.cl b = z + 1 then q + 1 else L.cl b) = q + 1; rw [if_pos hb], fun e => hne (by rw [← e]; exact hb), by rw [if_pos hb]⟩)).le hle
        · obtain ⟨x0, hx0, cc, hcc, hle⟩ : ∃ x0, xs[i']? = some x0 ∧ ∃ cc, (U.cells k x0)[j']? = some cc ∧ (∀ w ok v, RO U w ok cc v → RO U w ok c v) := by
            by_cases hii : i' = i
            · subst hii
              rw [List.getElem?_set_self (idx_lt hx)] at hx'
              cases hx'
              have hlt : j' < (U.cells k x).length := by rw [PL.len]; exact hj's
              refine ⟨x, hx, _, List.getElem?_eq_getElem hlt, fun w ok v h => h.le ((PL.mke _ _ _ hy).2 j' c _ hj' ?_)⟩
              rw [setl_get_out _ _ j j' (by simp; omega), List.getElem?_eq_getElem hlt]
            · rw [List.getElem?_set_ne (Ne.symm hii)] at hx'
              exact ⟨x', hx', c, hj', fun w ok v h => h⟩
          refine hle _ _ _ ((h8 i' x0 j' cc hx0 hcc hij).mono (fun b hb => ?_))
          have hbz : L.cl b ≠ z + 1 := by rw [hb.1]; omega
          exact ⟨by show (if L.cl b = z + 1 then q + 1 else L.cl b) = q + 1; rw [if_neg hbz]; exact hb.1, hb.2.1, by rw [if_neg hbz]; exact hb.2.2⟩
      · have e' : L.rv q = .slice (some ⟨g, o, none⟩) n c := e
        rw [h1] at e'
        simp only [Value.slice.injEq, Option.some.injEq, Addr.mk.injEq] at e'
        exact ⟨e'.1.1, e'.1.2.1, h2⟩
      · have hlt : i' < xs.length := by have := idx_lt hx'; rwa [hlen] at this
        obtain ⟨x0, hx0⟩ : ∃ x0, xs[i']? = some x0 := ⟨_, List.getElem?_eq_getElem hlt⟩
        obtain ⟨zs0, hj0⟩ := PL.shp k x' x0 j' k2 zs hj'
        exact hhd i' x0 j' k2 zs0 hx0 hj0
    · rw [if_neg eκ] at hq
      refine .inl ⟨hq, L.recl_eq _ q, fun p _ => L.recl_eq _ p, fun b hb => ⟨?_, rfl⟩⟩
      show (if L.cl b = z + 1 then κ + 1 else L.cl b) = q + 1
      rw [if_neg (by omega)]; exact hb
  · obtain ⟨g1, g2, g3⟩ := hM.g0 b hb
    refine ⟨?_, rfl⟩
    show (if L.cl b = z + 1 then κ + 1 else L.cl b) = 0
    rw [if_neg (by omega)]; exact g2
  · refine hM.hl b (fun h => hb ?_)
    show (if L.cl b = z + 1 then κ + 1 else L.cl b) = 0
    rw [if_neg (by omega)]; exact h
theorem nelIx_some : ∀ {p0 : Nat} {vs : List (VV U.D)} {q : Nat × Nat × Int × Nat}, nelIx p0 vs = some q → ∃ p, q.1 = p0 + p ∧ vs[p]? = some (.nel q.2.1 q.2.2.1 q.2.2.2)
  | p0, [], q, h => by cases h
  | p0, v :: vs, q, h => by
    have go : nelIx (p0 + 1) vs = some q → ∃ p, q.1 = p0 + p ∧ (v :: vs)[p]? = some (.nel q.2.1 q.2.2.1 q.2.2.2) := fun h => by
      obtain ⟨p, h1, h2⟩ := nelIx_some h
      exact ⟨p + 1, by omega, by simpa using h2⟩
    cases v
    case nel κ i j => simp only [nelIx] at h; cases h; exact ⟨0, rfl, rfl⟩
    all_goals exact go h
theorem newOk_sub : ∀ {u u' : Upd U.D} {s' : St U.D}, (∀ q b, (q, some b) ∈ u → (q, some b) ∈ u') → newOk s u' = true → (∀ q, mget s'.m q = none → mget s.m q = none ∧ (q ∉ menL s.t → q ∉ menL s'.t) ∧ (q ∉ menM s.m → q ∉ menM s'.m)) → newOk s' u = true
  | [], u', s', _, _, _ => rfl
  | (q, ob) :: u, u', s', hs, hn, he => by
    have ih := newOk_sub (u := u) (u' := u') (s' := s') (fun q b h => hs q b (List.mem_cons_of_mem _ h)) hn he
    cases ob with
    | none => exact ih
    | some b =>
      simp only [newOk, Bool.and_eq_true]
      refine ⟨?_, ih⟩
      cases hq : mget s'.m q with
      | some _ => rfl
      | none =>
        obtain ⟨h1, h2, h3⟩ := he q hq
        rcases newOk_inv hn (hs q b List.mem_cons_self) with ⟨b', hb'⟩ | ⟨h4, h5⟩
        · rw [h1] at hb'; cases hb'
        · have g1 := h2 h4
          have g2 := h3 h5
          simp only [Bool.not_eq_true', Bool.or_eq_false_iff]
          exact ⟨Bool.eq_false_iff.2 (fun h => g1 (hasK_iff.1 h)), Bool.eq_false_iff.2 (fun h => g2 (hasK_iff.1 h))⟩
theorem menM_put_le {m : Mem U.D} {κ : Nat} {b : Blk U.D} (h0 : menB b = []) {q : Nat} (hq : q ∈ menM (mput m κ b)) : q ∈ menM m := by
  induction m with
  | nil => simp [mput, menM, h0] at hq
  | cons x xs ih =>
    obtain ⟨p, c⟩ := x
    simp only [mput] at hq
    rw [menM]
    cases hb : Nat.beq p κ with
    | true =>
      rw [hb] at hq
      simp only [cond_true, menM, h0, List.nil_append] at hq
      exact List.mem_append_right _ hq
    | false =>
      rw [hb] at hq
      simp only [cond_false, menM] at hq
      rcases List.mem_append.1 hq with hq | hq
      · exact List.mem_append_left _ hq
      · exact List.mem_append_right _ (ih hq)
theorem menM_put_new {m : Mem U.D} {κ : Nat} {b : Blk U.D} (h : mget m κ = none) {q : Nat} (hq : q ∈ menM m) : q ∈ menM (mput m κ b) := by
  induction m with
  | nil => simp [menM] at hq
  | cons x xs ih =>
    obtain ⟨p, c⟩ := x
    simp only [mget] at h
    simp only [mput]
    rw [menM] at hq
    cases hb : Nat.beq p κ with
    | true => rw [hb] at h; cases h
    | false =>
      rw [hb] at h
      simp only [cond_false, menM]
      rcases List.mem_append.1 hq with hq | hq
      · exact List.mem_append_left _ hq
      · exact List.mem_append_right _ (ih h hq)
theorem menL_app {as bs : List (VV U.D)} {q : Nat} : q ∈ menL (as ++ bs) ↔ q ∈ menL as ∨ q ∈ menL bs := by
  induction as with
  | nil => simp [menL]
  | cons x xs ih => rw [List.cons_append, menL, menL, List.mem_append, List.mem_append, ih, or_assoc]
theorem mget_mupd_ne {κ : Nat} : ∀ {u : Upd U.D} {m : Mem U.D}, hasK κ (keysU u) = false → mget (mupd m u) κ = mget m κ
  | [], m, _ => rfl
  | (q, ob) :: u, m, h => by
    simp only [keysU, hasK, Bool.or_eq_false_iff] at h
    have hne : κ ≠ q := fun e => by subst e; simp at h
    cases ob with
    | none => simp only [mupd]; rw [mget_mupd_ne h.2, mget_mdel, if_neg hne]
    | some b => simp only [mupd]; rw [mget_mupd_ne h.2, mget_mput, if_neg hne]
theorem callC_way {m : Mem U.D} {d : Nat} {r : R} {args : List (VV U.D)} {K : VV U.D → Upd U.D → Option R} : ∀ (cs : List (Con U)), callC m d args K cs = some r → ∃ v u, ∀ (R' : Type) (K' : VV U.D → Upd U.D → Option R'), callC m d args K' cs = K' v u
  | [], h => by cases h
  | c :: cs, h => by
    have ih := callC_way (m := m) (d := d) (r := r) (K := K) (args := args) cs
    simp only [callC] at h ⊢
    cases hsh : shpL c.A args with
    | false => rw [hsh] at h; exact ih h
    | true =>
      simp only [hsh, cond_true] at h ⊢
      cases hd : decL true m c.A args with
      | none => rw [hd] at h; cases h
      | some lv =>
        rw [hd] at h
        simp only at h ⊢
        cases hx : tyd (lvsL c.A) lv with
        | none => rw [hx] at h; exact ih h
        | some x =>
          rw [hx] at h
          simp only at h ⊢
          cases hfr : (fair m c args && absent m (64 * d) 64) with
          | false => rw [hfr] at h; cases h
          | true =>
            simp only [hfr, cond_true] at h ⊢
            cases hy : c.f x with
            | none => rw [hy] at h; cases h
            | some y =>
              rw [hy] at h
              simp only [Option.bind_some] at h ⊢
              generalize he : encL (c.R ++ ioS c.A) (64 * d) _ = q at h ⊢
              obtain ⟨vs, m2, κ', r'⟩ := q
              simp only at h ⊢
              cases hk : Nat.ble κ' (64 * d + 64) with
              | false => rw [hk] at h; cases h
              | true => exact ⟨_, _, fun _ _ => rfl⟩
theorem p_callN (PL : Ulaw U) (hM : MRel U C L s.m w) {g : Nat} {args : List (VV U.D)} {vals : List Value} (hv : RVs U C.F C.w0 L args vals) (hmen : ∀ q ∈ menL args, q ∈ menL s.t) (cs : List (Con U)) (hc : ∀ c ∈ cs, SoundC P U g c) {q : Nat × Nat × Int × Nat} (hq : nelIx 0 args = some q) (h : callN U s.m d args K cs q = some r) :
    ∃ c u, K c u = some r ∧ (newOk s u = true → ∀ Post : Value → World → Prop, (∀ L' w' v, MRel U C L' (mupd s.m u) w' → RV U C.F C.w0 L' c v → L'.kv = L.kv → (∀ κ, (κ ∈ menL s.t ∨ κ ∈ menM s.m) → EqAt L L' κ) → Post v w') →
      Calls P g vals.toArray w (fun e w' => match e with
        | .returned v => Post v w'
        | _ => False)) := by
  obtain ⟨p, κ, i, j⟩ := q
  obtain ⟨p', hp', harg⟩ := nelIx_some hq
  simp only [Nat.zero_add] at hp'
  subst hp'
  simp only at harg
  simp only [callN] at h
  cases hm : mget s.m κ with
  | none => rw [hm] at h; cases h
  | some b =>
    rw [hm] at h
    cases b <;> try (cases h)
    case krow k xs =>
      simp only at h
      generalize hlg : lget (U.cells k (rdE U k xs i)) j = cc at h
      cases cc <;> try (cases h)
      case tree k' ys =>
        simp only at h
        have hj : (U.cells k (rdE U k xs i))[j]? = some (.tree k' ys) := by
          unfold lget at hlg
          rw [List.getD_eq_getElem?_getD] at hlg
          cases hq : (U.cells k (rdE U k xs i))[j]? with
          | none => rw [hq] at hlg; cases hlg
          | some y => rw [hq] at hlg; simp only [Option.getD_some] at hlg; rw [hlg]
        cases hb : Nat.blt j (U.sz k) with
        | false => rw [hb] at h; cases h
        | true =>
          rw [hb] at h
          simp only [cond_true] at h
          obtain ⟨hz, h⟩ := nw_inv h
          generalize hzz : 300000 + d = z at h hz
          -- the row that is lent
          have hpl : p < vals.length := by rw [← hv.1]; exact idx_lt harg
          have hnel := hv.2 p _ _ harg (List.getElem?_eq_getElem hpl)
          obtain ⟨hi0, hi1, hcell, hone⟩ : 0 ≤ i ∧ i < L.bn κ ∧ C.w0.cell? ⟨L.bg κ, L.bo κ + (i.toNat * L.bs κ + j), none⟩ = some vals[p] ∧ (vals[p]).oneCell' = true := by
            have : ∀ u, RV U C.F C.w0 L (.nel κ i j) u → 0 ≤ i ∧ i < L.bn κ ∧ C.w0.cell? ⟨L.bg κ, L.bo κ + (i.toNat * L.bs κ + j), none⟩ = some u ∧ u.oneCell' = true := by
              intro u hu
              cases hu with
              | leaf h => cases h with
                | bool hb => simp [boolOf] at hb
              | nel a1 a2 a3 a4 => exact ⟨a1, a2, a3, a4⟩
            exact this _ hnel
          obtain ⟨⟨hro, hbn, hpos⟩, hhd⟩ := hM.me κ _ hm
          rw [hbn] at hi1
          have hx := rd_some hi0 hi1
          have hκt : κ ∈ menL s.t := hmen κ (menL_mem harg (by simp [men]))
          have hκz : κ ≠ z := fun e => by rw [e] at hm; rw [hz] at hm; cases hm
          -- the call itself, of whatever memory
          have split : ∃ c u, K c u = some r ∧ ∃ u0 k2 ys' y, u = (κ, some (.hole k xs i.toNat j)) :: (z, some (.row k' ys)) :: u0 ++ [(κ, some (.krow k (xs.set i.toNat y))), (z, none)] ∧ hasK κ (keysU u0) = false ∧ mget (mupd (mput (mput s.m κ (.hole k xs i.toNat j)) z (.row k' ys)) u0) z = some (.row k2 ys') ∧
              U.mkE k (setl (U.cells k (rdE U k xs i)) j [.tree k2 ys']) = some y ∧ callC (mput (mput s.m κ (.hole k xs i.toNat j)) z (.row k' ys)) d (args.set p (.ref z)) (fun v u' => some (v, u')) cs = some (c, u0) := by
            obtain ⟨v0, u0, hpar⟩ := callC_way _ h
            have hK := h
            rw [hpar] at hK
            have h0 := hpar _ (fun v u' => some (v, u'))
            cases hh : hasK κ (keysU u0) with
            | true => rw [hh] at hK; cases hK
            | false =>
              rw [hh] at hK
              simp only [cond_false] at hK
              cases hz2 : mget (mupd (mput (mput s.m κ (.hole k xs i.toNat j)) z (.row k' ys)) u0) z with
              | none => rw [hz2] at hK; cases hK
              | some bz =>
                rw [hz2] at hK
                cases bz <;> try (cases hK)
                case row k2 ys' =>
                  simp only at hK
                  cases hmk : U.mkE k (setl (U.cells k (rdE U k xs i)) j [VV.tree k2 ys']) with
                  | none => rw [hmk] at hK; cases hK
                  | some y =>
                    rw [hmk] at hK
                    exact ⟨v0, _, hK, u0, k2, ys', y, rfl, hh, hz2, hmk, h0⟩
          obtain ⟨c, u, hK, u0, k2, ys', y, rfl, hhas, hz2, hmk, h0⟩ := split
          refine ⟨c, _, hK, fun hnw Post hp => ?_⟩
          have hzf : z ∉ menL s.t ∧ z ∉ menM s.m := by
            rcases newOk_inv hnw (κ := z) (b := .row k' ys) (by simp) with ⟨b', hb'⟩ | h
            · rw [hz] at hb'; cases hb'
            · exact h
          obtain ⟨L1, v1, hM1, hc1, hrv1, hkv1, hat⟩ := split_mrel PL hM hm hx hj hz hzf.2
          have hv1e : v1 = vals[p] := by rw [hcell] at hc1; exact (Option.some.inj hc1).symm
          subst hv1e
          let m1 := mput (mput s.m κ (.hole k xs i.toNat j)) z (.row k' ys)
          let s1 : St U.D := { t := s.t ++ [.ref κ, .ref z], m := m1 }
          have hv1 : RVs U C.F C.w0 L1 (args.set p (.ref z)) vals := by
            refine ⟨by simpa using hv.1, fun q c v hc hv' => ?_⟩
            by_cases hqp : q = p
            · subst hqp
              rw [List.getElem?_set_self (idx_lt harg)] at hc
              cases hc
              rw [List.getElem?_eq_getElem hpl] at hv'
              cases hv'
              rw [← hrv1]; exact .ref z
            · rw [List.getElem?_set_ne (Ne.symm hqp)] at hc
              exact (hv.2 q c v hc hv').ext hkv1 (fun q' hq' => hat q' (fun e => hzf.1 (hmen _ (by rw [← e]; exact menL_mem hc hq'))))
          obtain ⟨c2, u2, hK2, hgo⟩ := p_callC (s := s1) PL hM1 hv1 cs hc h0
          cases hK2
          have hmem1 : ∀ q, mget s1.m q = none → mget s.m q = none ∧ q ≠ z ∧ q ≠ κ := by
            intro q hq
            have hq' : mget m1 q = none := hq
            simp only [m1, mget_mput] at hq'
            by_cases e1 : q = z
            · rw [if_pos e1] at hq'; cases hq'
            rw [if_neg e1] at hq'
            by_cases e2 : q = κ
            · rw [if_pos e2] at hq'; cases hq'
            rw [if_neg e2] at hq'
            exact ⟨hq', e1, e2⟩
          have hn1 : newOk s1 u0 = true := newOk_sub (s := s) (fun q b hb => by simp [hb]) hnw (fun q hq => by
            obtain ⟨a1, a2, a3⟩ := hmem1 q hq
            refine ⟨a1, fun h1 h2 => ?_, fun h1 h2 => h1 (menM_put_le rfl (menM_put_le rfl h2))⟩
            rcases menL_app.1 h2 with h2 | h2
            · exact h1 h2
            · simp [menL, men] at h2; omega)
          refine hgo hn1 Post (fun L' w' v hM' hv' hkv' hEq => ?_)
          have hEz := hEq z (.inl (menL_app.2 (.inr (by simp [menL, men]))))
          have hEκ := hEq κ (.inl (menL_app.2 (.inr (by simp [menL, men]))))
          have hLκ := hat κ hκz
          have hκ2 : mget (mupd m1 u0) κ = some (.hole k xs i.toNat j) := by
            rw [mget_mupd_ne hhas]
            simp only [m1, mget_mput]
            rw [if_neg hκz, if_pos trivial]
          have hj2 := join_mrel PL hM' hκ2 hz2 hx hj (by rw [hEκ.1, hEκ.2.1, hEκ.2.2.1, hLκ.1, hLκ.2.1, hLκ.2.2.1, hEz.2.2.2.2.1, hrv1]; exact hcell) hmk
          refine hp (L'.recl fun b => if L'.cl b = z + 1 then κ + 1 else L'.cl b) w' v ?_ (hv'.ext rfl (fun q _ => Lc.recl_eq _ _ q)) (hkv'.trans hkv1) (fun q hq => ?_)
          · have e : mupd s.m ((κ, some (Blk.hole k xs i.toNat j)) :: (z, some (.row k' ys)) :: u0 ++ [(κ, some (.krow k (xs.set i.toNat y))), (z, none)]) = mdel (mput (mupd m1 u0) κ (.krow k (xs.set i.toNat y))) z := by
              rw [List.cons_append, List.cons_append]
              simp only [mupd, mupd_app, m1]
            rw [e]; exact hj2
          · have hqz : q ≠ z := fun e => by subst e; rcases hq with hq | hq; exact hzf.1 hq; exact hzf.2 hq
            have h1 := hat q hqz
            have h2 := hEq q (by
              rcases hq with hq | hq
              · exact .inl (menL_app.2 (.inl hq))
              · refine .inr (menM_put_new ?_ (menM_put hm rfl hq))
                rw [mget_mput, if_neg (Ne.symm hκz)]; exact hz)
            exact ⟨h2.1.trans h1.1, h2.2.1.trans h1.2.1, h2.2.2.1.trans h1.2.2.1, h2.2.2.2.1.trans h1.2.2.2.1, h2.2.2.2.2.1.trans h1.2.2.2.2.1, h2.2.2.2.2.2.trans h1.2.2.2.2.2⟩
end
section
variable {C : Fr} {L : Lc} {s : St U.D} {a : Act} {w : World} {E : Nat → List (Con U)} {d : Nat} {K : VV U.D → Upd U.D → Option R} {r : R} {o : Oper}
theorem p_op (PL : Plaw P U) (hE : EnvOk P U E) (hR : Rel U C L s a w) (hx : opsOk o.op = true) (h : Vop U E o.op d (ev s.t) s.m K = some r) : ∃ v u, K v u = some r ∧ (newOk s u = true → Goes P U C L s o a w v u) := by
  simp only [opsOk, Bool.and_eq_true, List.all_eq_true] at hx
  obtain ⟨hx, hx2⟩ := hx
  have gv : (∃ c, K c [] = some r ∧ Gives P U C L o a w c) → ∃ v u, K v u = some r ∧ (newOk s u = true → Goes P U C L s o a w v u) := fun ⟨c, h1, h2⟩ => ⟨c, [], h1, fun _ => h2.goes hR.toMRel⟩
  have ds : (∃ c u, K c u = some r ∧ (newOk s u = true → Does P U C L s o a w c u)) → ∃ v u, K v u = some r ∧ (newOk s u = true → Goes P U C L s o a w v u) := fun ⟨c, u, h1, h2⟩ => ⟨c, u, h1, fun hn => (h2 hn).goes⟩
  cases ho : o.op <;> rw [ho] at h hx hx2
  case move x => exact gv ⟨_, h, p_move hR (.inl ho) (hx x (by simp [Op.operands]))⟩
  case assign x => exact gv ⟨_, h, p_move hR (.inr ho) (hx x (by simp [Op.operands]))⟩
  case pick x y z => exact gv (p_pick hR ho (hx x (by simp [Op.operands])) (hx y (by simp [Op.operands])) (hx z (by simp [Op.operands])) h)
  case alloc e => exact ds (d_alloc PL hR ho h)
  case box e x => exact ds (d_boxop PL hR ho (hx x (by simp [Op.operands])) h)
  case build t ps => exact gv (p_build PL hR ho (fun p hp => hx p.2 (by simp [Op.operands]; exact ⟨p.1, by simpa using hp⟩)) h)
  case buildSlice t n ps => exact ds (d_buildSlice PL hR ho (fun p hp => hx p.2 (by simp [Op.operands]; exact ⟨p.1, by simpa using hp⟩)) h)
  case load t x => exact gv (p_load PL hR ho (hx x (by simp [Op.operands])) h)
  case store t x y => exact ds (p_store PL hR ho (hx x (by simp [Op.operands])) (hx y (by simp [Op.operands])) h)
  case nilCheck x => exact gv (p_nilCheck hR ho (hx x (by simp [Op.operands])) h)
  case binOp op t x y t' => exact gv (p_binOp PL hR ho (hx x (by simp [Op.operands])) (hx y (by simp [Op.operands])) h)
  case unOp op t x => exact gv (p_unOp hR ho (hx x (by simp [Op.operands])) h)
  case convert t0 t x => exact gv (p_convert PL hR ho (hx x (by simp [Op.operands])) h)
  case makeSlice t x y => exact ds (d_makeSlice PL hR ho (hx x (by simp [Op.operands])) (hx y (by simp [Op.operands])) h)
  case slice t x lo hi mx => exact ds (d_slice PL hR ho (hx x (by simp [Op.operands])) (fun y hy => hx y (by simp [Op.operands, hy])) h)
  case fieldAddr t x f => exact gv (p_fieldAddr PL hR ho (hx x (by simp [Op.operands])) h)
  case field t x f => exact gv (p_field PL hR ho (hx x (by simp [Op.operands])) h)
  case indexAddr t x y => exact gv (p_indexAddr PL hR ho (hx x (by simp [Op.operands])) (hx y (by simp [Op.operands])) h)
  case index t x y => exact gv (p_index PL hR ho (hx x (by simp [Op.operands])) (hx y (by simp [Op.operands])) h)
  case extract x i => exact gv (p_extract hR ho (hx x (by simp [Op.operands])) h)
  case makeFunc f fs cs =>
    cases f <;> try (simp only [Vop] at h; cases h)
    case func f =>
      have hfs : fs = #[] := by
        cases fs with
        | mk l => cases l with
          | nil => rfl
          | cons x xs => simp at hx2
      exact gv (p_makeFunc hR ho hfs (fun x hx' => hx x (by simp [Op.operands]; exact .inr hx')) h)
  case call c =>
    have hargs : ∀ x ∈ c.args, opOk x = true := fun x hx' => hx x (by simp [Op.operands, Call.operands]; cases c.callee <;> simp [hx'])
    cases hcal : c.callee with
    | value f => exact p_callv PL.toUlaw hE hR ho hcal (hx f (by simp [Op.operands, Call.operands, hcal])) hargs h
    | invoke x n => simp only [Vop, hcal] at h; cases h
    | builtin b =>
      simp only [hcal] at hx2
      cases hal : c.args.toList with
      | nil => rw [hal] at hx2; cases b <;> cases hx2
      | cons x xs =>
        have hx1 : opOk x = true := hargs x (by rw [← Array.mem_toList_iff, hal]; exact List.mem_cons_self)
        cases xs with
        | nil =>
          cases b <;> first | exact gv (p_len PL hR ho hcal hal hx1 h) | (rw [hal] at hx2; cases hx2)
        | cons y ys =>
          have hy1 : opOk y = true := hargs y (by rw [← Array.mem_toList_iff, hal]; exact List.mem_cons_of_mem _ List.mem_cons_self)
          cases ys with
          | nil =>
            cases b <;> first
              | exact ds (p_append PL hR ho hcal (by cases hc2 : c.args; simp_all) hx1 hy1 h)
              | exact gv (p_min hR ho (.inl hcal) hal hx1 hy1 h)
              | exact gv (p_min hR ho (.inr hcal) hal hx1 hy1 h)
              | (rw [hal] at hx2; cases hx2)
          | cons z zs => rw [hal] at hx2; cases b <;> cases hx2
  all_goals (simp only [Vop] at h; cases h)
theorem p_opN (PL : Plaw P U) (hE : EnvOk P U E) (hR : Rel U C L s a w) (hx : opsOk o.op = true) (h : VopN U E o.op d (ev s.t) s.m K = some r) : ∃ v u, K v u = some r ∧ (newOk s u = true → Goes P U C L s o a w v u) := by
  cases ho : o.op with
  | call c =>
    rw [ho] at h
    simp only [VopN] at h
    cases hcal : c.callee with
    | value f =>
      rw [hcal] at h
      simp only at h
      cases hcf : YtpdnnndedejlhaaGreatV.ev s.t f with
      | fn g cs =>
        rw [hcf] at h
        simp only at h
        cases hn : nelIx 0 (c.args.toList.map (YtpdnnndedejlhaaGreatV.ev s.t) ++ cs) with
        | none => rw [hn] at h; exact p_op (d := d) PL hE hR hx (by rw [ho]; exact h)
        | some q =>
          rw [hn] at h
          simp only at h
          simp only [opsOk, Bool.and_eq_true, List.all_eq_true] at hx
          obtain ⟨hx, -⟩ := hx
          rw [ho] at hx
          have hxf : opOk f = true := hx f (by simp [Op.operands, Call.operands, hcal])
          have hargs : ∀ x ∈ c.args, opOk x = true := fun x hx' => hx x (by simp [Op.operands, Call.operands, hcal, hx'])
          have hvf := hR.ev f hxf
          rw [hcf] at hvf
          obtain ⟨A, e, hnA, hA⟩ := hvf.fn_inv
          have hv : RVs U C.F C.w0 L (c.args.toList.map (YtpdnnndedejlhaaGreatV.ev s.t) ++ cs) ((c.args.map a.eval).toList ++ A.toList) := by
            refine RVs.app ⟨by simp, fun i x v hx' hv' => ?_⟩ ⟨by simpa using hnA, fun i x v hx' hv' => hA i x v hx' (by rw [← Array.getElem?_toList]; exact hv')⟩
            rw [List.getElem?_map, Array.getElem?_toList] at hx'
            rw [Array.getElem?_toList, Array.getElem?_map] at hv'
            cases hi : c.args[i]? with
            | none => rw [hi] at hx'; cases hx'
            | some z =>
              rw [hi] at hx' hv'
              cases hx'; cases hv'
              exact hR.ev z (hargs z (Array.mem_of_getElem? hi))
          have hmen : ∀ q ∈ menL (c.args.toList.map (YtpdnnndedejlhaaGreatV.ev s.t) ++ cs), q ∈ menL s.t := by
            intro q hq
            rcases menL_app.1 hq with hq | hq
            · exact menL_ev hq
            · exact men_ev (x := f) (by rw [hcf, men]; exact hq)
          have hEn : ∃ c', c' ∈ E g := by
            cases hEg : E g with
            | nil =>
              rw [hEg] at h
              exfalso
              simp only [callN] at h
              (repeat' split at h) <;> first
                | (cases h; done)
                | (simp only [callC] at h; cases hb : Nat.blt q.2.2.2 (U.sz _) <;> rw [hb] at h <;> first | (cases h; done) | (simp only [cond_true] at h; obtain ⟨-, h⟩ := nw_inv h; cases h))
            | cons c' _ => exact ⟨c', List.mem_cons_self⟩
          obtain ⟨c', hc'⟩ := hEn
          have hent := (hE g c' hc').1
          obtain ⟨v, u, hK, hgo⟩ := p_callN PL.toUlaw hR.toMRel hv hmen (E g) (fun c'' hc'' => (hE g c'' hc'').2) hn h
          refine ⟨v, u, hK, fun hnw next Q hnext => ?_⟩
          unfold Oper.wp
          have hrun : (execOp a.eval o).run P w = .ok (.enter g ((c.args.map a.eval).toList ++ A.toList).toArray) w := by
            have e2 : ((c.args.map a.eval).toList ++ A.toList).toArray = c.args.map a.eval ++ A := by simp
            rw [e2]
            simp [execOp, ho, resolve, hcal, Deferred.ofValue, e, Sem.run_bind, invoke]
            exact hent _ w
          rw [hrun]
          rw [Oper.upon_enter]
          refine Calls.mono (hgo hnw (fun v w' => next (a.put o.dst v) w') hnext) (fun e w' he => ?_)
          cases e with
          | returned v => exact he
          | _ => exact he.elim
      | _ => rw [hcf] at h; exact p_op (d := d) PL hE hR hx (by rw [ho]; exact h)
    | _ => rw [hcal] at h; exact p_op (d := d) PL hE hR hx (by rw [ho]; exact h)
  | _ => rw [ho] at h; exact p_op (d := d) PL hE hR hx (by rw [ho]; exact h)
end
end Go.Proofs.YtpdnnndedejlhaaGreatV
/- Regions in their own order. -/
namespace Go.Proofs.YtpdnnndedejlhaaGreatV
open Go
set_option linter.unusedVariables false
set_option linter.unusedSimpArgs false
variable {U : Uni} {P : Program} {R : Type}
section
variable {C : Fr} {L : Lc} {s : St U.D} {a : Act} {w : World} {E : Nat → List (Con U)} {r : R}
theorem put_get (s : St U.D) (dst : Option Nat) (c : VV U.D) (i : Nat) : (s.put dst c).t[i]? = if dst = some i ∧ i < s.t.length then some c else s.t[i]? := by
  cases dst with
  | none => simp [St.put]
  | some d =>
    simp only [St.put, List.getElem?_set, Option.some.injEq]
    by_cases h : d = i
    · subst h
      by_cases h2 : d < s.t.length
      · simp [h2]
      · simp [h2]
    · simp [h]
theorem Rel.put (hR : Rel U C L s a w) {L' : Lc} {m' : Mem U.D} {w' : World} {dst : Option Nat} {c : VV U.D} {v : Value} (hM : MRel U C L' m' w') (hv : RV U C.F C.w0 L' c v) (hk : L'.kv = L.kv) (he : ∀ κ, (κ ∈ menL s.t ∨ κ ∈ menM s.m) → EqAt L L' κ)
    (hX : ∀ i, dst = some i → C.X i = none) : Rel U C L' (({ s with m := m' } : St U.D).put dst c) (a.put dst v) w' where
  toMRel := by cases dst <;> exact hM
  sz := by cases dst <;> simp [St.put, Act.put, hR.sz]
  tm i x u hx hu := by
    rw [put_get] at hx
    by_cases h : dst = some i ∧ i < s.t.length
    · rw [if_pos h] at hx
      cases hx
      obtain ⟨rfl, hi⟩ := h
      have hi' : i < a.tmps.size := by rw [hR.sz]; exact hi
      simp only [Act.put, Array.setIfInBounds, dif_pos hi', Array.getElem?_set_self] at hu
      cases hu; exact hv
    · rw [if_neg h] at hx
      have hu' : a.tmps[i]? = some u := by
        cases dst with
        | none => exact hu
        | some d =>
          have hd : d ≠ i := fun e => h ⟨by rw [e], idx_lt hx⟩
          simpa [Act.put, Array.getElem?_setIfInBounds, hd] using hu
      exact (hR.tm i x u hx hu').ext hk (fun κ hκ => he κ (.inl (menL_mem hx hκ)))
  df := by cases dst <;> exact hR.df
  fx i v' hi := by
    have := hR.fx i v' hi
    cases dst with
    | none => exact this
    | some d =>
      have hd : d ≠ i := fun e => by have := hX d rfl; rw [e, hi] at this; cases this
      simpa [Act.put, Array.getElem?_setIfInBounds, hd] using this
theorem Rel.putv (hR : Rel U C L s a w) {dst : Option Nat} {c : VV U.D} {v : Value} (hv : RV U C.F C.w0 L c v) (hX : ∀ i, dst = some i → C.X i = none) : Rel U C L (s.put dst c) (a.put dst v) w :=
  hR.put hR.toMRel hv rfl (fun κ _ => ⟨rfl, rfl, rfl, rfl, rfl, rfl⟩) hX
theorem Rel.know (hR : Rel U C L s a w) {i : Nat} {c : VV U.D} (hv : RV U C.F C.w0 L c (a.tmps.getD i undef)) : Rel U C L (s.put (some i) c) a w where
  toMRel := hR.toMRel
  sz := by simp [St.put, hR.sz]
  tm j x u hx hu := by
    rw [put_get] at hx
    by_cases h : some i = some j ∧ j < s.t.length
    · rw [if_pos h] at hx
      cases hx
      obtain ⟨e, hi⟩ := h
      cases e
      have : a.tmps.getD i undef = u := by simp [Array.getD_eq_getD_getElem?, hu]
      rw [← this]; exact hv
    · rw [if_neg h] at hx; exact hR.tm j x u hx hu
  df := hR.df
  fx := hR.fx
def Free (C : Fr) (o : Oper) : Prop := ∀ i, o.dst = some i → C.X i = none
theorem put_len (s : St U.D) (d : Option Nat) (c : VV U.D) : (s.put d c).t.length = s.t.length := by cases d <;> simp [St.put]
theorem isUnd_inv {F : Nat → Prop} {w0 : World} {c : VV U.D} {v : Value} (h : isUnd c = true) (hv : RV U F w0 L c v) : v = undef := by
  cases c <;> try (cases h)
  case tup cs =>
    cases cs with
    | cons x xs => cases h
    | nil =>
      cases hv with
      | leaf h => cases h with
        | bool hb => simp [boolOf] at hb
      | @tup _ vs hn _ =>
        have : vs = #[] := by apply Array.eq_empty_of_size_eq_zero; simpa using hn.symm
        subst this; rfl
theorem RV.und {F : Nat → Prop} {w0 : World} : RV U F w0 L (.tup []) undef := .tup rfl (fun i c v h => by simp at h)
theorem Vrg_sound {kv : Value} {N : Nat} (PL : Plaw P U) (hE : EnvOk P U E) {ops : Array Oper} {Q : Exit → Act → World → Prop} {K : St U.D → Option R} (hops : ∀ o ∈ ops, opsOk o.op = true ∧ Free C o)
    (hK : ∀ s L a w, L.kv = kv → s.t.length = N → Rel U C L s a w → K s = some r → Q .normal a w) : ∀ (os : List Oper) (i : Nat) (s : St U.D) (L : Lc) (a : Act) (w : World), ops.toList.drop i = os → L.kv = kv → s.t.length = N → Rel U C L s a w → Vrg U E ops K os s = some r → wpOps P ops Q (List.range' i os.length) a w
  | [], i, s, L, a, w, hd, hkv, hN, hR, h => hK s L a w hkv hN hR h
  | o :: os, i, s, L, a, w, hd, hkv, hN, hR, h => by
    have hi : ops[i]? = some o := by
      have := congrArg (fun l => l[0]?) hd
      simpa using this
    have hd' : ops.toList.drop (i + 1) = os := by
      rw [← List.drop_drop, hd]; rfl
    obtain ⟨hok, hfree⟩ := hops o (Array.mem_of_getElem? hi)
    have ih := Vrg_sound PL hE hops hK os (i + 1)
    have hrg : List.range' i (os.length + 1) = i :: List.range' (i + 1) os.length := by simp [List.range'_succ]
    rw [List.length_cons, hrg]
    simp only [wpOps, hi]
    have go : ∀ (s : St U.D) (L : Lc), L.kv = kv → s.t.length = N → Rel U C L s a w → (VopN U E o.op (o.dst.getD 1000) (ev s.t) s.m fun v u => bif newOk s u then Vrg U E ops K os ({ s with m := mupd s.m u }.put o.dst v) else none) = some r → o.wp P a w (wpOps P ops Q (List.range' (i + 1) os.length)) Q := by
      intro s L hkv hN hR h
      obtain ⟨v, u, hK', hg⟩ := p_opN PL hE hR hok h
      cases hn : newOk s u with
      | false => rw [hn] at hK'; cases hK'
      | true =>
        rw [hn] at hK'; simp only [cond_true] at hK'
        exact hg hn _ Q (fun L' w' v' hM hv hk he => ih _ L' _ w' hd' (hk.trans hkv) (by rw [put_len]; exact hN) (hR.put hM hv hk he hfree) hK')
    simp only [Vrg] at h
    cases hg : o.guard with
    | none =>
      rw [hg] at h
      have hw : Region.wanted o (yielded ops a.tmps) = true := by simp [Region.wanted, hg]
      rw [if_pos hw]
      exact .inl (go s L hkv hN hR h)
    | some jw =>
      obtain ⟨j, want⟩ := jw
      rw [hg] at h
      simp only at h
      cases hj : (ops[j]?).bind (·.dst) with
      | none => rw [hj] at h; cases h
      | some t =>
        rw [hj] at h
        simp only at h
        cases hu : isUnd (lget s.t t) with
        | true =>
          rw [hu] at h
          simp only [cond_true] at h
          have hv := isUnd_inv hu (hR.get t)
          have hy : yielded ops a.tmps j = none := by
            unfold yielded
            rw [hj, Option.bind_some]
            cases ht : a.tmps[t]? with
            | none => rfl
            | some x => simp [Array.getD_eq_getD_getElem?, ht] at hv; subst hv; rfl
          have hw : Region.wanted o (yielded ops a.tmps) = false := by simp only [Region.wanted, hg, hy]; rfl
          rw [hw]
          exact ih _ L _ w hd' hkv (by rw [put_len]; exact hN) (hR.putv .und hfree) h
        | false =>
        rw [hu] at h
        simp only [cond_false] at h
        obtain ⟨b, hb, h⟩ := vcond_inv h
        have hv := (hR.get t).bool_inv hb
        have hy : yielded ops a.tmps j = some b := by
          unfold yielded
          rw [hj, Option.bind_some]
          cases ht : a.tmps[t]? with
          | none => simp [Array.getD_eq_getD_getElem?, ht, undef] at hv
          | some x => simp [Array.getD_eq_getD_getElem?, ht] at hv; subst hv; rfl
        have hR' : Rel U C L (s.put (some t) (.lit b)) a w := hR.know (by rw [hv]; exact .leaf (.bool rfl))
        have hw : Region.wanted o (yielded ops a.tmps) = (b == want) := by simp only [Region.wanted, hg, hy]; cases b <;> cases want <;> rfl
        rw [hw]
        have h2 : (if b == want then (VopN U E o.op (o.dst.getD 1000) (ev (s.put (some t) (.lit b)).t) (s.put (some t) (.lit b)).m fun v u => bif newOk (s.put (some t) (.lit b)) u then Vrg U E ops K os ({ (s.put (some t) (.lit b)) with m := mupd (s.put (some t) (.lit b)).m u }.put o.dst v) else none) else Vrg U E ops K os ((s.put (some t) (.lit b)).put o.dst (.tup []))) = some r := by
          cases b <;> simpa using h
        cases hbw : (b == want) with
        | true =>
          rw [hbw] at h2
          exact .inl (go _ L hkv (by rw [put_len]; exact hN) hR' h2)
        | false =>
          rw [hbw] at h2
          exact ih _ L _ w hd' hkv (by rw [put_len, put_len]; exact hN) (hR'.putv .und hfree) h2
end
end Go.Proofs.YtpdnnndedejlhaaGreatV
/- Where the reading is cut. -/
namespace Go.Proofs.YtpdnnndedejlhaaGreatV
open Go
set_option linter.unusedVariables false
set_option linter.unusedSimpArgs false
variable {U : Uni} {P : Program} {R : Type}
section
variable {C : Fr} {L L' : Lc} {s : St U.D} {m : Mem U.D} {a : Act} {w : World} {r : R}
theorem keepC_false : ∀ (gs : List Cg) (cs ls : List (VV U.D)), decCL false m gs cs = some ls → ∀ (i k0 : Nat), gs[i]? = some (.keep k0) → ∃ k xs, cs[i]? = some (.ktree k xs)
  | [], cs, ls, hd, i, k0, h => by simp at h
  | _ :: _, [], ls, hd, i, k0, h => by cases hd
  | g :: gs, c :: cs, ls, hd, i, k0, h => by
    simp only [decCL] at hd
    cases h1 : decC false m g c with
    | none => rw [h1] at hd; cases hd
    | some x =>
      cases h2 : decCL false m gs cs with
      | none => rw [h1, h2] at hd; cases hd
      | some b =>
        cases i with
        | zero =>
          simp at h; subst h
          cases c <;> simp only [decC] at h1 <;> try (cases h1)
          all_goals exact ⟨_, _, rfl⟩
        | succ i => exact keepC_false gs cs b h2 i k0 (by simpa using h)
theorem keepOk_false (hM : MRel U C L m w) (hkv : L'.kv = L.kv) {g : Sg} {c : VV U.D} {ls : List (VV U.D)} (hd : dec false m g c = some ls) : KeepOk L L' w g c := by
  cases g <;> try (exact trivial)
  case box t gs =>
    cases c <;> try (exact trivial)
    case ptr κ j =>
      cases j with
      | succ j => simp only [dec] at hd; cases hd
      | zero =>
        simp only [dec] at hd
        cases hm : mget m κ with
        | none => rw [hm] at hd; cases hd
        | some b =>
          rw [hm] at hd
          cases b with
          | box t' cs =>
            simp only at hd
            cases ht : Nat.beq t t' with
            | false => rw [ht] at hd; cases hd
            | true =>
              simp only [ht, cond_true] at hd
              intro A t2 lay hA i k v hg hv
              obtain ⟨k', xs, hc⟩ := keepC_false gs cs ls hd i k hg
              obtain ⟨-, A', hA', -, hAl⟩ := hM.me κ _ hm
              rw [hA] at hA'
              cases hA'
              have hrv := (hAl i _ v hc hv).1
              rw [hkv]
              cases hrv with
              | leaf h => cases h with
                | bool hb => simp [boolOf] at hb
              | ktree => rfl
          | _ => cases hd
theorem keepOks_false (hM : MRel U C L m w) (hkv : L'.kv = L.kv) : ∀ (ss : List Sg) (cs ls : List (VV U.D)), decL false m ss cs = some ls → KeepOks U L L' w ss cs
  | [], cs, ls, _ => .nil _
  | _ :: _, [], ls, _ => .no _
  | g :: ss, c :: cs, ls, hd => by
    simp only [decL] at hd
    cases h1 : dec false m g c with
    | none => rw [h1] at hd; cases hd
    | some x =>
      cases h2 : decL false m ss cs with
      | none => rw [h1, h2] at hd; cases hd
      | some b => exact .cons (keepOk_false hM hkv h1) (keepOks_false hM hkv ss cs b h2)
theorem setT_get : ∀ (ts : List Nat) (t vs : List (VV U.D)) (i : Nat) (c : VV U.D), (setT t ts vs)[i]? = some c → t[i]? = some c ∨ ∃ p : Nat, ts[p]? = some i ∧ vs[p]? = some c
  | [], t, vs, i, c, h => .inl (by cases vs <;> exact h)
  | j :: ts, t, [], i, c, h => .inl h
  | j :: ts, t, v :: vs, i, c, h => by
    simp only [setT] at h
    rcases setT_get ts _ vs i c h with h | ⟨p, h1, h2⟩
    · rw [List.getElem?_set] at h
      by_cases e : j = i
      · subst e
        rw [if_pos rfl] at h
        by_cases hl : j < t.length
        · rw [if_pos hl] at h
          exact .inr ⟨0, rfl, by simpa using h⟩
        · rw [if_neg hl] at h; cases h
      · rw [if_neg e] at h; exact .inl h
    · exact .inr ⟨p + 1, by simpa using h1, by simpa using h2⟩
theorem setT_len : ∀ (ts : List Nat) (t vs : List (VV U.D)), (setT t ts vs).length = t.length
  | [], t, vs => by cases vs <;> rfl
  | j :: ts, t, [] => rfl
  | j :: ts, t, v :: vs => by simp only [setT]; rw [setT_len ts]; simp
theorem tsL_rvs (hR : Rel U C L s a w) : ∀ (ts : List Nat), RVs U C.F C.w0 L (tsL s.t ts) (ts.map fun i => a.tmps.getD i undef)
  | [] => RVs.nil
  | i :: ts => RVs.cons (hR.get i) (tsL_rvs hR ts)
theorem tgt0 (hM : MRel U C L m w) (bl : List Nat) (hb : bl = []) : Tgt U C L w C.F C.w0 bl := ⟨fun b hb => hb, fun b hb => rfl, fun q hq => by subst hb; simp at hq⟩
theorem hand (PL : Ulaw U) (hM : MRel U C L m w) {ss : List Sg} {cs ls' : List (VV U.D)} {vs : List Value} (κ0 : Nat) (hl : LLs U false m C.F C.w0 L.kv ss cs ls') (hv : RVs U C.F C.w0 L cs vs) (hko : ∀ L' : Lc, L'.kv = L.kv → KeepOks U L L' w ss cs) (hn : ndp (somes (kys m ss cs)) = true) :
    ∃ L' cs' m', L'.kv = L.kv ∧ encL ss κ0 ls' = (cs', m', κ0 + (kys m ss cs).length, []) ∧ RVs U C.F C.w0 L' cs' vs ∧ MRel U C L' m' w ∧ (∀ q b, mget m' q = some b → κ0 ≤ q ∧ q < κ0 + (kys m ss cs).length) := by
  obtain ⟨cs', m', e, h1, h2⟩ := rkL (L' := ren L κ0 (kys m ss cs) L.kv) PL hM (tgt0 hM [] rfl) (bor := false) ⟨(fun h => by cases h), fun _ => rfl⟩ [] ss cs ls' vs κ0 hl hv (hko (ren L κ0 (kys m ss cs) L.kv) rfl) (fun h => by cases h) (ren_ok hn)
  rw [List.append_nil] at e
  refine ⟨ren L κ0 (kys m ss cs) L.kv, cs', m', rfl, e, h1, ?_, fun q b hb => ⟨(h2 q b hb).1, (h2 q b hb).2.1⟩⟩
  exact ren_mrel (w0' := C.w0) (G' := C.G) hM h2 hM.fg (fun b hb => by
    obtain ⟨g1, g2, g3⟩ := hM.g0 b hb
    exact ⟨g1, by simp only [ren, g2], g3⟩) hM.hs rfl rfl rfl C.X
theorem slot_rel (PL : Ulaw U) (hR : Rel U C L s a w) {S : Slot} {x : TL U.D (lvsL S.ss)} (h : proj S s = some x) : ∃ L', L'.kv = L.kv ∧ Rel U C L' (slot s.t.length S x) a w := by
  unfold proj at h
  cases hd : decL false s.m S.ss (tsL s.t S.ts) with
  | none => rw [hd] at h; cases h
  | some lv =>
    rw [hd] at h
    simp only at h
    cases hn : ndp (somes (kys s.m S.ss (tsL s.t S.ts))) with
    | false => rw [hn] at h; cases h
    | true =>
      simp only [hn, cond_true] at h
      obtain ⟨L', cs', m', hk, e, h1, h2, -⟩ := hand PL hR.toMRel 200000 (LLs.of S.ss _ lv (unty _ x) hd (tyd_lq _ h)) (tsL_rvs hR S.ts) (fun L' hk => keepOks_false hR.toMRel hk _ _ lv hd) hn
      refine ⟨L', hk, ?_⟩
      have es : slot s.t.length S x = { t := setT (List.replicate s.t.length .junk) S.ts cs', m := m' } := by
        unfold slot; rw [e]
      rw [es]
      refine { toMRel := h2, sz := by simp [setT_len, hR.sz], tm := fun i c v hc hv => ?_, df := hR.df, fx := hR.fx }
      rcases setT_get _ _ _ _ _ hc with hc | ⟨p, hp1, hp2⟩
      · rw [List.getElem?_replicate] at hc
        by_cases hi : i < s.t.length
        · rw [if_pos hi] at hc; cases hc; exact .junk _
        · rw [if_neg hi] at hc; cases hc
      · refine h1.2 p c v hp2 ?_
        rw [List.getElem?_map, hp1]
        simp only [Option.map_some, Array.getD_eq_getD_getElem?, hv, Option.getD_some]
end
end Go.Proofs.YtpdnnndedejlhaaGreatV
/- Code. -/
namespace Go.Proofs.YtpdnnndedejlhaaGreatV
open Go
set_option linter.unusedVariables false
set_option linter.unusedSimpArgs false
variable {U : Uni} {P : Program} {R : Type}
def okC (fx : List Nat) : Code → Bool
  | .region _ ops _ => ops.toList.all (okOp fx)
  | .seq a b => okC fx a && okC fx b
  | .cond c a b => opOk c && (okC fx a && okC fx b)
  | .block _ c => okC fx c
  | .loop c => okC fx c
  | _ => true
def Ends (U : Uni) (C : Fr) (kv : Value) (K : Ex → St U.D → Option R) (r : R) (N : Nat) (Q : Exit → Act → World → Prop) : Prop :=
  ∀ (e : Ex) (s : St U.D) (L : Lc) (a : Act) (w : World), L.kv = kv → s.t.length = N → Rel U C L s a w → K e s = some r → Q (match e with
    | .normal => .normal
    | .exit i => .exit i
    | .ret => .ret) a w
theorem rounds_mono {c : Code} {Q : Exit → Act → World → Prop} : ∀ (n : Nat) (a : Act) (w : World), Code.rounds P c Q n a w → Code.rounds P c Q (n + 1) a w
  | 0, a, w, h => h.elim
  | n + 1, a, w, h => wp_mono h (fun e a w he => by
    cases e with
    | normal => exact rounds_mono n a w he
    | _ => exact he)
theorem rounds_le {c : Code} {Q : Exit → Act → World → Prop} {n m : Nat} (h : n ≤ m) {a : Act} {w : World} (hr : Code.rounds P c Q n a w) : Code.rounds P c Q m a w := by
  induction h with
  | refl => exact hr
  | step _ ih => exact rounds_mono _ _ _ ih
section
variable {C : Fr} {kv : Value} {r : R} {N : Nat} {J : List Nat}
def RegOk (P : Program) (U : Uni) (C : Fr) (kv : Value) (r : R) (N : Nat) (E : Nat → List (Con U)) (ops : Array Oper) (dr : Bool) : Prop :=
  (∀ o ∈ ops, opsOk o.op = true ∧ Free C o) → ∀ (id : Nat) (K : St U.D → Option R) (Q : Exit → Act → World → Prop) (s : St U.D) (L : Lc) (a : Act) (w : World), (∀ s L a w, L.kv = kv → s.t.length = N → Rel U C L s a w → K s = some r → Q .normal a w) →
    L.kv = kv → s.t.length = N → Rel U C L s a w → (bif dr then Vdr U E ops K (menL s.t ++ menM s.m) [] 0 ops.toList s else Vrg U E ops K ops.toList s) = some r → (Code.region id ops dr).wp P Q a w
def draws : Code → List (Array Oper)
  | .region _ ops true => [ops]
  | .seq a b => draws a ++ draws b
  | .cond _ a b => draws a ++ draws b
  | .block _ c => draws c
  | .loop c => draws c
  | _ => []
theorem Vc_sound {N0 : List Nat} {n0 : Nat} (PL : Plaw P U) {E : Nat → Nat → List (Con U)} (hE : ∀ k, k ≤ n0 → EnvOk P U (E k)) {F : Nat → Nat → St U.D → Option R} (hF0 : ∀ id s, F 0 id s = none) (hX : ∀ i, i ∉ N0 → C.X i = none) :
    ∀ (c : Code) (K : Nat → Ex → St U.D → Option R) (Q : Exit → Act → World → Prop) (n : Nat), n ≤ n0 → okC N0 c = true → (∀ k, k ≤ n0 → ∀ ops ∈ draws c, RegOk P U C kv r N (E k) ops true) → (∀ k, k ≤ n → Ends U C kv (K k) r N Q) →
      (∀ k id g, (id, g) ∈ Vcuts U (E k) J (F k) c (K k) → ∀ s : St U.D, s.t.length = N → F (k + 1) id s = some r → ∃ (S : Slot) (x : TL U.D (lvsL S.ss)), proj S s = some x ∧ g (slot N S x) = some r) →
      ∀ k, k ≤ n → ∀ (s : St U.D) (L : Lc) (a : Act) (w : World), L.kv = kv → s.t.length = N → Rel U C L s a w → Vc U (E k) J (F k) c (K k) s = some r → c.wp P Q a w := by
  have slotLen : ∀ (S : Slot) (x : TL U.D (lvsL S.ss)), (slot N S x).t.length = N := by
    intro S x
    unfold slot
    simp only [setT_len, List.length_replicate]
  have cut_ : ∀ {s : St U.D} {L : Lc} {a : Act} {w : World} {S : Slot} {x : TL U.D (lvsL S.ss)}, L.kv = kv → s.t.length = N → Rel U C L s a w → proj S s = some x → ∃ L', L'.kv = kv ∧ (slot N S x).t.length = N ∧ Rel U C L' (slot N S x) a w := by
    intro s L a w S x hkv hN hR hp
    obtain ⟨L', h1, h2⟩ := slot_rel PL.toUlaw hR hp
    rw [hN] at h2
    exact ⟨L', h1.trans hkv, slotLen S x, h2⟩
  intro c
  induction c with
  | skip =>
    intro K Q n hn hok hdr hK hcut k hk s L a w hkv hN hR h
    exact wp_skip (hK k hk .normal s L a w hkv hN hR h)
  | region id ops dr =>
    intro K Q n hn hok hdr hK hcut k hk s L a w hkv hN hR h
    simp only [Vc] at h
    have hall : ∀ o ∈ ops, opsOk o.op = true ∧ Free C o := by
      intro o ho
      simp only [okC, List.all_eq_true] at hok
      have := hok o (by simpa using ho)
      simp only [okOp, Bool.and_eq_true] at this
      refine ⟨this.1, fun i hi => hX i ?_⟩
      rw [hi] at this
      intro hm
      have h2 := this.2
      simp only [hasK_iff.2 hm] at h2
      cases h2
    cases dr with
    | true => exact hdr k (Nat.le_trans hk hn) ops List.mem_cons_self hall id (K k .normal) Q s L a w (fun s L a w h1 h2 h3 h4 => hK k hk .normal s L a w h1 h2 h3 h4) hkv hN hR h
    | false =>
      refine wp_region ?_
      have := Vrg_sound (kv := kv) PL (hE k (Nat.le_trans hk hn)) hall (Q := Q) (K := K k .normal) (r := r) (fun s L a w h1 h2 h3 h4 => hK k hk .normal s L a w h1 h2 h3 h4) ops.toList 0 s L a w rfl hkv hN hR h
      simpa [List.range_eq_range'] using this
  | seq x y ihx ihy =>
    intro K Q n hn hok hdr hK hcut k hk s L a w hkv hN hR h
    simp only [okC, Bool.and_eq_true] at hok
    refine wp_seq (ihx (fun k e s => match e with
      | .normal => if J.contains (rid y) then F k (rid y) s else Vc U (E k) J (F k) y (K k) s
      | e => K k e s) _ n hn hok.1 (fun k hkn ops ho => hdr k hkn ops (by simp only [draws]; exact List.mem_append_left _ ho)) (fun k hk e s L a w hkv hN hR h => ?_)
      (fun k id g hg => hcut k id g (by simp only [Vcuts]; exact List.mem_append_left _ (List.mem_append_left _ hg))) k hk s L a w hkv hN hR h)
    cases e with
    | exit i => exact hK k hk (.exit i) s L a w hkv hN hR h
    | ret => exact hK k hk .ret s L a w hkv hN hR h
    | normal =>
      have hy := ihy K Q n hn hok.2 (fun k hkn ops ho => hdr k hkn ops (by simp only [draws]; exact List.mem_append_right _ ho)) hK (fun k id g hg => hcut k id g (by simp only [Vcuts]; exact List.mem_append_right _ hg))
      simp only at h
      cases hj : J.contains (rid y) with
      | false => rw [hj] at h; exact hy k hk s L a w hkv hN hR h
      | true =>
        rw [hj] at h
        simp only [if_true] at h
        cases k with
        | zero => rw [hF0] at h; cases h
        | succ k =>
          obtain ⟨S, z, hp, hg⟩ := hcut k (rid y) (Vc U (E k) J (F k) y (K k)) (by simp only [Vcuts]; exact List.mem_append_left _ (List.mem_append_right _ (by rw [if_pos hj]; exact List.mem_cons_self))) s hN h
          obtain ⟨L', h1, h2, h3⟩ := cut_ hkv hN hR hp
          exact hy k (by omega) _ L' a w h1 h2 h3 hg
  | cond c x y ihx ihy =>
    intro K Q n hn hok hdr hK hcut k hk s L a w hkv hN hR h
    simp only [okC, Bool.and_eq_true] at hok
    simp only [Vc] at h
    obtain ⟨b, hb, h⟩ := vcond_inv h
    have hv := (hR.ev c hok.1).bool_inv hb
    refine wp_cond hv ?_
    cases b with
    | true => exact ihx K Q n hn hok.2.1 (fun k hkn ops ho => hdr k hkn ops (by simp only [draws]; exact List.mem_append_left _ ho)) hK (fun k id g hg => hcut k id g (by simp only [Vcuts]; exact List.mem_append_left _ hg)) k hk s L a w hkv hN hR (by simpa using h)
    | false => exact ihy K Q n hn hok.2.2 (fun k hkn ops ho => hdr k hkn ops (by simp only [draws]; exact List.mem_append_right _ ho)) hK (fun k id g hg => hcut k id g (by simp only [Vcuts]; exact List.mem_append_right _ hg)) k hk s L a w hkv hN hR (by simpa using h)
  | block i c ih =>
    intro K Q n hn hok hdr hK hcut k hk s L a w hkv hN hR h
    refine wp_block (ih _ _ n hn hok hdr (fun k hk e s L a w hkv hN hR h => ?_) hcut k hk s L a w hkv hN hR h)
    cases e with
    | normal => exact hK k hk .normal s L a w hkv hN hR h
    | ret => exact hK k hk .ret s L a w hkv hN hR h
    | exit j =>
      simp only at h
      by_cases e : j = i
      · subst e
        simp only [beq_self_eq_true, if_true] at h
        simp only [Exit.inBlock, if_true]
        exact hK k hk .normal s L a w hkv hN hR h
      · have hb : (j == i) = false := by simpa using e
        rw [hb] at h
        simp only [Exit.inBlock, if_neg e]
        exact hK k hk (.exit j) s L a w hkv hN hR h
  | loop c ih =>
    intro K Q n hn hok hdr hK hcut k hk s L a w hkv hN hR h
    simp only [Vc] at h
    refine wp_loop_rounds k ?_
    have key : ∀ k, k ≤ n → ∀ (s : St U.D) (L : Lc) (a : Act) (w : World), L.kv = kv → s.t.length = N → Rel U C L s a w → F k (rid c) s = some r → Code.rounds P c Q k a w := by
      intro k
      induction k using Nat.strongRecOn with
      | _ k ihk =>
        intro hk s L a w hkv hN hR h
        cases k with
        | zero => rw [hF0] at h; cases h
        | succ k =>
          obtain ⟨S, z, hp, hg⟩ := hcut k (rid c) _ (by simp only [Vcuts]; exact List.mem_cons_self) s hN h
          obtain ⟨L', h1, h2, h3⟩ := cut_ hkv hN hR hp
          rw [rounds_succ]
          refine ih (fun k e s => match e with
            | .normal => F k (rid c) s
            | e => K k e s) _ k (by omega) hok hdr (fun k' hk' e s L a w hkv hN hR h => ?_) (fun k id g hg => hcut k id g (by simp only [Vcuts]; exact List.mem_cons_of_mem _ hg)) k (Nat.le_refl _) _ L' a w h1 h2 h3 hg
          cases e with
          | normal => exact rounds_le hk' (ihk k' (by omega) (by omega) s L a w hkv hN hR h)
          | exit i => exact hK k' (by omega) (.exit i) s L a w hkv hN hR h
          | ret => exact hK k' (by omega) .ret s L a w hkv hN hR h
    exact key k hk s L a w hkv hN hR h
  | exit i =>
    intro K Q n hn hok hdr hK hcut k hk s L a w hkv hN hR h
    exact wp_exit (hK k hk (.exit i) s L a w hkv hN hR h)
  | ret =>
    intro K Q n hn hok hdr hK hcut k hk s L a w hkv hN hR h
    exact wp_ret (hK k hk .ret s L a w hkv hN hR h)
  | _ =>
    intro K Q n hn hok hdr hK hcut k hk s L a w hkv hN hR h
    cases h
end
end Go.Proofs.YtpdnnndedejlhaaGreatV
/- What a frame hands back. -/
namespace Go.Proofs.YtpdnnndedejlhaaGreatV
open Go
set_option linter.unusedVariables false
set_option linter.unusedSimpArgs false
variable {U : Uni} {P : Program} {R : Type}
section
variable {C : Fr} {L L' : Lc} {s : St U.D} {m : Mem U.D} {a : Act} {w : World} {r : R} {kv : Value} {F' : Nat → Prop} {w0' : World}
theorem LQs.app_inv {ys a b : List (VV U.D)} (h : LQs ys (a ++ b)) : LQs (ys.take a.length) a ∧ LQs (ys.drop a.length) b := by
  obtain ⟨a', b', rfl, h1, h2⟩ := h.split
  have := h1.1
  rw [← this, List.take_left, List.drop_left]
  exact ⟨h1, h2⟩
theorem mergeC_ok : ∀ (gs : List Cg) (cs b os ys rest : List (VV U.D)), decCL false m gs cs = some b → KFc U F' w0' kv gs os → LQs ys (outD gs b ++ rest) → ∃ a r', mergeC gs os ys = (a, r') ∧ LK U F' w0' kv gs a b ∧ LQs r' rest
  | [], [], b, os, ys, rest, hd, hk, hl => by
    cases hd
    exact ⟨[], ys, by cases os <;> rfl, .nil, hl⟩
  | [], _ :: _, b, os, ys, rest, hd, _, _ => by cases hd
  | _ :: _, [], b, os, ys, rest, hd, _, _ => by cases hd
  | g :: gs, c :: cs, b, [], ys, rest, hd, hk, hl => hk.elim
  | g :: gs, c :: cs, b, o :: os, ys, rest, hd, hk, hl => by
    simp only [decCL] at hd
    cases h1 : decC false m g c with
    | none => rw [h1] at hd; cases hd
    | some x =>
      cases h2 : decCL false m gs cs with
      | none => rw [h1, h2] at hd; cases hd
      | some b' =>
        rw [h1, h2] at hd
        cases hd
        have plain : outD (g :: gs) (x :: b') = x :: outD gs b' → (∀ y r, mergeC (g :: gs) (o :: os) (y :: r) = (y :: (mergeC gs os r).1, (mergeC gs os r).2)) → ∃ a r', mergeC (g :: gs) (o :: os) ys = (a, r') ∧ LK U F' w0' kv (g :: gs) a (x :: b') ∧ LQs r' rest := by
          intro e1 e2
          rw [e1] at hl
          obtain ⟨y, r, rfl, hy, hr⟩ := LQs.inv (l := outD gs b' ++ rest) hl
          obtain ⟨a, r', h3, h4, h5⟩ := mergeC_ok gs cs b' os r rest h2 hk.2 hr
          exact ⟨y :: a, r', by rw [e2, h3], .cons (.inl hy) h4, h5⟩
        cases g with
        | keep k0 =>
          obtain ⟨k, xs, rfl, hrc⟩ := hk.1 k0 rfl
          obtain ⟨a, r', h3, h4, h5⟩ := mergeC_ok gs cs b' os ys rest h2 hk.2 hl
          exact ⟨.tree k xs :: a, r', by simp only [mergeC, h3], .cons (.inr ⟨k0, k, xs, rfl, rfl, hrc⟩) h4, h5⟩
        | _ => exact plain rfl (fun _ _ => rfl)
theorem ioV_nil (ss : List Sg) : ioV ss ([] : List (VV U.D)) = [] := by
  cases ss with
  | nil => rfl
  | cons s ss => cases s <;> (try rfl) <;> rename_i g <;> cases g <;> rfl
theorem LLs.app' {bor : Bool} {ss ss' : List Sg} {cs cs' ls ls' : List (VV U.D)} (h : LLs U bor m F' w0' kv ss cs ls) (h' : LLs U bor m F' w0' kv ss' cs' ls') : LLs U bor m F' w0' kv (ss ++ ss') (cs ++ cs') (ls ++ ls') := by
  induction h with
  | nil => exact h'
  | cons hd h hs ih => rw [List.append_assoc]; exact .cons hd h ih
theorem nest_len {α : Type} (d : α) : ∀ (gs : List Cg) (l : List α), (nestV d gs l).length = (nestG gs).length
  | [], l => rfl
  | g :: gs, l => by
    have ih := nest_len d gs l.tail
    cases g <;> first | exact ih | exact congrArg (· + 1) ih
theorem decL_app {bor : Bool} : ∀ (ss ss' : List Sg) (cs cs' : List (VV U.D)) (ls : List (VV U.D)), ss.length = cs.length → decL bor m (ss ++ ss') (cs ++ cs') = some ls → ∃ a b, ls = a ++ b ∧ decL bor m ss cs = some a ∧ decL bor m ss' cs' = some b
  | [], ss', [], cs', ls, _, h => ⟨[], ls, rfl, rfl, h⟩
  | [], ss', _ :: _, cs', ls, hn, _ => by simp at hn
  | _ :: _, ss', [], cs', ls, hn, _ => by simp at hn
  | s :: ss, ss', c :: cs, cs', ls, hn, h => by
    simp only [List.cons_append, decL] at h
    cases h1 : dec bor m s c with
    | none => rw [h1] at h; cases h
    | some a =>
      cases h2 : decL bor m (ss ++ ss') (cs ++ cs') with
      | none => rw [h1, h2] at h; cases h
      | some b =>
        rw [h1, h2] at h; cases h
        obtain ⟨a', b', rfl, h3, h4⟩ := decL_app ss ss' cs cs' b (by simpa using hn) h2
        exact ⟨a ++ a', b', by rw [List.append_assoc], by simp only [decL, h1, h3], h4⟩
theorem decL_cells {bor : Bool} : ∀ (gs : List Cg) (cs ls : List (VV U.D)), decL bor m (gs.map Sg.c) cs = some ls → ls.length = gs.length ∧ ∀ (ss : List Sg) (rest : List (VV U.D)), outM (gs.map Sg.c ++ ss) (ls ++ rest) = ls ++ outM ss rest
  | [], [], ls, h => by cases h; exact ⟨rfl, fun _ _ => rfl⟩
  | [], _ :: _, ls, h => by cases h
  | _ :: _, [], ls, h => by cases h
  | g :: gs, c :: cs, ls, h => by
    simp only [List.map_cons, decL] at h
    cases h1 : dec bor m (.c g) c with
    | none => rw [h1] at h; cases h
    | some a =>
      cases h2 : decL bor m (gs.map Sg.c) cs with
      | none => rw [h1, h2] at h; cases h
      | some b =>
        rw [h1, h2] at h; cases h
        obtain ⟨h3, h4⟩ := decL_cells gs cs b h2
        have hl := dec_len h1
        have hl' : a.length = 1 := by simpa [Sg.lvs] using hl
        refine ⟨by simp [h3, hl']; omega, fun ss rest => ?_⟩
        match a, hl' with
        | [z], _ => simp only [List.map_cons, List.cons_append, List.nil_append, outM, Sg.lvs, List.length_singleton, List.take_succ_cons, List.take_zero, List.drop_succ_cons, List.drop_zero, h4]
theorem mergeL_ok : ∀ (A : List Sg) (t ov xl ys : List (VV U.D)), decL false m (ioS A) (ioV A t) = some ov → KF U F' w0' kv A xl → LQs ys (outM (ioS A) ov) → LLs U false m F' w0' kv (ioS A) (ioV A t) (mergeL A xl ys)
  | [], t, ov, xl, ys, hd, hk, hl => by
    have e : ioV [] t = ([] : List (VV U.D)) := by cases t <;> rfl
    rw [e]
    exact .nil
  | s :: A, [], ov, xl, ys, hd, hk, hl => by
    rw [ioV_nil] at hd ⊢
    have skip : ioS (s :: A) = ioS A → (∃ n, mergeL (s :: A) xl ys = mergeL A (xl.drop n) ys ∧ KF U F' w0' kv A (xl.drop n)) → LLs U false m F' w0' kv (ioS (s :: A)) [] (mergeL (s :: A) xl ys) := by
      intro e ⟨n, e2, e3⟩
      rw [e] at hd hl ⊢
      rw [e2]
      have ih := mergeL_ok A [] ov (xl.drop n) ys (by rw [ioV_nil]; exact hd) e3 hl
      rw [ioV_nil] at ih
      exact ih
    cases s with
    | c g => cases g <;> first | (simp only [ioS, decL] at hd; cases hd; done) | exact skip rfl ⟨1, rfl, hk.2⟩
    | wag gs =>
      cases hg : nestG gs with
      | nil => exact skip (by simp only [ioS, hg]; rfl) ⟨gs.length, by simp only [mergeL, hg, List.length_nil, List.take_zero, List.nil_append, List.drop_zero], by have := hk; simp only [KF, Sg.lvs, List.length_map] at this; exact this⟩
      | cons g0 gs0 => simp only [ioS, hg, List.map_cons, List.cons_append, decL] at hd; cases hd
    | box t gs => simp only [ioS, decL] at hd; cases hd
    | abox t n k => simp only [ioS, decL] at hd; cases hd
    | arr n k => exact skip rfl ⟨_, rfl, hk⟩
    | agg gs => exact skip rfl ⟨_, rfl, hk⟩
    | pbox t gs => exact skip rfl ⟨_, rfl, hk⟩
    | fn f ps => exact skip rfl ⟨_, rfl, hk⟩
  | s :: A, v :: t, ov, xl, ys, hd, hk, hl => by
    have skip : ioS (s :: A) = ioS A → ioV (s :: A) (v :: t) = ioV A t → (∃ n, mergeL (s :: A) xl ys = mergeL A (xl.drop n) ys ∧ KF U F' w0' kv A (xl.drop n)) → LLs U false m F' w0' kv (ioS (s :: A)) (ioV (s :: A) (v :: t)) (mergeL (s :: A) xl ys) := by
      intro e e1 ⟨n, e2, e3⟩
      rw [e, e1] at hd
      rw [e] at hl
      rw [e, e1, e2]
      exact mergeL_ok A t ov (xl.drop n) ys hd e3 hl
    cases s with
    | arr n k => exact skip rfl rfl ⟨_, rfl, hk⟩
    | agg gs => exact skip rfl rfl ⟨_, rfl, hk⟩
    | pbox t gs => exact skip rfl rfl ⟨_, rfl, hk⟩
    | fn f ps => exact skip rfl rfl ⟨_, rfl, hk⟩
    | abox t' n k =>
      simp only [ioS, ioV, decL] at hd
      cases h1 : dec false m (.abox t' n k) v with
      | none => rw [h1] at hd; cases hd
      | some x => cases v <;> simp only [dec] at h1 <;> cases h1
    | c g =>
      cases g with
      | own k =>
        simp only [ioS, ioV, decL] at hd ⊢
        cases h1 : dec false m (.c (.own k)) v with
        | none => rw [h1] at hd; cases hd
        | some x =>
          cases h2 : decL false m (ioS A) (ioV A t) with
          | none => rw [h1, h2] at hd; cases hd
          | some b =>
            rw [h1, h2] at hd
            cases hd
            have hx : ∃ z, x = [z] := by
              simp only [dec] at h1
              split at h1
              · cases h1; exact ⟨_, rfl⟩
              · cases h1
            obtain ⟨z, rfl⟩ := hx
            have hl' : LQs ys (z :: outM (ioS A) b) := hl
            obtain ⟨y, r, rfl, hy, hr⟩ := hl'.inv
            obtain ⟨hx1, hx2⟩ := hk
            cases xl with
            | nil => simp at hx1
            | cons x0 xl =>
              have ih := mergeL_ok A t b xl r h2 hx2 hr
              exact LLs.cons (a' := [y]) h1 (LQs.cons hy LQs.nil_) ih
      | nest k =>
        simp only [ioS, ioV, decL] at hd ⊢
        cases h1 : dec false m (.c (.nest k)) v with
        | none => rw [h1] at hd; cases hd
        | some x =>
          cases h2 : decL false m (ioS A) (ioV A t) with
          | none => rw [h1, h2] at hd; cases hd
          | some b =>
            rw [h1, h2] at hd
            cases hd
            have hx : ∃ z, x = [z] := by
              simp only [dec] at h1
              split at h1
              · cases h1; exact ⟨_, rfl⟩
              · cases h1
            obtain ⟨z, rfl⟩ := hx
            have hl' : LQs ys (z :: outM (ioS A) b) := hl
            obtain ⟨y, r, rfl, hy, hr⟩ := hl'.inv
            obtain ⟨hx1, hx2⟩ := hk
            cases xl with
            | nil => simp at hx1
            | cons x0 xl =>
              have ih := mergeL_ok A t b xl r h2 hx2 hr
              exact LLs.cons (a' := [y]) h1 (LQs.cons hy LQs.nil_) ih
      | _ => exact skip rfl rfl ⟨1, rfl, hk.2⟩
    | wag gs =>
      have hn := nest_len (.junk : VV U.D) gs (agC v)
      simp only [ioS, ioV] at hd hl ⊢
      obtain ⟨b1, b2, rfl, h1, h2⟩ := decL_app _ _ _ _ ov (by rw [List.length_map, hn]) hd
      obtain ⟨h3, h4⟩ := decL_cells _ _ _ h1
      rw [h4] at hl
      obtain ⟨y1, y2, rfl, q1, q2⟩ := hl.split
      have hy1 : y1.length = (nestG gs).length := q1.1.trans h3
      have hk' : KF U F' w0' kv A (xl.drop gs.length) := by have := hk; simp only [KF, Sg.lvs, List.length_map] at this; exact this
      have ih := mergeL_ok A t b2 (xl.drop gs.length) y2 h2 hk' q2
      have e : mergeL (.wag gs :: A) xl (y1 ++ y2) = y1 ++ mergeL A (xl.drop gs.length) y2 := by simp only [mergeL, ← hy1, List.take_left, List.drop_left]
      rw [e]
      exact LLs.app' (LLs.of _ _ b1 y1 h1 q1) ih
    | box t' gs =>
      simp only [ioS, ioV, decL] at hd ⊢
      cases h1 : dec false m (.box t' gs) v with
      | none => rw [h1] at hd; cases hd
      | some x =>
        cases h2 : decL false m (ioS A) (ioV A t) with
        | none => rw [h1, h2] at hd; cases hd
        | some b =>
          rw [h1, h2] at hd
          cases hd
          obtain ⟨cs, h3⟩ := box_inv h1
          have hlen := decCL_len false gs cs x h3
          have hl' : LQs ys (outD gs x ++ outM (ioS A) b) := by
            have : outM (.box t' gs :: ioS A) (x ++ b) = outD gs x ++ outM (ioS A) b := by simp only [outM, ← hlen, List.take_left, List.drop_left]
            rw [← this]; exact hl
          obtain ⟨a', r', h4, h5, h6⟩ := mergeC_ok gs cs x (xl.take gs.length) ys (outM (ioS A) b) h3 hk.1 hl'
          have ih := mergeL_ok A t b (xl.drop gs.length) r' h2 hk.2 h6
          have e : mergeL (.box t' gs :: A) xl ys = a' ++ mergeL A (xl.drop gs.length) r' := by simp only [mergeL, h4]
          rw [e]
          exact LLs.cons h1 h5 ih
theorem LLs.app {bor : Bool} {ss ss' : List Sg} {cs cs' ls ls' : List (VV U.D)} (h : LLs U bor m F' w0' kv ss cs ls) (h' : LLs U bor m F' w0' kv ss' cs' ls') : LLs U bor m F' w0' kv (ss ++ ss') (cs ++ cs') (ls ++ ls') := by
  induction h with
  | nil => exact h'
  | cons hd h hs ih => rw [List.append_assoc]; exact .cons hd h ih
end
end Go.Proofs.YtpdnnndedejlhaaGreatV
/- A function. -/
namespace Go.Proofs.YtpdnnndedejlhaaGreatV
open Go
set_option linter.unusedVariables false
set_option linter.unusedSimpArgs false
variable {U : Uni} {P : Program} {R : Type}
section
variable {C : Fr} {L L' : Lc} {s : St U.D} {m : Mem U.D} {a : Act} {w : World} {r : R} {kv : Value} {F' : Nat → Prop} {w0' : World}
theorem decL_lens {bor : Bool} : ∀ (ss : List Sg) (cs ls : List (VV U.D)), decL bor m ss cs = some ls → cs.length = ss.length ∧ ls.length = (lvsL ss).length
  | [], [], ls, hd => by cases hd; exact ⟨rfl, rfl⟩
  | [], _ :: _, ls, hd => by cases hd
  | _ :: _, [], ls, hd => by cases hd
  | s :: ss, c :: cs, ls, hd => by
    simp only [decL] at hd
    cases h1 : dec bor m s c with
    | none => rw [h1] at hd; cases hd
    | some x =>
      cases h2 : decL bor m ss cs with
      | none => rw [h1, h2] at hd; cases hd
      | some b =>
        rw [h1, h2] at hd
        cases hd
        obtain ⟨e1, e2⟩ := decL_lens ss cs b h2
        simp [e1, e2, lvsL, dec_len h1]
theorem encL_len : ∀ (ss : List Sg) (κ : Nat) (r : List (VV U.D)), (encL ss κ r).1.length = ss.length
  | [], κ, r => rfl
  | s :: ss, κ, r => by
    simp only [encL]
    generalize enc s κ r = q
    obtain ⟨v, m, κ', r'⟩ := q
    have ih := encL_len ss κ' r'
    generalize hq : encL ss κ' r' = p at ih
    obtain ⟨vs, m', κ'', r''⟩ := p
    simp only [List.length_cons] at ih ⊢
    rw [ih]
theorem ioV_take : ∀ (ss : List Sg) (t : List (VV U.D)), ioV ss t = ioV ss (t.take ss.length)
  | [], t => by cases t <;> rfl
  | s :: ss, [] => by simp
  | s :: ss, c :: t => by
    have ih := ioV_take ss t
    simp only [List.length_cons, List.take_succ_cons]
    cases s with
    | c g => cases g <;> simp only [ioV] <;> rw [ih]
    | _ => simp only [ioV]; rw [ih]
theorem ioRVs' {F : Nat → Prop} {w0 : World} {L : Lc} : ∀ (ss : List Sg) (j : Nat) (cs : List (VV U.D)) (vs : List Value), cs.length = vs.length → (∀ (i : Nat) (c : VV U.D) (v : Value), i + j ∈ ioIx j ss → cs[i]? = some c → vs[i]? = some v → RV U F w0 L c v) → RVs U F w0 L (ioV ss cs) (ioU ss vs)
  | [], j, cs, vs, _, _ => by cases cs <;> cases vs <;> exact RVs.nil
  | s :: ss, j, [], vs, hn, h => by
    have : vs = [] := List.eq_nil_of_length_eq_zero hn.symm
    subst this
    have e : ioV (s :: ss) ([] : List (VV U.D)) = [] := by cases s <;> (try rfl) <;> rename_i g <;> cases g <;> rfl
    have e2 : ioU (s :: ss) [] = [] := by cases s <;> (try rfl) <;> rename_i g <;> cases g <;> rfl
    rw [e, e2]; exact RVs.nil
  | s :: ss, j, c :: cs, [], hn, h => by simp at hn
  | s :: ss, j, c :: cs, v :: vs, hn, h => by
    have hsub : ∀ i, i ∈ ioIx (j + 1) ss → i ∈ ioIx j (s :: ss) := by
      intro i hi
      cases s with
      | c g => cases g <;> simp only [ioIx] <;> first | exact hi | exact List.mem_cons_of_mem _ hi
      | box t gs => simp only [ioIx]; exact List.mem_cons_of_mem _ hi
      | abox t n k => simp only [ioIx]; exact List.mem_cons_of_mem _ hi
      | wag gs => simp only [ioIx]; exact List.mem_cons_of_mem _ hi
      | _ => simp only [ioIx]; exact hi
    have ih := ioRVs' ss (j + 1) cs vs (by simpa using hn) (fun i c v hi hc hv => h (i + 1) c v (by rw [show i + 1 + j = i + (j + 1) by omega]; exact hsub _ hi) (by simpa using hc) (by simpa using hv))
    cases s with
    | c g => cases g <;> first | exact ih | exact RVs.cons (h 0 c v (by simp [ioIx]) rfl rfl) ih
    | box t gs => exact RVs.cons (h 0 c v (by simp [ioIx]) rfl rfl) ih
    | abox t n k => exact RVs.cons (h 0 c v (by simp [ioIx]) rfl rfl) ih
    | wag gs => exact (agRV gs (h 0 c v (by simp [ioIx]) rfl rfl)).append ih
    | _ => exact ih
def resRun (tmps : Array Value) : ResultVar → Sem Value
  | .tmp t => pure (tmps.getD t undef)
  | .cell a t => do loadVar t (← asAddr (tmps.getD a undef))
theorem res_list (PL : Plaw P U) (hR : Rel U C L s a w) : ∀ (rs : List ResultVar) (vs : List (VV U.D)), resL s rs = some vs → ∃ us, (rs.mapM (resRun a.tmps)).run P w = .ok us w ∧ RVs U C.F C.w0 L vs us
  | [], vs, h => by cases h; exact ⟨[], by simp [Sem.run], RVs.nil⟩
  | rv :: rs, vs, h => by
    simp only [resL] at h
    cases h1 : resV s rv with
    | none => rw [h1] at h; cases h
    | some c =>
      cases h2 : resL s rs with
      | none => rw [h1, h2] at h; cases h
      | some vs' =>
        rw [h1, h2] at h
        cases h
        obtain ⟨us, hr, hv⟩ := res_list PL hR rs vs' h2
        have one : ∃ u, (resRun a.tmps rv).run P w = .ok u w ∧ RV U C.F C.w0 L c u := by
          cases rv with
          | tmp t => simp only [resV] at h1; cases h1; exact ⟨_, rfl, hR.get t⟩
          | cell i t =>
            simp only [resV] at h1
            have hvi := hR.get i
            generalize lget s.t i = ci at h1 hvi
            cases ci <;> try (cases h1)
            case ptr κ j =>
              cases j with
              | succ j => cases h1
              | zero =>
                cases hT : U.ti t with
                | none => rw [hT] at h1; cases h1
                | some T =>
                  rw [hT] at h1
                  simp only at h1
                  cases hm : mget s.m κ with
                  | none => rw [hm] at h1; cases h1
                  | some b =>
                    rw [hm] at h1
                    cases b with
                    | box t' cs =>
                      simp only at h1
                      obtain ⟨e, hca⟩ := ptrCells hR.toMRel hvi hm
                      obtain ⟨u, h3, h4⟩ := load_run (PL.ty t T hT) hca h1
                      refine ⟨u, ?_, h4⟩
                      rw [← e] at h3
                      simp only [resRun, e]
                      rw [e] at h3
                      simpa [Instr.loadAt, Instr.sureAddr, asAddr] using h3
                    | _ => cases h1
        obtain ⟨u, hu, hcu⟩ := one
        refine ⟨u :: us, ?_, RVs.cons hcu hv⟩
        rw [List.mapM_cons]
        simp [Sem.run_bind, hu, hr, Result.andThen]
theorem res_run (PL : Plaw P U) (hR : Rel U C L s a w) {fn : Func} {vs : List (VV U.D)} (h : resL s fn.results.toList = some vs) : ∃ us, (results fn a.tmps).run P w = .ok (packU us) w ∧ RVs U C.F C.w0 L vs us := by
  obtain ⟨us, h1, h2⟩ := res_list PL hR _ vs h
  refine ⟨us, ?_, h2⟩
  have hm : (fn.results.mapM (resRun a.tmps)).run P w = .ok us.toArray w := by
    rw [Array.mapM_eq_mapM_toList]
    simp only [map_eq_pure_bind, Sem.run_bind, h1]
    rfl
  have e : results fn a.tmps = (fn.results.mapM (resRun a.tmps) >>= fun vs => pure (if h : vs.size = 1 then vs[0] else .tuple vs)) := by
    unfold results
    congr 1
  rw [e]
  simp only [Sem.run_bind, hm, Result.andThen]
  match us with
  | [] => rfl
  | [u] => rfl
  | x :: y :: z => simp [packU, Sem.run]
end
end Go.Proofs.YtpdnnndedejlhaaGreatV
/- A function's contract. -/
namespace Go.Proofs.YtpdnnndedejlhaaGreatV
open Go
set_option linter.unusedVariables false
set_option linter.unusedSimpArgs false
variable {U : Uni} {P : Program} {R : Type}
theorem fin_ok (PL : Plaw P U) {C : Fr} {L : Lc} {s : St U.D} {a : Act} {w : World} (hR : Rel U C L s a w) {fn : Func} {A R : List Sg} {y : TL U.D (lvsL R ++ outsL A)} (h : fin fn.results.toList A R s = some y) {vs : List Value} (hvl : vs.length = A.length) (hN : A.length ≤ s.t.length)
    (hfx : ∀ (i : Nat) (v : Value), i ∈ ioIx 0 A → vs[i]? = some v → a.tmps[i]? = some v) {xl : List (VV U.D)} (hk : KF U C.F C.w0 L.kv A xl) (κ0 : Nat) :
    ∃ us, (results fn a.tmps).run P w = .ok (packU us) w ∧ ∃ L2 cs2 m2 κ2, encL (R ++ ioS A) κ0 ((unty (lvsL R ++ outsL A) y).take (lvsL R).length ++ mergeL A xl ((unty (lvsL R ++ outsL A) y).drop (lvsL R).length)) = (cs2, m2, κ2, []) ∧
      us.length = R.length ∧ RVs U C.F C.w0 L2 cs2 (us ++ ioU A vs) ∧ MRel U C L2 m2 w ∧ L2.kv = L.kv ∧ (∀ q b, mget m2 q = some b → κ0 ≤ q ∧ q < κ2) := by
  unfold fin at h
  cases hr : resL s fn.results.toList with
  | none => rw [hr] at h; cases h
  | some rs =>
    rw [hr] at h
    simp only at h
    cases h1 : decL false s.m R rs with
    | none => rw [h1] at h; cases h
    | some lv =>
      cases h2 : decL false s.m (ioS A) (ioV A s.t) with
      | none => rw [h1, h2] at h; cases h
      | some ov =>
        rw [h1, h2] at h
        simp only at h
        cases hn : ndp (somes (kys s.m (R ++ ioS A) (rs ++ ioV A s.t))) with
        | false => rw [hn] at h; cases h
        | true =>
          simp only [hn, cond_true] at h
          obtain ⟨us, hrun, hus⟩ := res_run PL hR hr
          obtain ⟨e1, e2⟩ := decL_lens R rs lv h1
          have hlq := tyd_lq _ h
          obtain ⟨hl1, hl2⟩ := hlq.app_inv
          rw [e2] at hl1 hl2
          have hio : RVs U C.F C.w0 L (ioV A s.t) (ioU A vs) := by
            rw [ioV_take]
            refine ioRVs' A 0 _ vs (by simp [hvl]; omega) (fun i c v hio hc hv => ?_)
            rw [List.getElem?_take] at hc
            by_cases hi : i < A.length
            · rw [if_pos hi] at hc
              exact hR.tm i c v hc (hfx i v hio hv)
            · rw [if_neg hi] at hc; cases hc
          have hll := LLs.app (LLs.of (kv := L.kv) (F' := C.F) (w0' := C.w0) R rs lv _ h1 hl1) (mergeL_ok A s.t ov xl _ h2 hk hl2)
          have hko : ∀ L' : Lc, L'.kv = L.kv → KeepOks U L L' w (R ++ ioS A) (rs ++ ioV A s.t) := by
            intro L' hL
            have k1 := keepOks_false (L' := L') hR.toMRel hL R rs lv h1
            have k2 := keepOks_false (L' := L') hR.toMRel hL (ioS A) _ ov h2
            have app : ∀ (ss : List Sg) (cs : List (VV U.D)), cs.length = ss.length → KeepOks U L L' w ss cs → KeepOks U L L' w (ss ++ ioS A) (cs ++ ioV A s.t) := by
              intro ss
              induction ss with
              | nil =>
                intro cs hcs _
                have : cs = [] := List.eq_nil_of_length_eq_zero hcs
                subst this; exact k2
              | cons g ss ih =>
                intro cs hcs h
                cases h with
                | no => simp at hcs
                | cons a b => exact .cons a (ih _ (by simpa using hcs) b)
            exact app R rs e1 k1
          obtain ⟨L2, cs2, m2, hkv, he, hv2, hM2, hrg⟩ := hand PL.toUlaw hR.toMRel κ0 hll (RVs.app hus hio) hko hn
          exact ⟨us, hrun, L2, cs2, m2, _, he, by rw [← hus.1]; exact e1, hv2, hM2, hkv, hrg⟩
theorem sound_fn (PL : Plaw P U) {f : FuncId} {fn : Func} {body : Code} (hf : P.funcs[f]? = some fn) (hb : fn.body = some body) {A R : List Sg} {J : List Nat} {E : Nat → Nat → List (Con U)} {F : Nat → Nat → St U.D → Option (TL U.D (lvsL R ++ outsL A))} {g : Nat → TL U.D (lvsL A) → Option (TL U.D (lvsL R ++ outsL A))}
    {n0 : Nat} (hE : ∀ k, k ≤ n0 → EnvOk P U (E k)) (hF0 : ∀ id s, F 0 id s = none) (hok : okC (ioIx 0 A) body = true) (hlen : Nat.ble A.length fn.ntmps = true)
    (hdr : ∀ k, k ≤ n0 → ∀ ops ∈ draws body, ∀ C kv (r : TL U.D (lvsL R ++ outsL A)) N, RegOk P U C kv r N (E k) ops true)
    (htop : ∀ k x, Vc U (E k) J (F k) body (K0 fn.results.toList A R) (ini fn.ntmps A x) = g k x)
    (hcut : ∀ k id q, (id, q) ∈ Vcuts U (E k) J (F k) body (K0 fn.results.toList A R) → ∀ s : St U.D, ∀ r, F (k + 1) id s = some r → ∃ (S : Slot) (x : TL U.D (lvsL S.ss)), proj S s = some x ∧ q (slot fn.ntmps S x) = some r)
    (k : Nat) (hk : k ≤ n0) : SoundC P U f ⟨A, R, g k⟩ := by
  intro κ0 x y hy F0 G L w vs cs m κ he hv hM hKF
  have hAl : cs.length = A.length := by
    have := encL_len A 100000 (unty (lvsL A) x)
    rw [he] at this; exact this
  have hvl : vs.length = A.length := hv.1.symm.trans hAl
  have hle := Nat.le_of_ble_eq_true hlen
  refine calls_of_wp hf hb ?_
  have hM' : MRel U ⟨F0, G, w, fun i => if i ∈ ioIx 0 A then vs[i]? else none⟩ L m w := { me := hM.me, fg := hM.fg, g0 := hM.g0, hl := hM.hl, rvo := hM.rvo, hs := hM.hs, os := hM.os, tp := hM.tp, ou := hM.ou }
  have hini : ini fn.ntmps A x = { t := cs ++ List.replicate (fn.ntmps - cs.length) .junk, m := m } := by
    unfold ini; rw [he]
  have hR0 : Rel U ⟨F0, G, w, fun i => if i ∈ ioIx 0 A then vs[i]? else none⟩ L (ini fn.ntmps A x) { tmps := vs.toArray ++ Array.replicate (fn.ntmps - vs.toArray.size) undef, defers := [] } w := by
    rw [hini]
    refine { toMRel := hM', sz := by simp [hv.1], tm := fun i c v hc hu => ?_, df := rfl, fx := fun i v hi => ?_ }
    · by_cases hi : i < cs.length
      · rw [List.getElem?_append_left hi] at hc
        have hi' : i < vs.length := by rw [← hv.1]; exact hi
        have hu' : vs[i]? = some v := by
          rw [Array.getElem?_append_left (by simpa using hi')] at hu
          simpa using hu
        exact hv.2 i c v hc hu'
      · rw [List.getElem?_append_right (by omega), List.getElem?_replicate] at hc
        split at hc
        · cases hc; exact .junk _
        · cases hc
    · simp only at hi
      have hi : vs[i]? = some v := by
        split at hi
        · exact hi
        · cases hi
      have hi' : i < vs.length := idx_lt hi
      simp only
      rw [Array.getElem?_append_left (by simpa using hi')]
      simpa using hi
  have hN0 : (ini fn.ntmps A x).t.length = fn.ntmps := by
    rw [hini]; simp [hAl]; omega
  refine Vc_sound (N0 := ioIx 0 A) (J := J) PL hE hF0 (C := ⟨F0, G, w, fun i => if i ∈ ioIx 0 A then vs[i]? else none⟩) (kv := L.kv) (r := y) (N := fn.ntmps) (fun i hi => if_neg hi) body (fun _ => K0 fn.results.toList A R) _ k hk hok (fun k hkn ops ho => hdr k hkn ops ho _ _ _ _)
    (fun k' _ e s L' a w' hkv hN hR h => ?_) (fun k id q hq s hN h => hcut k id q hq s y h) k (Nat.le_refl _) _ L _ w rfl hN0 hR0 ((htop k x).trans hy)
  have fin_ : fin fn.results.toList A R s = some y → a.defers = [] ∧ ∃ v, (results fn a.tmps).run P w' = .ok v w' ∧ Ret U ⟨A, R, g k⟩ ⟨F0, G, w, fun _ => none⟩ L.kv κ0 x y vs (.returned v) w' := by
    intro h
    obtain ⟨us, h1, L2, cs2, m2, κ2, h2, h3, h4, h5, h6, h7⟩ := fin_ok PL hR h hvl (by omega) (fun i v hio hi => hR.fx i v (by simp only; rw [if_pos hio]; exact hi)) (xl := unty (lvsL A) x) (by rw [hkv]; exact hKF) κ0
    exact ⟨hR.df, _, h1, L2, cs2, m2, κ2, us, h2, rfl, h3, h4, { me := h5.me, fg := h5.fg, g0 := h5.g0, hl := h5.hl, rvo := h5.rvo, hs := h5.hs, os := h5.os, tp := h5.tp, ou := h5.ou }, h6.trans hkv, h7⟩
  cases e with
  | normal => exact fin_ h
  | ret => exact fin_ h
  | exit i => cases h
end Go.Proofs.YtpdnnndedejlhaaGreatV
/- What is read of an operation goes on where more is known. -/
namespace Go.Proofs.YtpdnnndedejlhaaGreatV
open Go
set_option linter.unusedVariables false
set_option linter.unusedSimpArgs false
variable {U : Uni} {P : Program} {R : Type}
section
variable {m m' : Mem U.D} {d : Nat} {r : R}
def More (m m' : Mem U.D) : Prop := ∀ κ b, mget m κ = some b → mget m' κ = some b
def Fresh (m' : Mem U.D) (d : Nat) : Prop := ∀ q, 64 * d ≤ q → q < 64 * d + 64 → mget m' q = none
theorem nw_mono {K : Option R} (hf : Fresh m' d) (h : nw m (64 * d) K = some r) : nw m' (64 * d) K = some r := by
  unfold nw at h ⊢
  rw [hf (64 * d) (Nat.le_refl _) (by omega)]
  split at h
  · exact h
  · cases h
theorem decC_mono (hm : More m m') {bor : Bool} {g : Cg} {c l : VV U.D} (h : decC bor m g c = some l) : decC bor m' g c = some l := by
  cases g with
  | tree k =>
    cases c <;> simp only [decC] at h ⊢ <;> try (exact h)
    case ref κ =>
      cases bor with
      | false => cases h
      | true =>
        simp only [cond_true] at h ⊢
        cases hk : mget m κ with
        | none => rw [hk] at h; cases h
        | some b => rw [hk] at h; rw [hm κ b hk]; exact h
  | own k =>
    cases c <;> simp only [decC] at h ⊢ <;> try (exact h)
    case ref κ =>
      cases hk : mget m κ with
      | none => rw [hk] at h; cases h
      | some b => rw [hk] at h; rw [hm κ b hk]; exact h
  | int k => cases c <;> exact h
  | bool => cases c <;> exact h
  | keep k => cases c <;> exact h
  | nul k => cases c <;> exact h
  | nest k =>
    cases c <;> simp only [decC] at h ⊢ <;> try (exact h)
    case ref κ =>
      cases hk : mget m κ with
      | none => rw [hk] at h; cases h
      | some b => rw [hk] at h; rw [hm κ b hk]; exact h
theorem decCL_mono (hm : More m m') {bor : Bool} : ∀ (gs : List Cg) (cs ls : List (VV U.D)), decCL bor m gs cs = some ls → decCL bor m' gs cs = some ls
  | [], [], ls, h => h
  | [], _ :: _, ls, h => h
  | _ :: _, [], ls, h => h
  | g :: gs, c :: cs, ls, h => by
    simp only [decCL] at h ⊢
    cases h1 : decC bor m g c with
    | none => rw [h1] at h; cases h
    | some a =>
      cases h2 : decCL bor m gs cs with
      | none => rw [h1, h2] at h; cases h
      | some b => rw [h1, h2] at h; rw [decC_mono hm h1, decCL_mono hm gs cs b h2]; exact h
theorem decP_mono (hm : More m m') {bor : Bool} : ∀ (ps : List (Nat × List Cg)) (cs ls : List (VV U.D)), decP bor m ps cs = some ls → decP bor m' ps cs = some ls ∧ borP m' ps cs = borP m ps cs
  | [], [], ls, h => ⟨h, rfl⟩
  | [], _ :: _, ls, h => by cases h
  | (t, gs) :: ps, [], ls, h => by cases h
  | (t, gs) :: ps, c :: cs, ls, h => by
    cases c with
    | ptr κ j =>
      cases j with
      | succ j => cases h
      | zero =>
        simp only [decP] at h ⊢
        cases hbg : (bor && leafG gs) with
        | false => rw [hbg] at h; cases h
        | true =>
          simp only [hbg, cond_true] at h ⊢
          cases hk : mget m κ with
          | none => rw [hk] at h; cases h
          | some b =>
            rw [hk] at h
            rw [hm κ b hk]
            cases b with
            | box t' cs0 =>
              simp only at h ⊢
              cases ht : Nat.beq t t' with
              | false => rw [ht] at h; cases h
              | true =>
                simp only [ht, cond_true] at h ⊢
                cases h1 : decCL true m gs cs0 with
                | none => rw [h1] at h; cases h
                | some x =>
                  cases h2 : decP bor m ps cs with
                  | none => rw [h1, h2] at h; cases h
                  | some z =>
                    obtain ⟨h3, h4⟩ := decP_mono hm ps cs z h2
                    rw [h1, h2] at h
                    rw [decCL_mono hm gs cs0 x h1, h3]
                    exact ⟨h, by simp only [borP, hk, hm κ _ hk, h4]⟩
            | _ => cases h
    | pbox t' cs0 j =>
      cases j with
      | succ j => cases h
      | zero =>
        simp only [decP] at h ⊢
        cases hbg : (leafG gs && Nat.beq t t') with
        | false => rw [hbg] at h; cases h
        | true =>
          simp only [hbg, cond_true] at h ⊢
          cases h1 : decCL false m gs cs0 with
          | none => rw [h1] at h; cases h
          | some x =>
            cases h2 : decP bor m ps cs with
            | none => rw [h1, h2] at h; cases h
            | some z =>
              obtain ⟨h3, h4⟩ := decP_mono hm ps cs z h2
              rw [h1, h2] at h
              rw [decCL_mono hm gs cs0 x h1, h3]
              exact ⟨h, by simp only [borP, h4]⟩
    | _ => cases h
theorem dec_mono (hm : More m m') {bor : Bool} {s : Sg} {c : VV U.D} {ls : List (VV U.D)} (h : dec bor m s c = some ls) : dec bor m' s c = some ls ∧ kys m' [s] [c] = kys m [s] [c] ∧ bors m' [s] [c] = bors m [s] [c] := by
  cases s with
  | c g =>
    have triv : kys m' [.c g] [c] = kys m [.c g] [c] ∧ bors m' [.c g] [c] = bors m [.c g] [c] := by simp [kys, bors]
    refine ⟨?_, triv⟩
    cases g with
    | keep k => cases c <;> exact h
    | _ =>
      simp only [dec] at h ⊢
      split at h
      · rename_i a ha
        rw [decC_mono hm ha]; exact h
      · cases h
  | arr n k =>
    refine ⟨?_, by simp [kys], by cases c <;> simp [bors]⟩
    simp only [dec] at h ⊢
    split at h
    · rename_i a ha
      rw [decC_mono hm ha]; exact h
    · cases h
  | abox t n k => cases c <;> simp only [dec] at h <;> cases h
  | agg gs =>
    cases c <;> simp only [dec] at h <;> try (cases h)
    case agg cs =>
      refine ⟨?_, by simp [kys], by simp [bors]⟩
      simp only [dec]
      cases hn : noKeep gs with
      | false => rw [hn] at h; cases h
      | true => rw [hn] at h; simp only [cond_true] at h ⊢; exact decCL_mono hm gs cs ls h
  | wag gs =>
    cases c <;> simp only [dec] at h <;> try (cases h)
    case agg cs =>
      refine ⟨?_, by simp [kys], by simp [bors]⟩
      simp only [dec]
      cases hn : noKeep gs with
      | false => rw [hn] at h; cases h
      | true => rw [hn] at h; simp only [cond_true] at h ⊢; exact decCL_mono hm gs cs ls h
  | box t gs =>
    cases c <;> simp only [dec] at h <;> try (cases h)
    case ptr κ j =>
      cases j with
      | succ j => simp only [dec] at h; cases h
      | zero =>
        simp only [dec] at h ⊢
        cases hk : mget m κ with
        | none => rw [hk] at h; cases h
        | some b =>
          rw [hk] at h
          rw [hm κ b hk]
          cases b with
          | box t' cs =>
            simp only at h ⊢
            cases ht : Nat.beq t t' with
            | false => rw [ht] at h; cases h
            | true =>
              simp only [ht, cond_true] at h ⊢
              exact ⟨decCL_mono hm gs cs ls h, by simp [kys, hk, hm κ _ hk], by simp [bors, hk, hm κ _ hk]⟩
          | _ => cases h
  | pbox t gs =>
    have h' : decP bor m [(t, gs)] [c] = some ls := by cases c <;> exact h
    obtain ⟨h1, h2⟩ := decP_mono hm _ _ _ h'
    refine ⟨by cases c <;> exact h1, by cases c <;> rfl, ?_⟩
    have e : ∀ m : Mem U.D, bors m [.pbox t gs] [c] = borP m [(t, gs)] [c] := fun m => by cases c <;> simp [bors]
    rw [e, e, h2]
  | fn f ps =>
    cases c <;> simp only [dec] at h <;> try (cases h)
    case fn f' cs =>
      simp only [dec]
      cases hn : Nat.beq f f' with
      | false => rw [hn] at h; cases h
      | true =>
        rw [hn] at h; simp only [cond_true] at h ⊢
        obtain ⟨h1, h2⟩ := decP_mono hm _ _ _ h
        exact ⟨h1, rfl, by simp only [bors, h2]⟩
theorem decL_mono (hm : More m m') {bor : Bool} : ∀ (ss : List Sg) (cs ls : List (VV U.D)), decL bor m ss cs = some ls → decL bor m' ss cs = some ls ∧ kys m' ss cs = kys m ss cs ∧ bors m' ss cs = bors m ss cs
  | [], [], ls, h => ⟨h, rfl, rfl⟩
  | [], _ :: _, ls, h => by cases h
  | _ :: _, [], ls, h => by cases h
  | s :: ss, c :: cs, ls, h => by
    simp only [decL] at h ⊢
    cases h1 : dec bor m s c with
    | none => rw [h1] at h; cases h
    | some a =>
      cases h2 : decL bor m ss cs with
      | none => rw [h1, h2] at h; cases h
      | some b =>
        rw [h1, h2] at h
        obtain ⟨a1, a2, a3⟩ := dec_mono hm h1
        obtain ⟨b1, b2, b3⟩ := decL_mono hm ss cs b h2
        rw [a1, b1]
        exact ⟨h, by rw [kys_cons, kys_cons (m := m), a2, b2], by rw [bors_cons, bors_cons (m := m), a3, b3]⟩
end
end Go.Proofs.YtpdnnndedejlhaaGreatV
/- Every operation goes on where more is known. -/
namespace Go.Proofs.YtpdnnndedejlhaaGreatV
open Go
set_option linter.unusedVariables false
set_option linter.unusedSimpArgs false
variable {U : Uni} {P : Program} {R : Type}
section
variable {m m' : Mem U.D} {d : Nat} {r : R}
theorem back_cell (hm : More m m') {lent : Bool} {m2 : Mem U.D} {g : Cg} {c : VV U.D} (h : ∀ κ, c = .ref κ → ∃ b, mget m κ = some b) {ss : List Sg} {cs : List (VV U.D)} (ih : ∀ ns, back lent m' m2 ss cs ns = back lent m m2 ss cs ns) (ns : List (VV U.D)) :
    back lent m' m2 (.c g :: ss) (c :: cs) ns = back lent m m2 (.c g :: ss) (c :: cs) ns := by
  cases ns with
  | nil => cases c <;> rfl
  | cons n0 ns =>
    cases c <;> try (cases n0 <;> rfl)
    case nil =>
      cases n0 <;> try rfl
      case ref κ' => simp only [back, ih]
    case ref κ =>
      obtain ⟨b, hb⟩ := h κ rfl
      cases n0 <;> try rfl
      case ref κ' => simp only [back, hb, hm κ _ hb, ih]
theorem decC_ref {bor : Bool} {k : Nat} {c l : VV U.D} (h : decC bor m (.nest k) c = some l) : ∀ κ, c = .ref κ → ∃ b, mget m κ = some b := by
  rintro κ rfl
  simp only [decC] at h
  cases hk : mget m κ with
  | none => rw [hk] at h; cases h
  | some b => exact ⟨b, rfl⟩
theorem back_nest (hm : More m m') {bor lent : Bool} {m2 : Mem U.D} {ss : List Sg} {cs : List (VV U.D)} (ih : ∀ ns, back lent m' m2 ss cs ns = back lent m m2 ss cs ns) : ∀ (gs : List Cg) (ds ls ns : List (VV U.D)), decCL bor m gs ds = some ls →
    back lent m' m2 ((nestG gs).map Sg.c ++ ss) (nestV .junk gs ds ++ cs) ns = back lent m m2 ((nestG gs).map Sg.c ++ ss) (nestV .junk gs ds ++ cs) ns
  | [], ds, ls, ns, _ => ih ns
  | g :: gs, [], ls, ns, h => by cases h
  | g :: gs, d0 :: ds, ls, ns, h => by
    simp only [decCL] at h
    cases h1 : decC bor m g d0 with
    | none => rw [h1] at h; cases h
    | some a =>
      cases h2 : decCL bor m gs ds with
      | none => rw [h1, h2] at h; cases h
      | some b =>
        have ih2 := fun ns => back_nest hm ih gs ds b ns h2
        cases g with
        | nest k => exact back_cell hm (decC_ref h1) ih2 ns
        | _ => exact ih2 ns
theorem back_mono (hm : More m m') {bor lent : Bool} {m2 : Mem U.D} : ∀ (A : List Sg) (args ls ns : List (VV U.D)), decL bor m A args = some ls → back lent m' m2 (ioS A) (ioV A args) ns = back lent m m2 (ioS A) (ioV A args) ns
  | [], args, ls, ns, h => by cases args <;> rfl
  | s :: ss, [], ls, ns, h => by cases h
  | s :: ss, c :: cs, ls, ns, h => by
    simp only [decL] at h
    cases h1 : dec bor m s c with
    | none => rw [h1] at h; cases h
    | some a =>
      cases h2 : decL bor m ss cs with
      | none => rw [h1, h2] at h; cases h
      | some b =>
        have ih := fun ns => back_mono hm (lent := lent) (m2 := m2) ss cs b ns h2
        cases s with
        | arr n k => exact ih ns
        | agg gs => exact ih ns
        | pbox t gs => exact ih ns
        | fn f ps => exact ih ns
        | abox t n k => cases c <;> simp only [dec] at h1 <;> cases h1
        | c g =>
          cases g with
          | own k =>
            refine back_cell hm (fun κ e => ?_) ih ns
            subst e
            simp only [dec, decC] at h1
            cases hk : mget m κ with
            | none => rw [hk] at h1; cases h1
            | some bb => exact ⟨bb, rfl⟩
          | nest k =>
            refine back_cell hm (fun κ e => ?_) ih ns
            simp only [dec] at h1
            cases hc : decC bor m (.nest k) c with
            | none => rw [hc] at h1; cases h1
            | some l => exact decC_ref hc κ e
          | _ => exact ih ns
        | wag gs =>
          cases c <;> try (simp only [dec] at h1; cases h1; done)
          case agg ds =>
            simp only [dec] at h1
            cases hn : noKeep gs with
            | false => rw [hn] at h1; cases h1
            | true => rw [hn] at h1; exact back_nest hm ih gs ds _ ns h1
        | box t gs =>
          cases c <;> try (simp only [ioS, ioV, back]; done)
          case ptr κ j =>
            cases j with
            | succ j => simp only [dec] at h1; cases h1
            | zero =>
              simp only [dec] at h1
              cases hk : mget m κ with
              | none => rw [hk] at h1; cases h1
              | some bb =>
                cases ns with
                | nil => rfl
                | cons n0 ns =>
                  cases n0 <;> try rfl
                  case ptr κ' j' => simp only [ioS, ioV, back, hk, hm κ _ hk, ih]
theorem bmv_mono (hm : More m m') {c x : VV U.D} (h : bmv m c = some x) : bmv m' c = some x := by
  cases c <;> try (exact h)
  case ref κ =>
    simp only [bmv, mvd] at h ⊢
    cases hk : mget m κ with
    | none => rw [hk] at h; cases h
    | some b => rw [hk] at h; rw [hm κ b hk]; exact h
theorem bmvL_mono (hm : More m m') : ∀ (vs ms : List (VV U.D)), bmvL m vs = some ms → bmvL m' vs = some ms
  | [], ms, h => h
  | c :: cs, ms, h => by
    simp only [bmvL] at h ⊢
    cases h1 : bmv m c with
    | none => rw [h1] at h; cases h
    | some a =>
      cases h2 : bmvL m cs with
      | none => rw [h1, h2] at h; cases h
      | some b => rw [h1, h2] at h; rw [bmv_mono hm h1, bmvL_mono hm cs b h2]; exact h
theorem mvdL_none : ∀ (vs ms : List (VV U.D)), bmvL m vs = some ms → mvdL m vs = none → mvdL m' vs = none
  | [], ms, _, h => by cases h
  | c :: cs, ms, h, hn => by
    simp only [bmvL] at h
    simp only [mvdL] at hn ⊢
    cases h1 : bmv m c with
    | none => rw [h1] at h; cases h
    | some a =>
      cases h2 : bmvL m cs with
      | none => rw [h1, h2] at h; cases h
      | some b =>
        cases h3 : mvd m c with
        | none =>
          have : ∃ k xs, c = .tree k xs := by
            cases c <;> first | exact ⟨_, _, rfl⟩ | (simp only [bmv] at h1; rw [h3] at h1; cases h1)
          obtain ⟨k, xs, rfl⟩ := this
          rfl
        | some y =>
          rw [h3] at hn
          cases h4 : mvdL m cs with
          | some z => rw [h4] at hn; cases hn
          | none =>
            rw [mvdL_none cs b h2 h4]
            cases mvd m' c <;> rfl
theorem absent_of (n κ : Nat) (h : ∀ q, κ ≤ q → q < κ + n → mget m' q = none) : absent m' κ n = true := by
  induction n generalizing κ with
  | zero => rfl
  | succ n ih =>
    simp only [absent, Bool.and_eq_true]
    refine ⟨by rw [h κ (Nat.le_refl _) (by omega)], ih (κ + 1) (fun q h1 h2 => h q (by omega) (by omega))⟩
theorem callC_mono (hm : More m m') (hf : Fresh m' d) {args : List (VV U.D)} {K : VV U.D → Upd U.D → Option R} : ∀ (cs : List (Con U)), callC m d args K cs = some r → callC m' d args K cs = some r
  | [], h => by cases h
  | c :: cs, h => by
    have ih := callC_mono hm hf (K := K) (args := args) cs
    simp only [callC] at h ⊢
    cases hsh : shpL c.A args with
    | false => rw [hsh] at h; exact ih h
    | true =>
      simp only [hsh, cond_true] at h ⊢
      cases hd : decL true m c.A args with
      | none => rw [hd] at h; cases h
      | some lv =>
        obtain ⟨e1, e2, e3⟩ := decL_mono hm c.A args lv hd
        rw [hd] at h
        rw [e1]
        simp only at h ⊢
        cases hx : tyd (lvsL c.A) lv with
        | none => rw [hx] at h; exact ih h
        | some x =>
          rw [hx] at h
          simp only at h ⊢
          have ef : fair m' c args = fair m c args := by simp only [fair, e2, e3]
          have ea : absent m' (64 * d) 64 = true := absent_of 64 (64 * d) hf
          rw [ef, ea, e2, e3]
          cases hfr : (fair m c args && absent m (64 * d) 64) with
          | false => rw [hfr] at h; cases h
          | true =>
            simp only [hfr, cond_true] at h
            simp only [Bool.and_eq_true] at hfr
            simp only [hfr.1, Bool.and_self, cond_true]
            cases hy : c.f x with
            | none => rw [hy] at h; cases h
            | some y =>
              rw [hy] at h
              simp only [Option.bind_some] at h ⊢
              generalize he : encL (c.R ++ ioS c.A) (64 * d) _ = q at h ⊢
              obtain ⟨vs, m2, κ', r'⟩ := q
              simp only at h ⊢
              rw [back_mono hm c.A args lv _ hd]
              exact h
theorem mvd_mono (hm : More m m') {c x : VV U.D} (h : mvd m c = some x) : mvd m' c = some x := by
  cases c <;> try (exact h)
  case ref κ =>
    simp only [mvd] at h ⊢
    cases hk : mget m κ with
    | none => rw [hk] at h; cases h
    | some b => rw [hk] at h; rw [hm κ b hk]; exact h
theorem mvdL_mono (hm : More m m') : ∀ (vs ms : List (VV U.D)), mvdL m vs = some ms → mvdL m' vs = some ms
  | [], ms, h => h
  | c :: cs, ms, h => by
    simp only [mvdL] at h ⊢
    cases h1 : mvd m c with
    | none => rw [h1] at h; cases h
    | some a =>
      cases h2 : mvdL m cs with
      | none => rw [h1, h2] at h; cases h
      | some b => rw [h1, h2] at h; rw [mvd_mono hm h1, mvdL_mono hm cs b h2]; exact h
theorem ite_mono {p : Prop} [Decidable p] {x x' : Option R} (h : (if p then x else none) = some r) (hx : x = some r → x' = some r) : (if p then x' else none) = some r := by
  split at h
  · rename_i hp; rw [if_pos hp]; exact hx h
  · cases h
theorem apK_mono {n k l : Nat} {x x' : Option R} (h : apK n k l x = some r) (hx : x = some r → x' = some r) : apK n k l x' = some r := ite_mono h hx
theorem mkS_mono {n n' : Int} {b : Nat} {x x' : Option R} (h : mkS n n' b x = some r) (hx : x = some r → x' = some r) : mkS n n' b x' = some r := by
  unfold mkS at h ⊢
  exact ite_mono h (fun h => ite_mono h (fun h => ite_mono h hx))
theorem Vop_mono (hm : More m m') (hf : Fresh m' d) {E : Nat → List (Con U)} {ρ : Operand → VV U.D} {K : VV U.D → Upd U.D → Option R} {o : Op} (h : Vop U E o d ρ m K = some r) : Vop U E o d ρ m' K = some r := by
  cases o <;> try (exact h)
  case makeFunc f fs cs => cases f <;> exact h
  case alloc e =>
    simp only [Vop] at h ⊢
    cases hT : U.ti e with
    | none => rw [hT] at h; cases h
    | some T =>
      rw [hT] at h
      simp only at h ⊢
      exact nw_mono hf h
  case box e x =>
    simp only [Vop] at h ⊢
    split at h
    · exact nw_mono hf h
    · cases h
  case load t x =>
    simp only [Vop] at h ⊢
    cases hT : U.ti t with
    | none => rw [hT] at h; cases h
    | some T =>
      rw [hT] at h
      simp only at h ⊢
      generalize ρ x = c at h ⊢
      cases c <;> try (exact h)
      case ptr κ j =>
        simp only at h ⊢
        cases hk : mget m κ with
        | none => rw [hk] at h; cases h
        | some b => rw [hk] at h; rw [hm κ b hk]; exact h
      case oel κ i j =>
        simp only at h ⊢
        cases hk : mget m κ with
        | none => rw [hk] at h; cases h
        | some b => rw [hk] at h; rw [hm κ b hk]; exact h
  case store t x y =>
    simp only [Vop] at h ⊢
    cases hT : U.ti t with
    | none => rw [hT] at h; cases h
    | some T =>
      cases hv : flO (ρ y) with
      | none => rw [hT, hv] at h; cases h
      | some vs =>
        rw [hT, hv] at h
        simp only at h ⊢
        cases hl : Nat.beq vs.length T.sz with
        | false => rw [hl] at h; cases h
        | true =>
          simp only [hl, cond_true] at h ⊢
          generalize ρ x = c at h ⊢
          cases c <;> try (exact h)
          case ptr κ j =>
            simp only at h ⊢
            cases hk : mget m κ with
            | none => rw [hk] at h; cases h
            | some b => rw [hk] at h; rw [hm κ b hk]; exact h
          case oel κ i j =>
            simp only at h ⊢
            cases hk : mget m κ with
            | none => rw [hk] at h; cases h
            | some b =>
              rw [hk] at h; rw [hm κ b hk]
              cases b <;> try (exact h)
              case krow k xs =>
                simp only at h ⊢
                cases hc : (Nat.ble (j + vs.length) (U.sz k) && scals vs && Nat.ble 1 vs.length) with
                | false => rw [hc] at h; cases h
                | true =>
                  simp only [hc, cond_true] at h ⊢
                  cases hms : mvdL m vs with
                  | none => rw [hms] at h; cases h
                  | some ms => rw [hms] at h; rw [mvdL_mono hm vs ms hms]; exact h
              case row k xs =>
                simp only at h ⊢
                cases hc : (Nat.ble (j + vs.length) (U.sz k) && ndp (keysOf vs) && !hasK κ (keysOf vs) && Nat.ble 1 vs.length) with
                | false => rw [hc] at h; cases h
                | true =>
                  simp only [hc, cond_true] at h ⊢
                  cases hms : mvdL m vs with
                  | none => rw [hms] at h; cases h
                  | some ms => rw [hms] at h; rw [mvdL_mono hm vs ms hms]; exact h
  case buildSlice t n ps =>
    simp only [Vop] at h ⊢
    cases hT : U.ti t with
    | none => rw [hT] at h; cases h
    | some T =>
      rw [hT] at h
      simp only at h ⊢
      cases hd : T.d <;> rw [hd] at h <;> try (exact h)
      case sl e =>
        simp only at h ⊢
        cases hc : (slK U t e && idxOk (ps.toList.map fun p => p.1) 0 n && Nat.ble (n * U.sz e + n) 16777216) with
        | false => rw [hc] at h; cases h
        | true =>
          simp only [hc, cond_true] at h ⊢
          cases hfl : flAll (U.sz e) (ps.toList.map fun p => ρ p.2) with
          | none => rw [hfl] at h; cases h
          | some cs =>
            rw [hfl] at h
            simp only at h ⊢
            cases hn : ndp (keysOf cs) with
            | false => rw [hn] at h; cases h
            | true =>
              simp only [hn, cond_true] at h ⊢
              cases hms : mvdL m cs with
              | none =>
                rw [hms] at h
                simp only at h
                cases hm2 : bmvL m cs with
                | none => rw [hm2] at h; cases h
                | some ms =>
                  rw [hm2] at h
                  rw [mvdL_none cs ms hm2 hms, bmvL_mono hm cs ms hm2]
                  simp only at h ⊢
                  cases hmk : mkAll U e (U.sz e) n ms with
                  | none => rw [hmk] at h; cases h
                  | some xs => rw [hmk] at h; simp only at h ⊢; exact nw_mono hf h
              | some ms =>
                rw [hms] at h; rw [mvdL_mono hm cs ms hms]
                simp only at h ⊢
                cases hmk : mkAll U e (U.sz e) n ms with
                | none => rw [hmk] at h; cases h
                | some xs => rw [hmk] at h; simp only at h ⊢; exact nw_mono hf h
  case makeSlice t l c =>
    simp only [Vop] at h ⊢
    cases hT : U.ti t with
    | none => rw [hT] at h; cases h
    | some T =>
      rw [hT] at h
      simp only at h ⊢
      cases hd : T.d <;> rw [hd] at h <;> try (exact h)
      case sl e =>
        simp only at h ⊢
        cases hs : slK U t e with
        | false => rw [hs] at h; cases h
        | true =>
          simp only [hs, cond_true] at h ⊢
          cases hTe : U.ti e with
          | none => rw [hTe] at h; cases h
          | some Te =>
            rw [hTe] at h
            simp only at h ⊢
            cases h1 : asN (ρ l) with
            | none => rw [h1] at h; cases h
            | some n =>
              cases h2 : asN (ρ c) with
              | none => rw [h1, h2] at h; cases h
              | some n' =>
                rw [h1, h2] at h
                simp only at h ⊢
                cases h3 : U.mkE e (zcs Te) with
                | none => rw [h3] at h; cases h
                | some z => rw [h3] at h; simp only at h ⊢; exact mkS_mono h (nw_mono hf)
  case slice t x lo hi mx =>
    simp only [Vop] at h ⊢
    generalize ρ x = c at h ⊢
    cases c <;> try (exact h)
    case ref κ =>
      simp only at h ⊢
      cases hk : mget m κ with
      | none => rw [hk] at h; cases h
      | some b =>
        rw [hk] at h; rw [hm κ b hk]
        cases b <;> try (exact h)
        case row k xs =>
          simp only at h ⊢
          cases hs : slK U t k with
          | false => rw [hs] at h; cases h
          | true =>
            simp only [hs, cond_true] at h ⊢
            cases lo <;> cases hi <;> cases mx <;> try (exact h)
            case some.none.none l =>
              simp only at h ⊢
              cases h1 : asN (ρ l) with
              | none => rw [h1] at h; cases h
              | some n => rw [h1] at h; simp only at h ⊢; exact ite_mono h (fun h => ite_mono h (nw_mono hf))
  case indexAddr t x i =>
    simp only [Vop] at h ⊢
    cases h1 : asN (ρ i) with
    | none => rw [h1] at h; cases h
    | some n =>
      rw [h1] at h
      simp only at h ⊢
      generalize ρ x = c at h ⊢
      cases c <;> try (exact h)
      case ref κ =>
        simp only at h ⊢
        cases hk : mget m κ with
        | none => rw [hk] at h; cases h
        | some b => rw [hk] at h; rw [hm κ b hk]; exact h
      case ptr κ j =>
        cases j with
        | succ j => exact h
        | zero =>
          simp only at h ⊢
          cases hk : mget m κ with
          | none => rw [hk] at h; cases h
          | some b => rw [hk] at h; rw [hm κ b hk]; exact h
  case call c =>
    simp only [Vop] at h ⊢
    cases hcal : c.callee with
    | invoke x n => rw [hcal] at h; cases h
    | value f =>
      rw [hcal] at h
      simp only at h ⊢
      generalize ρ f = cf at h ⊢
      cases cf <;> try (exact h)
      case fn g cs => exact callC_mono hm hf _ h
    | builtin b =>
      rw [hcal] at h
      simp only at h ⊢
      generalize c.args.toList.map ρ = l at h ⊢
      cases b <;> try (exact h)
      case len =>
        match l, h with
        | [], h => exact h
        | [c], h =>
          cases c <;> try (exact h)
          case ref κ =>
            simp only at h ⊢
            cases hk : mget m κ with
            | none => rw [hk] at h; cases h
            | some b => rw [hk] at h; rw [hm κ b hk]; exact h
        | c :: c2 :: l, h => cases c <;> exact h
      case append =>
        match l, h with
        | [], h => exact h
        | [c], h => cases c <;> exact h
        | [c, c2], h =>
          cases c <;> try (exact h)
          case nil =>
            cases c2 <;> try (exact h)
            case ref κ' =>
              simp only at h ⊢
              cases hk : mget m κ' with
              | none => rw [hk] at h; cases h
              | some b =>
                rw [hk] at h; rw [hm κ' b hk]
                cases b <;> try (exact h)
                case row k ys =>
                  simp only at h ⊢
                  cases hs : slA U c.argTypes.toList k with
                  | false => rw [hs] at h; cases h
                  | true => simp only [hs, cond_true] at h ⊢; exact apK_mono h (nw_mono hf)
          case ref κ =>
            cases c2 <;> try (exact h)
            case ref κ' =>
              simp only at h ⊢
              cases hk : mget m κ with
              | none => rw [hk] at h; cases h
              | some b =>
                cases hk' : mget m κ' with
                | none => rw [hk, hk'] at h; cases b <;> cases h
                | some b' =>
                  rw [hk, hk'] at h; rw [hm κ b hk, hm κ' b' hk']
                  cases b <;> try (exact h)
                  case row k xs =>
                    cases b' <;> try (exact h)
                    case row k' ys =>
                      simp only at h ⊢
                      split at h
                      · exact apK_mono h (nw_mono hf)
                      · cases h
            case tree k' ys =>
              simp only at h ⊢
              cases hk : mget m κ with
              | none => rw [hk] at h; cases h
              | some b =>
                rw [hk] at h; rw [hm κ b hk]
                cases b <;> try (exact h)
                case row k xs =>
                  simp only at h ⊢
                  split at h
                  · exact apK_mono h (nw_mono hf)
                  · cases h
        | c :: c2 :: c3 :: l, h => cases c <;> first | exact h | (cases c2 <;> exact h)
      case min =>
        match l, h with
        | [], h => exact h
        | [c], h => cases c <;> exact h
        | [c, c2], h => cases c <;> first | exact h | (cases c2 <;> exact h)
        | c :: c2 :: c3 :: l, h => cases c <;> first | exact h | (cases c2 <;> exact h)
      case max =>
        match l, h with
        | [], h => exact h
        | [c], h => cases c <;> exact h
        | [c, c2], h => cases c <;> first | exact h | (cases c2 <;> exact h)
        | c :: c2 :: c3 :: l, h => cases c <;> first | exact h | (cases c2 <;> exact h)
end
end Go.Proofs.YtpdnnndedejlhaaGreatV
/- Regions whose order is drawn: what holds of a set of operations that are done. -/
namespace Go.Proofs.YtpdnnndedejlhaaGreatV
open Go
set_option linter.unusedVariables false
set_option linter.unusedSimpArgs false
variable {U : Uni} {P : Program} {R : Type}
section
variable {C : Fr} {L : Lc} {s s' : St U.D} {a : Act} {w : World} {m : Mem U.D}
theorem Rel.less (hR : Rel U C L s a w) (ht : s'.t.length = s.t.length) (h1 : ∀ (i : Nat) (c : VV U.D), s'.t[i]? = some c → c = .junk ∨ s.t[i]? = some c) (h2 : ∀ κ b, mget s'.m κ = some b → mget s.m κ = some b) : Rel U C L s' a w where
  me κ b hb := hR.me κ b (h2 κ b hb)
  fg := hR.fg
  g0 := hR.g0
  hl := hR.hl
  rvo := hR.rvo
  hs := hR.hs
  os := hR.os
  tp := hR.tp
  ou := hR.ou
  sz := hR.sz.trans ht.symm
  tm i c v hc hv := by
    rcases h1 i c hc with rfl | h
    · exact .junk _
    · exact hR.tm i c v h hv
  df := hR.df
  fx := hR.fx
theorem mget_restr (ks : List Nat) (κ : Nat) : mget (restr ks m) κ = if κ ∈ ks then mget m κ else none := by
  induction m with
  | nil => simp [restr, mget]
  | cons x xs ih =>
    obtain ⟨p, b⟩ := x
    simp only [restr]
    cases hk : hasK p ks with
    | true =>
      have hp := hasK_iff.1 hk
      simp only [cond_true, mget]
      cases hb : Nat.beq p κ with
      | true =>
        have := Nat.eq_of_beq_eq_true hb; subst this
        simp [hp]
      | false => simpa using ih
    | false =>
      simp only [cond_false, mget]
      cases hb : Nat.beq p κ with
      | true =>
        have := Nat.eq_of_beq_eq_true hb; subst this
        have hp : p ∉ ks := fun h => by rw [hasK_iff.2 h] at hk; cases hk
        rw [ih]; simp [hp]
      | false => simpa using ih
theorem restr_more (ks : List Nat) {m' : Mem U.D} (h : ∀ κ ∈ ks, mget m' κ = mget m κ) : More (restr ks m) m' := by
  intro κ b hb
  rw [mget_restr] at hb
  by_cases hk : κ ∈ ks
  · rw [if_pos hk] at hb; rw [h κ hk]; exact hb
  · rw [if_neg hk] at hb; cases hb
theorem mget_upd_other (u : Upd U.D) (m : Mem U.D) (κ : Nat) (h : κ ∉ keysU u) : mget (mupd m u) κ = mget m κ := by
  induction u generalizing m with
  | nil => rfl
  | cons x xs ih =>
    obtain ⟨q, b⟩ := x
    simp only [keysU, List.mem_cons, not_or] at h
    cases b with
    | none => simp only [mupd]; rw [ih _ h.2, mget_mdel, if_neg h.1]
    | some b => simp only [mupd]; rw [ih _ h.2, mget_mput, if_neg h.1]
theorem mget_upd_same (u : Upd U.D) (m m' : Mem U.D) (κ : Nat) (h : κ ∈ keysU u ∨ mget m' κ = mget m κ) : mget (mupd m' u) κ = mget (mupd m u) κ := by
  induction u generalizing m m' with
  | nil =>
    rcases h with h | h
    · simp [keysU] at h
    · exact h
  | cons x xs ih =>
    obtain ⟨q, b⟩ := x
    have step : ∀ (n n' : Mem U.D), (κ = q → mget n' κ = mget n κ) → (κ ≠ q → mget n' κ = mget m' κ ∧ mget n κ = mget m κ) → mget (mupd n' xs) κ = mget (mupd n xs) κ := by
      intro n n' h1 h2
      refine ih n n' ?_
      by_cases e : κ = q
      · exact .inr (h1 e)
      · obtain ⟨e1, e2⟩ := h2 e
        rcases h with h | h
        · simp only [keysU, List.mem_cons] at h
          exact .inl (h.resolve_left e)
        · exact .inr (by rw [e1, e2, h])
    cases b with
    | none => simp only [mupd]; exact step _ _ (fun e => by simp [mget_mdel, e]) (fun e => by simp [mget_mdel, e])
    | some b => simp only [mupd]; exact step _ _ (fun e => by simp [mget_mput, e]) (fun e => by simp [mget_mput, e])
end
end Go.Proofs.YtpdnnndedejlhaaGreatV
/- An operation asks its operands alone. -/
namespace Go.Proofs.YtpdnnndedejlhaaGreatV
open Go
set_option linter.unusedVariables false
set_option linter.unusedSimpArgs false
variable {U : Uni} {P : Program} {R : Type}
theorem Vop_rho {m : Mem U.D} {d : Nat} {E : Nat → List (Con U)} {ρ ρ' : Operand → VV U.D} {K : VV U.D → Upd U.D → Option R} {o : Op} (h : ∀ x ∈ o.operands.toList, ρ x = ρ' x) : Vop U E o d ρ m K = Vop U E o d ρ' m K := by
  cases o
  case build t ps =>
    have e : (ps.toList.map fun p => (p.1, ρ p.2)) = ps.toList.map fun p => (p.1, ρ' p.2) := List.map_congr_left (fun p hp => by rw [h p.2 (by simp [Op.operands]; exact ⟨p.1, by simpa using hp⟩)])
    simp only [Vop, e]
  case buildSlice t n ps =>
    have e : (ps.toList.map fun p => ρ p.2) = ps.toList.map fun p => ρ' p.2 := List.map_congr_left (fun p hp => by rw [h p.2 (by simp [Op.operands]; exact ⟨p.1, by simpa using hp⟩)])
    simp only [Vop, e]
  case makeFunc f fs cs =>
    cases f <;> try rfl
    case func f =>
      have e : cs.toList.map ρ = cs.toList.map ρ' := List.map_congr_left (fun p hp => h p (by simp [Op.operands]; exact .inr (by simpa using hp)))
      simp only [Vop, e]
  case call c =>
    have e : c.args.toList.map ρ = c.args.toList.map ρ' := List.map_congr_left (fun p hp => h p (by simp [Op.operands, Call.operands]; cases c.callee <;> simp <;> first | exact Array.mem_toList_iff.1 hp | exact .inr (Array.mem_toList_iff.1 hp)))
    cases hc : c.callee with
    | value f =>
      have ef : ρ f = ρ' f := h f (by simp [Op.operands, Call.operands, hc])
      simp only [Vop, hc, e, ef]
    | builtin b => simp only [Vop, hc, e]
    | invoke x n => simp only [Vop, hc]
  case slice t x lo hi mx =>
    have ex : ρ x = ρ' x := h x (by simp [Op.operands])
    cases lo with
    | none => simp only [Vop, ex]
    | some l =>
      have el : ρ l = ρ' l := h l (by simp [Op.operands])
      cases hi <;> cases mx <;> simp only [Vop, ex, el]
  all_goals first
    | rfl
    | (simp only [Op.operands, List.mem_cons, List.not_mem_nil, or_false, forall_eq_or_imp, forall_eq] at h
       simp only [Vop, h])
end Go.Proofs.YtpdnnndedejlhaaGreatV
/- Operations laid one upon the other. -/
namespace Go.Proofs.YtpdnnndedejlhaaGreatV
open Go
set_option linter.unusedVariables false
set_option linter.unusedSimpArgs false
variable {U : Uni} {P : Program} {R : Type}
structure Rc (D : Nat → Type) where
  i : Nat
  dst : Option Nat
  v : VV D
  u : Upd D
def Rc.app (x : Rc U.D) (s : St U.D) : St U.D := ({ s with m := mupd s.m x.u } : St U.D).put x.dst x.v
def lay : List (Rc U.D) → St U.D → St U.D
  | [], s => s
  | x :: xs, s => lay xs (x.app s)
theorem app_len (x : Rc U.D) (s : St U.D) : (x.app s).t.length = s.t.length := by simp [Rc.app, put_len]
theorem app_m (x : Rc U.D) (s : St U.D) : (x.app s).m = mupd s.m x.u := by cases x with | mk i d v u => cases d <;> rfl
theorem app_t (x : Rc U.D) (s : St U.D) (i : Nat) : (x.app s).t[i]? = if x.dst = some i ∧ i < s.t.length then some x.v else s.t[i]? := by
  unfold Rc.app
  rw [put_get]
theorem lay_len (l : List (Rc U.D)) (s : St U.D) : (lay l s).t.length = s.t.length := by
  induction l generalizing s with
  | nil => rfl
  | cons x xs ih => rw [lay, ih, app_len]
theorem lay_app (l k : List (Rc U.D)) (s : St U.D) : lay (l ++ k) s = lay k (lay l s) := by
  induction l generalizing s with
  | nil => rfl
  | cons x xs ih => exact ih _
theorem lay_last_m (x : Rc U.D) (κ : Nat) : ∀ (l : List (Rc U.D)) (s s' : St U.D), (∀ y ∈ l, κ ∈ keysU x.u → κ ∉ keysU y.u) → mget s'.m κ = mget s.m κ → mget (lay l (x.app s')).m κ = mget (x.app (lay l s)).m κ
  | [], s, s', _, h => by simp only [lay]; rw [app_m, app_m]; exact mget_upd_same _ _ _ _ (.inr h)
  | y :: ys, s, s', hy, h => by
    have ih := lay_last_m x κ ys (y.app s) (y.app s') (fun z hz => hy z (List.mem_cons_of_mem _ hz)) (by rw [app_m, app_m]; exact mget_upd_same _ _ _ _ (.inr h))
    simp only [lay]
    rw [← ih]
    have key : mget (y.app (x.app s')).m κ = mget (x.app (y.app s')).m κ := by
      simp only [app_m]
      by_cases hk : κ ∈ keysU x.u
      · have hn := hy y List.mem_cons_self hk
        rw [mget_upd_other _ _ _ hn]
        exact mget_upd_same _ _ _ _ (.inl hk)
      · rw [mget_upd_other x.u _ _ hk]
        exact mget_upd_same _ _ _ _ (.inr (mget_upd_other x.u _ _ hk))
    have go : ∀ (l : List (Rc U.D)) (a b : St U.D), mget a.m κ = mget b.m κ → mget (lay l a).m κ = mget (lay l b).m κ := by
      intro l
      induction l with
      | nil => intro a b h; exact h
      | cons z zs ihz => intro a b h; exact ihz _ _ (by rw [app_m, app_m]; exact mget_upd_same _ _ _ _ (.inr h))
    exact go ys _ _ key
end Go.Proofs.YtpdnnndedejlhaaGreatV
/- What a laid state speaks of. -/
namespace Go.Proofs.YtpdnnndedejlhaaGreatV
open Go
set_option linter.unusedVariables false
set_option linter.unusedSimpArgs false
variable {U : Uni} {P : Program} {R : Type}
theorem lay_last_t (x : Rc U.D) (i : Nat) : ∀ (l : List (Rc U.D)) (s : St U.D), (∀ y ∈ l, x.dst = some i → y.dst ≠ some i) → (lay l (x.app s)).t[i]? = (x.app (lay l s)).t[i]?
  | [], s, _ => rfl
  | y :: ys, s, hy => by
    have ih := lay_last_t x i ys (y.app s) (fun z hz => hy z (List.mem_cons_of_mem _ hz))
    simp only [lay]
    rw [← ih]
    have go : ∀ (l : List (Rc U.D)) (a b : St U.D), a.t.length = b.t.length → a.t[i]? = b.t[i]? → (lay l a).t[i]? = (lay l b).t[i]? := by
      intro l
      induction l with
      | nil => intro a b _ h; exact h
      | cons z zs ihz => intro a b hl h; exact ihz _ _ (by rw [app_len, app_len, hl]) (by rw [app_t, app_t, hl, h])
    refine go ys _ _ (by simp [app_len]) ?_
    rw [app_t, app_t, app_t, app_t, app_len, app_len]
    by_cases h1 : y.dst = some i ∧ i < s.t.length
    · rw [if_pos h1]
      by_cases h2 : x.dst = some i ∧ i < s.t.length
      · exact absurd h1.1 (hy y List.mem_cons_self h2.1)
      · rw [if_neg h2, if_pos h1]
    · rw [if_neg h1]
      by_cases h2 : x.dst = some i ∧ i < s.t.length
      · rw [if_pos h2, if_pos h2]
      · rw [if_neg h2, if_neg h2, if_neg h1]
theorem menL_inv {cs : List (VV U.D)} {κ : Nat} (h : κ ∈ menL cs) : ∃ (i : Nat) (c : VV U.D), cs[i]? = some c ∧ κ ∈ men c := by
  induction cs with
  | nil => simp [menL] at h
  | cons x xs ih =>
    rw [menL] at h
    rcases List.mem_append.1 h with h | h
    · exact ⟨0, x, rfl, h⟩
    · obtain ⟨i, c, h1, h2⟩ := ih h
      exact ⟨i + 1, c, by simpa using h1, h2⟩
theorem menM_mput {m : Mem U.D} {q : Nat} {b : Blk U.D} {κ : Nat} (h : κ ∈ menM (mput m q b)) : κ ∈ menM m ∨ κ ∈ menB b := by
  induction m with
  | nil => simp only [mput, menM, List.append_nil] at h; exact .inr h
  | cons x xs ih =>
    obtain ⟨p, c⟩ := x
    simp only [mput] at h
    cases hb : Nat.beq p q with
    | true =>
      rw [hb] at h
      simp only [cond_true, menM] at h
      rcases List.mem_append.1 h with h | h
      · exact .inr h
      · exact .inl (by rw [menM]; exact List.mem_append_right _ h)
    | false =>
      rw [hb] at h
      simp only [cond_false, menM] at h
      rcases List.mem_append.1 h with h | h
      · exact .inl (by rw [menM]; exact List.mem_append_left _ h)
      · rcases ih h with h | h
        · exact .inl (by rw [menM]; exact List.mem_append_right _ h)
        · exact .inr h
theorem menM_mdel {m : Mem U.D} {q κ : Nat} (h : κ ∈ menM (mdel m q)) : κ ∈ menM m := by
  induction m with
  | nil => exact h
  | cons x xs ih =>
    obtain ⟨p, c⟩ := x
    simp only [mdel] at h
    rw [menM]
    cases hb : Nat.beq p q with
    | true => rw [hb] at h; exact List.mem_append_right _ (ih h)
    | false =>
      rw [hb] at h
      simp only [cond_false, menM] at h
      rcases List.mem_append.1 h with h | h
      · exact List.mem_append_left _ h
      · exact List.mem_append_right _ (ih h)
theorem menM_upd (u : Upd U.D) (m : Mem U.D) {κ : Nat} (h : κ ∈ menM (mupd m u)) : κ ∈ menM m ∨ κ ∈ menU u := by
  induction u generalizing m with
  | nil => exact .inl h
  | cons x xs ih =>
    obtain ⟨q, b⟩ := x
    cases b with
    | none =>
      rcases ih _ h with h | h
      · exact .inl (menM_mdel h)
      · exact .inr h
    | some b =>
      rcases ih _ h with h | h
      · rcases menM_mput h with h | h
        · exact .inl h
        · exact .inr (by rw [menU]; exact List.mem_append_left _ h)
      · exact .inr (by rw [menU]; exact List.mem_append_right _ h)
theorem lay_men : ∀ (l : List (Rc U.D)) (s : St U.D) {κ : Nat}, (κ ∈ menL (lay l s).t ∨ κ ∈ menM (lay l s).m) → (κ ∈ menL s.t ∨ κ ∈ menM s.m) ∨ ∃ x ∈ l, κ ∈ men x.v ++ menU x.u
  | [], s, κ, h => .inl h
  | x :: xs, s, κ, h => by
    rcases lay_men xs (x.app s) h with h | ⟨y, hy, h⟩
    · rcases h with h | h
      · obtain ⟨i, c, h1, h2⟩ := menL_inv h
        rw [app_t] at h1
        split at h1
        · cases h1; exact .inr ⟨x, List.mem_cons_self, List.mem_append_left _ h2⟩
        · exact .inl (.inl (menL_mem h1 h2))
      · rw [app_m] at h
        rcases menM_upd _ _ h with h | h
        · exact .inl (.inr h)
        · exact .inr ⟨x, List.mem_cons_self, List.mem_append_right _ h⟩
    · exact .inr ⟨y, List.mem_cons_of_mem _ hy, h⟩
end Go.Proofs.YtpdnnndedejlhaaGreatV
/- An operation that is read goes one way, whatever comes behind. -/
namespace Go.Proofs.YtpdnnndedejlhaaGreatV
open Go
set_option linter.unusedVariables false
set_option linter.unusedSimpArgs false
variable {U : Uni} {P : Program} {R : Type}
section
variable {m : Mem U.D} {d : Nat} {r : R}
theorem ite_way {p : Prop} [Decidable p] {x : Option R} (h : (if p then x else none) = some r) : p ∧ x = some r := by
  split at h
  · exact ⟨‹_›, h⟩
  · cases h
theorem vcond_way {c : VV U.D} {x y : Option R} (h : vcond c x y = some r) : (x = some r ∧ ∀ (R' : Type) (x' y' : Option R'), vcond c x' y' = x') ∨ (y = some r ∧ ∀ (R' : Type) (x' y' : Option R'), vcond c x' y' = y') := by
  cases c <;> simp only [vcond] at h ⊢ <;> try (cases h)
  case lit b => cases b <;> simp only [cond_true, cond_false] at h ⊢ <;> first | exact .inl ⟨h, fun _ _ _ => trivial⟩ | exact .inr ⟨h, fun _ _ _ => trivial⟩ | exact .inl ⟨h, fun _ _ _ => rfl⟩ | exact .inr ⟨h, fun _ _ _ => rfl⟩
  case bv b =>
    cases b with
    | true => exact .inl ⟨by simpa using h, fun _ _ _ => if_pos rfl⟩
    | false => exact .inr ⟨by simpa using h, fun _ _ _ => if_neg (by simp)⟩
  case nb b =>
    cases b with
    | true => exact .inr ⟨by simpa using h, fun _ _ _ => if_pos rfl⟩
    | false => exact .inl ⟨by simpa using h, fun _ _ _ => if_neg (by simp)⟩
  case bp p dp =>
    split at h <;> rename_i hp
    · exact .inl ⟨h, fun _ _ _ => if_pos hp⟩
    · exact .inr ⟨h, fun _ _ _ => if_neg hp⟩
  case np p dp =>
    split at h <;> rename_i hp
    · exact .inr ⟨h, fun _ _ _ => if_pos hp⟩
    · exact .inl ⟨h, fun _ _ _ => if_neg hp⟩
theorem nw_way {κ : Nat} {x : Option R} (h : nw m κ x = some r) : x = some r ∧ ∀ (R' : Type) (x' : Option R'), nw m κ x' = x' := by
  unfold nw at h ⊢
  split at h
  · exact ⟨h, fun _ _ => rfl⟩
  · cases h
theorem apK_way {n k l : Nat} {x : Option R} (h : apK n k l x = some r) : x = some r ∧ ∀ (R' : Type) (x' : Option R'), apK n k l x' = x' := by
  obtain ⟨hp, hx⟩ := ite_way h
  exact ⟨hx, fun R' x' => if_pos hp⟩
theorem mkS_way {n n' : Int} {b : Nat} {x : Option R} (h : mkS n n' b x = some r) : x = some r ∧ ∀ (R' : Type) (x' : Option R'), mkS n n' b x' = x' := by
  unfold mkS at h ⊢
  obtain ⟨a, h⟩ := ite_way h
  obtain ⟨b, h⟩ := ite_way h
  obtain ⟨c, h⟩ := ite_way h
  exact ⟨h, fun _ _ => by rw [if_pos a, if_pos b, if_pos c]⟩
theorem inb_way {i n : Int} {x : Option R} (h : inb i n x = some r) : x = some r ∧ ∀ (R' : Type) (x' : Option R'), inb i n x' = x' := by
  unfold inb at h ⊢
  obtain ⟨a, h⟩ := ite_way h
  obtain ⟨b, h⟩ := ite_way h
  exact ⟨h, fun _ _ => by rw [if_pos a, if_pos b]⟩
theorem spl_way {n : Int} {K : Nat → Option R} : ∀ (f j : Nat), spl n f j K = some r → ∃ i, K i = some r ∧ ∀ (R' : Type) (K' : Nat → Option R'), spl n f j K' = K' i
  | 0, j, h => by cases h
  | f + 1, j, h => by
    unfold spl at h
    split at h
    · rename_i hp
      exact ⟨j, h, fun R' K' => by unfold spl; rw [if_pos hp]⟩
    · rename_i hp
      obtain ⟨i, h1, h2⟩ := spl_way f (j + 1) h
      exact ⟨i, h1, fun R' K' => by unfold spl; rw [if_neg hp]; exact h2 R' K'⟩
theorem arI_way {t : Nat} {n : Int} {K : Nat → TY → Option R} (h : arI U t n K = some r) : ∃ i T, K i T = some r ∧ ∀ (R' : Type) (K' : Nat → TY → Option R'), arI U t n K' = K' i T := by
  unfold arI at h ⊢
  cases hT : U.ti t with
  | none => rw [hT] at h; cases h
  | some T =>
    rw [hT] at h
    simp only at h ⊢
    cases hTd : T.d <;> rw [hTd] at h <;> try (cases h; done)
    case ar l e =>
      simp only at h ⊢
      cases hTe : U.ti e with
      | none => rw [hTe] at h; cases h
      | some Te =>
        rw [hTe] at h
        obtain ⟨i, h1, h2⟩ := spl_way _ _ h
        exact ⟨i, Te, h1, fun R' K' => h2 R' _⟩
theorem arB_way {T : TY} {ps : List (Nat × VV U.D)} {K : VV U.D → Option R} (h : arB U T ps K = some r) : ∃ v, K v = some r ∧ ∀ (R' : Type) (K' : VV U.D → Option R'), arB U T ps K' = K' v := by
  unfold arB at h ⊢
  cases hTd : T.d <;> rw [hTd] at h <;> try (cases h; done)
  case ar l e =>
    simp only at h ⊢
    cases hTe : U.ti e with
    | none => rw [hTe] at h; cases h
    | some Te =>
      rw [hTe] at h
      simp only at h ⊢
      cases hf : fillS (arF e Te.sz l 0) (zcs T) ps with
      | none => rw [hf] at h; cases h
      | some cs => rw [hf] at h; exact ⟨_, h, fun _ _ => rfl⟩
theorem eqA_way {t : Nat} {op : BinOp} {cx cy : VV U.D} {K : VV U.D → Option R} (h : eqA U t op cx cy K = some r) : ∃ v, K v = some r ∧ ∀ (R' : Type) (K' : VV U.D → Option R'), eqA U t op cx cy K' = K' v := by
  unfold eqA at h ⊢
  cases hT : U.ti t with
  | none => rw [hT] at h; cases h
  | some T =>
    rw [hT] at h
    simp only at h ⊢
    cases he : T.eq with
    | false => rw [he] at h; cases h
    | true =>
      rw [he] at h
      simp only [cond_true] at h ⊢
      cases cx <;> try (cases h; done)
      case agg as =>
        cases cy <;> try (cases h; done)
        case agg bs =>
          simp only at h ⊢
          cases hl : (Nat.beq as.length T.sz && Nat.beq bs.length T.sz) with
          | false => rw [hl] at h; cases h
          | true =>
            rw [hl] at h
            simp only [cond_true] at h ⊢
            cases hq : eqs as bs with
            | none => rw [hq] at h; cases h
            | some c =>
              rw [hq] at h
              cases c <;> try (cases h; done)
              case bp p dp =>
                simp only at h ⊢
                cases op <;> simp only at h ⊢ <;> first | (cases h; done) | exact ⟨_, h, fun _ _ => rfl⟩
end
end Go.Proofs.YtpdnnndedejlhaaGreatV
/- Every operation goes one way. -/
namespace Go.Proofs.YtpdnnndedejlhaaGreatV
open Go
set_option linter.unusedVariables false
set_option linter.unusedSimpArgs false
variable {U : Uni} {P : Program} {R : Type}
section
variable {m : Mem U.D} {d : Nat} {r : R}
theorem ariI_par {op : BinOp} {k : IntKind} {a b : Int} {K : VV U.D → Option R} (h : ariI op k a b K = some r) : ∃ v, ∀ (R' : Type) (K' : VV U.D → Option R'), ariI op k a b K' = K' v := by
  cases op <;> simp only [ariI] at h ⊢
  case quo => split at h <;> rename_i hb <;> first | (cases h; done) | exact ⟨_, fun _ _ => if_neg hb⟩
  case rem => split at h <;> rename_i hb <;> first | (cases h; done) | exact ⟨_, fun _ _ => if_neg hb⟩
  all_goals first
    | exact ⟨_, fun _ _ => rfl⟩
    | (split at h
       · exact ⟨_, fun _ _ => rfl⟩
       · cases h)
theorem eqB_par {op : BinOp} {a b : Bool} {K : VV U.D → Option R} (h : eqB op a b K = some r) : ∃ v, ∀ (R' : Type) (K' : VV U.D → Option R'), eqB op a b K' = K' v := by
  cases op <;> simp only [eqB] at h ⊢ <;> first | (cases h; done) | exact ⟨_, fun _ _ => rfl⟩
theorem Vop_par {E : Nat → List (Con U)} {ρ : Operand → VV U.D} {K : VV U.D → Upd U.D → Option R} {o : Op} (h : Vop U E o d ρ m K = some r) : ∃ v u, ∀ (R' : Type) (K' : VV U.D → Upd U.D → Option R'), Vop U E o d ρ m K' = K' v u := by
  cases o <;> try (cases h; done)
  all_goals
    simp only [Vop, Bool.cond_eq_ite] at h ⊢
    (repeat' split at h) <;> (try (cases h; done)) <;> (try simp only [*, if_true, and_self]) <;> first
      | exact ⟨_, _, fun _ _ => rfl⟩
      | (obtain ⟨i, T, h, e⟩ := arI_way h; exact ⟨_, _, fun R' K' => e R' _⟩)
      | (obtain ⟨i, T, h, e⟩ := arI_way h; obtain ⟨h1, -⟩ := ite_way h; exact ⟨_, _, fun R' K' => (e R' _).trans (if_pos h1)⟩)
      | (obtain ⟨v, -, e⟩ := arB_way h; exact ⟨v, [], fun _ _ => e _ _⟩)
      | (obtain ⟨v, -, e⟩ := eqA_way h; exact ⟨v, [], fun _ _ => e _ _⟩)
      | (obtain ⟨-, e⟩ := nw_way h; exact ⟨_, _, fun _ _ => e _ _⟩)
      | (obtain ⟨-, e⟩ := inb_way h; exact ⟨_, _, fun _ _ => e _ _⟩)
      | (obtain ⟨h, e⟩ := mkS_way h; obtain ⟨-, e'⟩ := nw_way h; exact ⟨_, _, fun _ _ => by rw [e, e']⟩)
      | (rcases vcond_way h with ⟨-, e⟩ | ⟨-, e⟩ <;> exact ⟨_, _, fun _ _ => e _ _ _⟩)
      | (obtain ⟨v, e⟩ := ariI_par h; exact ⟨v, [], fun _ _ => e _ _⟩)
      | (obtain ⟨v, e⟩ := eqB_par h; exact ⟨v, [], fun _ _ => e _ _⟩)
      | exact callC_way _ h
      | (obtain ⟨h, e⟩ := apK_way h; obtain ⟨-, e'⟩ := nw_way h; exact ⟨_, _, fun _ _ => by rw [e, e']⟩)
end
end Go.Proofs.YtpdnnndedejlhaaGreatV
