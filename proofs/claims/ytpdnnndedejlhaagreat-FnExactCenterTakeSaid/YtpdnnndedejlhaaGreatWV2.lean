import Derived.Test.YtpdnnndedejlhaaGreatWV1
import Derived.Laws.MakeOwn
import Derived.Deep.Upon
/- A reader of function bodies in plain values, part 2. -/
/- Structs that are built, lengths, the less and the greater. -/
namespace Go.Proofs.YtpdnnndedejlhaaGreatV
open Go
set_option linter.unusedVariables false
set_option linter.unusedSimpArgs false
variable {U : Uni} {P : Program} {R : Type}
section
variable {C : Fr} {L : Lc} {s : St U.D} {a : Act} {w : World} {E : Nat → List (Con U)} {d : Nat} {K : VV U.D → Upd U.D → Option R} {r : R} {o : Oper}
def FR (U : Uni) (F : Nat → Prop) (w0 : World) (L : Lc) (cs : List (VV U.D)) (vs : Array Value) : Prop :=
  cs.length = vs.size ∧ ∀ (i : Nat) (c : VV U.D) (v : Value), cs[i]? = some c → vs[i]? = some v → RV U F w0 L c v ∧ v.oneCell' = true
variable {F : Nat → Prop} {w0 : World}
theorem RV.one {c : VV U.D} {v : Value} (hL : ∀ κ, (L.rv κ).oneCell' = true) (h : RV U F w0 L c v) {cs : List (VV U.D)} (hc : flO c = some cs) : FR U F w0 L cs v.cells := by
  have sing : ∀ {c : VV U.D} {v : Value}, RV U F w0 L c v → v.oneCell' = true → FR U F w0 L [c] v.cells := by
    intro c v h h1
    have hv : v.cells = #[v] := by cases v <;> simp [Value.oneCell'] at h1 <;> rfl
    rw [hv]
    refine ⟨rfl, fun i c' v' h2 h3 => ?_⟩
    cases i with
    | succ i => simp at h2
    | zero =>
      have e1 : c = c' := by simpa using h2
      have e2 : v = v' := by simpa using h3
      subst e1; subst e2
      exact ⟨h, h1⟩
  cases h with
  | leaf h =>
    have : cs = [c] := by cases h <;> try (simp [flO] at hc; exact hc.symm)
                          rename_i hb; cases c <;> simp [boolOf] at hb <;> simp [flO] at hc <;> exact hc.symm
    subst this
    exact sing (.leaf h) h.one
  | ktree h => simp [flO] at hc
  | ref κ => simp [flO] at hc; subst hc; exact sing (.ref κ) (hL κ)
  | ptr κ j => simp [flO] at hc; subst hc; exact sing (.ptr κ j) rfl
  | pbox h1 h2 h3 h4 => simp [flO] at hc; subst hc; exact sing (.pbox h1 h2 h3 h4) rfl
  | elt h1 h2 h3 => simp [flO] at hc; subst hc; exact sing (.elt h1 h2 h3) rfl
  | oel h1 h2 => simp [flO] at hc; subst hc; exact sing (.oel h1 h2) rfl
  | nel h1 h2 h3 h4 => simp [flO] at hc; subst hc; exact sing (.nel h1 h2 h3 h4) h4
  | agg hn h h1 => simp [flO] at hc; subst hc; exact ⟨hn, fun i c v h2 h3 => ⟨h i c v h2 h3, h1 i v h3⟩⟩
  | arr => simp [flO] at hc
  | tup => simp [flO] at hc
  | fn hn h => simp [flO] at hc; subst hc; exact sing (.fn hn h) rfl
  | junk => simp [flO] at hc
theorem setl_len : ∀ (vs cs : List (VV U.D)) (j : Nat), (setl cs j vs).length = cs.length
  | [], _, _ => rfl
  | v :: vs, cs, j => by rw [setl, setl_len, List.length_set]
theorem FR.setl : ∀ (vs : List (VV U.D)) (ws : List Value) (cs : List (VV U.D)) (A : Array Value) (o j : Nat), FR U F w0 L cs A → vs.length = ws.length →
    (∀ (i : Nat) (c : VV U.D) (v : Value), vs[i]? = some c → ws[i]? = some v → RV U F w0 L c v ∧ v.oneCell' = true) →
    FR U F w0 L (YtpdnnndedejlhaaGreatV.setl cs (o + j) vs) ((ws.zipIdx j).foldl (fun cs (p : Value × Nat) => cs.setIfInBounds (o + p.2) p.1) A)
  | [], [], cs, A, o, j, h, _, _ => h
  | [], _ :: _, _, _, _, _, _, hl, _ => by simp at hl
  | _ :: _, [], _, _, _, _, _, hl, _ => by simp at hl
  | v :: vs, x :: ws, cs, A, o, j, h, hl, hr => by
    rw [YtpdnnndedejlhaaGreatV.setl, List.zipIdx_cons, List.foldl_cons]
    refine FR.setl vs ws (cs.set (o + j) v) (A.setIfInBounds (o + j) x) o (j + 1) ⟨by simp [h.1], fun i c u hc hu => ?_⟩ (by simpa using hl) (fun i c u hc hu => hr (i + 1) c u (by simpa using hc) (by simpa using hu))
    by_cases hi : o + j = i
    · subst hi
      have hlt : o + j < cs.length := by have := idx_lt hc; simpa using this
      have hlt' : o + j < A.size := by rw [← h.1]; exact hlt
      rw [List.getElem?_set_self hlt] at hc
      rw [Array.getElem?_setIfInBounds_self_of_lt hlt'] at hu
      cases hc; cases hu
      exact hr 0 _ _ rfl rfl
    · rw [List.getElem?_set_ne hi] at hc
      rw [Array.getElem?_setIfInBounds_ne hi] at hu
      exact h.2 i c u hc hu
def PR (U : Uni) (F : Nat → Prop) (w0 : World) (L : Lc) : List (Nat × VV U.D) → List (Nat × Value) → Prop
  | [], [] => True
  | (i, c) :: ps, (j, v) :: qs => i = j ∧ RV U F w0 L c v ∧ PR U F w0 L ps qs
  | _, _ => False
theorem zipIdx_foldl (ws A : Array Value) (o : Nat) : ws.zipIdx.foldl (fun cs (c, j) => cs.setIfInBounds (o + j) c) A = (ws.toList.zipIdx 0).foldl (fun cs (p : Value × Nat) => cs.setIfInBounds (o + p.2) p.1) A := by
  rw [← Array.foldl_toList, Array.toList_zipIdx]
theorem fill_ok (hL : ∀ κ, (L.rv κ).oneCell' = true) {fs : List (Nat × Nat)} {place : Nat → Option (Nat × Nat)} (hp : ∀ i o ft T, fs[i]? = some (o, ft) → U.ti ft = some T → place i = some (o, T.sz)) :
    ∀ (ps : List (Nat × VV U.D)) (qs : List (Nat × Value)) (cs cs' : List (VV U.D)) (A : Array Value), PR U F w0 L ps qs → FR U F w0 L cs A → fillS fs cs ps = some cs' → ∃ A', Instr.fill place A qs = some A' ∧ FR U F w0 L cs' A'
  | [], [], cs, cs', A, _, h, hf => by simp [fillS] at hf; subst hf; exact ⟨A, rfl, h⟩
  | [], _ :: _, _, _, _, hpr, _, _ => hpr.elim
  | _ :: _, [], _, _, _, hpr, _, _ => by cases hpr
  | (i, c) :: ps, (j, v) :: qs, cs, cs', A, hpr, h, hf => by
    obtain ⟨rfl, hv, hpr⟩ := hpr
    simp only [fillS] at hf
    cases hfi : fs[i]? with
    | none => rw [hfi] at hf; cases hf
    | some of =>
      obtain ⟨o, ft⟩ := of
      rw [hfi] at hf
      simp only at hf
      cases hT : U.ti ft with
      | none => rw [hT] at hf; cases hf
      | some T =>
        cases hvs : flO c with
        | none => rw [hT, hvs] at hf; cases hf
        | some vs =>
          rw [hT, hvs] at hf
          simp only at hf
          cases hb : (Nat.beq vs.length T.sz && Nat.ble (o + T.sz) cs.length) with
          | false => rw [hb] at hf; cases hf
          | true =>
            simp only [hb, cond_true] at hf
            simp only [Bool.and_eq_true] at hb
            have h1 : vs.length = T.sz := Nat.eq_of_beq_eq_true hb.1
            have h2 : o + T.sz ≤ cs.length := Nat.le_of_ble_eq_true hb.2
            have hfr := hv.one hL hvs
            have hsz : v.cells.size = T.sz := by rw [← hfr.1, h1]
            have hpl := hp i o ft T hfi hT
            have h3 := FR.setl vs v.cells.toList cs A o 0 h (by rw [hfr.1]; simp) (fun q c u hc hu => hfr.2 q c u hc (by rw [← Array.getElem?_toList]; exact hu))
            rw [Nat.add_zero, ← zipIdx_foldl] at h3
            obtain ⟨A', h4, h5⟩ := fill_ok hL hp ps qs _ cs' _ hpr h3 hf
            refine ⟨A', ?_, h5⟩
            have hle : ¬ (o + v.cells.size > A.size) := by rw [hsz, ← h.1]; omega
            simp only [Instr.fill, hpl, hsz]
            rw [hsz] at hle
            simp only [ne_eq, not_true, decide_false, Bool.false_or, decide_eq_true_eq, hle, if_false]
            exact h4
theorem zcs_fr {t : Nat} {T : TY} (hT : TYok P t T) : FR U F w0 L (zcs T) (T.z.map zval).toArray := by
  refine ⟨by simp [zcs], fun i c v hc hv => ?_⟩
  simp only [zcs, List.getElem?_map] at hc
  simp only [List.getElem?_toArray, List.getElem?_map] at hv
  cases hz : T.z[i]? with
  | none => rw [hz] at hc; cases hc
  | some z =>
    rw [hz] at hc hv
    cases hc; cases hv
    cases z
    · exact ⟨.leaf (.int _ _), rfl⟩
    · exact ⟨.leaf (.bool rfl), rfl⟩
    · exact ⟨.leaf .nil, rfl⟩
theorem mapM_places {fields : List Field} (h : ∀ f ∈ fields, ∃ i, P.info? f.type = some i ∧ i.size ≠ 0) : ∃ places, fields.mapM (fun f => (P.info? f.type).map fun i => (f.offset, i.size)) = some places ∧
    ∀ (j : Nat) (f : Field) i, fields[j]? = some f → P.info? f.type = some i → places[j]? = some (f.offset, i.size) := by
  induction fields with
  | nil => exact ⟨[], by simp, fun j f i hj => by simp at hj⟩
  | cons f fs ih =>
    obtain ⟨i, hi, -⟩ := h f List.mem_cons_self
    obtain ⟨pl, h1, h2⟩ := ih (fun g hg => h g (List.mem_cons_of_mem _ hg))
    refine ⟨(f.offset, i.size) :: pl, by simp [List.mapM_cons, hi, h1], fun j g i' hj hi' => ?_⟩
    cases j with
    | zero =>
      have e : f = g := by simpa using hj
      subst e
      rw [hi] at hi'; cases hi'; rfl
    | succ j => exact h2 j g i' (by simpa using hj) hi'
theorem PR.of (hR : Rel U C L s a w) : ∀ (ps : List (Nat × Operand)), (∀ p ∈ ps, opOk p.2 = true) → PR U C.F C.w0 L (ps.map fun p => (p.1, YtpdnnndedejlhaaGreatV.ev s.t p.2)) (ps.map fun p => (p.1, a.eval p.2))
  | [], _ => trivial
  | p :: ps, h => ⟨rfl, hR.ev p.2 (h p List.mem_cons_self), PR.of hR ps (fun q hq => h q (List.mem_cons_of_mem _ hq))⟩
theorem p_build (PL : Plaw P U) (hR : Rel U C L s a w) {t : Nat} {ps : Array (Nat × Operand)} (ho : o.op = .build t ps) (hx : ∀ p ∈ ps, opOk p.2 = true) (h : Vop U E (.build t ps) d (ev s.t) s.m K = some r) :
    ∃ c, K c [] = some r ∧ Gives P U C L o a w c := by
  simp only [Vop] at h
  cases hT : U.ti t with
  | none => rw [hT] at h; cases h
  | some T =>
    have hok := PL.ty t T hT
    have hd := hok.d
    obtain ⟨i, z, hi, hs, hby, hz, hzc⟩ := hok.inf
    rw [hT] at h
    simp only at h
    have hmap : (ps.map fun (i, x) => (i, a.eval x)).toList = ps.toList.map fun p => (p.1, a.eval p.2) := by simp
    cases hTd : T.d <;> rw [hTd] at h hd <;> try (simp only [arB, hTd] at h; cases h; done)
    case ar n e =>
      simp only [arB, hTd] at h hd
      cases hTe : U.ti e with
      | none => rw [hTe] at h; cases h
      | some Te =>
        rw [hTe] at h
        simp only at h
        cases hf : fillS (arF e Te.sz n 0) (zcs T) (ps.toList.map fun p => (p.1, YtpdnnndedejlhaaGreatV.ev s.t p.2)) with
        | none => rw [hf] at h; cases h
        | some cs =>
          rw [hf] at h
          obtain ⟨ie, ze, hie, hsz, -⟩ := (PL.ty e Te hTe).inf
          have hF : ∀ (n o i : Nat) (q ft : Nat), (arF e Te.sz n o)[i]? = some (q, ft) → ft = e ∧ q = o + i * Te.sz := by
            intro n
            induction n with
            | zero => intro o i q ft hh; simp [arF] at hh
            | succ n ih =>
              intro o i q ft hh
              cases i with
              | zero =>
                simp only [arF, List.getElem?_cons_zero, Option.some.injEq, Prod.mk.injEq] at hh
                exact ⟨hh.2.symm, by omega⟩
              | succ i =>
                obtain ⟨h1, h2⟩ := ih (o + Te.sz) i q ft (by simpa [arF] using hh)
                exact ⟨h1, by rw [h2, Nat.add_mul]; omega⟩
          have hplace : ∀ (i o ft : Nat) (T' : TY), (arF e Te.sz n 0)[i]? = some (o, ft) → U.ti ft = some T' → (fun i => some (i * ie.size, ie.size)) i = some (o, T'.sz) := by
            intro i o ft T' hh hT'
            obtain ⟨rfl, rfl⟩ := hF n 0 i o ft hh
            rw [hTe] at hT'; cases hT'
            simp [hsz]
          obtain ⟨A', h1, h2⟩ := fill_ok hR.rvo hplace _ _ _ _ _ (PR.of hR ps.toList (fun p hp => hx p (Array.mem_toList_iff.1 hp))) (zcs_fr hok) hf
          have hb : P.built t (ps.map fun (i, x) => (i, a.eval x)).toList = some A' := by
            unfold Program.built
            simp only [hi, hd, hz, hie, hmap, hzc]
            exact h1
          refine ⟨_, h, .agg A', ?_, .agg h2.1 (fun i c v hc hv => (h2.2 i c v hc hv).1) (fun i v hv => ?_)⟩
          · simp only [execOp, ho, Sem.run_bind]
            rw [run_build (P := P) w t _ A' hb]
            simp [Sem.run]
          · have hlt : i < cs.length := by rw [h2.1]; exact (Array.getElem?_eq_some_iff.1 hv).1
            exact (h2.2 i _ v (List.getElem?_eq_getElem hlt) hv).2
    case str fs =>
      simp only at h
      obtain ⟨fields, hu, hm, hsz⟩ := hd
      cases hf : fillS fs (zcs T) (ps.toList.map fun p => (p.1, YtpdnnndedejlhaaGreatV.ev s.t p.2)) with
      | none => rw [hf] at h; cases h
      | some cs =>
        rw [hf] at h
        obtain ⟨pl, hpl, hpl2⟩ := mapM_places (P := P) hsz
        have hplace : ∀ (i o ft : Nat) (T : TY), fs[i]? = some (o, ft) → U.ti ft = some T → pl.toArray[i]? = some (o, T.sz) := by
          intro j o ft T' hj hT'
          rw [← hm, List.getElem?_map] at hj
          obtain ⟨f, hfj, e⟩ := Option.map_eq_some_iff.1 hj
          simp only [Prod.mk.injEq] at e
          obtain ⟨i', z', h1, h2, -⟩ := (PL.ty ft T' hT').inf
          rw [← e.2] at h1
          rw [List.getElem?_toArray, hpl2 j f i' hfj h1, e.1, h2]
        obtain ⟨A', h1, h2⟩ := fill_ok hR.rvo hplace _ _ _ _ _ (PR.of hR ps.toList (fun p hp => hx p (Array.mem_toList_iff.1 hp))) (zcs_fr hok) hf
        have hb : P.built t (ps.map fun (i, x) => (i, a.eval x)).toList = some A' := by
          unfold Program.built
          simp only [hi, hu, hz, hpl, hmap, hzc]
          exact h1
        refine ⟨_, h, .agg A', ?_, .agg h2.1 (fun i c v hc hv => (h2.2 i c v hc hv).1) (fun i v hv => ?_)⟩
        · simp only [execOp, ho, Sem.run_bind]
          rw [run_build (P := P) w t _ A' hb]
          simp [Sem.run]
        · have hlt : i < cs.length := by rw [h2.1]; exact (Array.getElem?_eq_some_iff.1 hv).1
          exact (h2.2 i _ v (List.getElem?_eq_getElem hlt) hv).2
theorem p_len (PL : Plaw P U) (hR : Rel U C L s a w) {c : Call} {x : Operand} (ho : o.op = .call c) (hc : c.callee = .builtin .len) (hargs : c.args.toList = [x]) (hx : opOk x = true)
    (h : Vop U E (.call c) d (ev s.t) s.m K = some r) : ∃ c, K c [] = some r ∧ Gives P U C L o a w c := by
  obtain ⟨callee, args, ats⟩ := c
  simp only at hc hargs
  subst hc
  have hargs' : args = #[x] := by cases args; simp_all
  subst hargs'
  have hv := hR.ev x hx
  simp only [Vop, List.map_cons, List.map_nil] at h
  generalize hcx : YtpdnnndedejlhaaGreatV.ev s.t x = cx at h hv
  have fin : ∀ k n A cap, slL U ats.toList k = true → a.eval x = .slice A n cap → (execOp a.eval o).run P w = .ok (.value (.int .i64 n)) w := by
    intro k n A cap hb e
    cases hat : ats.toList with
    | nil => rw [hat] at hb; cases hb
    | cons t rest =>
      rw [hat] at hb
      obtain ⟨hu, -⟩ := slK_inv PL hb
      have hat0 : ats[0]? = some t := by rw [← Array.getElem?_toList, hat]; rfl
      simp [execOp, ho, resolve, invoke, builtin, Sem.run, Builtin.len_, hat0, e, run_underlying hu, goInt]
  cases cx <;> try (cases h)
  case tree k xs =>
    simp only at h
    cases hb : slL U ats.toList k with
    | false => rw [hb] at h; cases h
    | true =>
      simp only [hb, cond_true] at h
      obtain ⟨A, cap, e, -⟩ := hv.tree_inv.slice
      exact ⟨_, h, _, fin k _ A cap hb e, .leaf (.int _ _)⟩
  case ref κ =>
    simp only at h
    cases hm : mget s.m κ with
    | none => rw [hm] at h; cases h
    | some b =>
      rw [hm] at h
      cases b <;> try (cases h)
      case row k xs =>
        simp only at h
        cases hb : slL U ats.toList k with
        | false => rw [hb] at h; cases h
        | true =>
          simp only [hb, cond_true] at h
          obtain ⟨A, cap, e, -⟩ := (hR.me κ _ hm).1.slice
          exact ⟨_, h, _, fin k _ A cap hb (by rw [hv.ref_inv, e]), .leaf (.int _ _)⟩
      case krow k xs =>
        simp only at h
        cases hb : slL U ats.toList k with
        | false => rw [hb] at h; cases h
        | true =>
          simp only [hb, cond_true] at h
          obtain ⟨A, cap, e, -⟩ := (hR.me κ _ hm).1.1.slice
          exact ⟨_, h, _, fin k _ A cap hb (by rw [hv.ref_inv, e]), .leaf (.int _ _)⟩
theorem p_min (hR : Rel U C L s a w) {c : Call} {x y : Operand} (ho : o.op = .call c) (hc : c.callee = .builtin .min ∨ c.callee = .builtin .max) (hargs : c.args.toList = [x, y]) (hx : opOk x = true) (hy : opOk y = true)
    (h : Vop U E (.call c) d (ev s.t) s.m K = some r) : ∃ c, K c [] = some r ∧ Gives P U C L o a w c := by
  obtain ⟨callee, args, ats⟩ := c
  simp only at hc hargs
  have hargs' : args = #[x, y] := by cases args; simp_all
  subst hargs'
  have hv := hR.ev x hx
  have hvy := hR.ev y hy
  rcases hc with rfl | rfl <;> simp only [Vop, List.map_cons, List.map_nil] at h <;>
  · generalize hcx : YtpdnnndedejlhaaGreatV.ev s.t x = cx at h hv
    generalize hcy : YtpdnnndedejlhaaGreatV.ev s.t y = cy at h hvy
    cases cx <;> try (cases h)
    cases cy <;> try (cases h)
    case int.int k n k' m =>
      simp only at h
      cases hb : ikeq k k' with
      | false => rw [hb] at h; cases h
      | true =>
        simp only [hb, cond_true] at h
        exact ⟨_, h, _, by simp [execOp, ho, resolve, invoke, builtin, Sem.run, Builtin.min_, Builtin.max_, Builtin.min2, Builtin.max2, hv.int_inv, hvy.int_inv], .leaf (.int _ _)⟩
end
end Go.Proofs.YtpdnnndedejlhaaGreatV
/- How what is said of memory goes on when it is written. -/
namespace Go.Proofs.YtpdnnndedejlhaaGreatV
open Go
set_option linter.unusedVariables false
set_option linter.unusedSimpArgs false
variable {U : Uni} {P : Program} {R : Type} {F : Nat → Prop} {w0 : World}
def EqAt (L L' : Lc) (κ : Nat) : Prop := L'.bg κ = L.bg κ ∧ L'.bo κ = L.bo κ ∧ L'.bs κ = L.bs κ ∧ L'.bn κ = L.bn κ ∧ L'.rv κ = L.rv κ ∧ L'.kv = L.kv
theorem menL_mem {cs : List (VV U.D)} {i : Nat} {c : VV U.D} (h : cs[i]? = some c) {κ : Nat} (hk : κ ∈ men c) : κ ∈ menL cs := by
  induction cs generalizing i with
  | nil => simp at h
  | cons x xs ih =>
    cases i with
    | zero =>
      have e : x = c := by simpa using h
      subst e
      rw [menL]; exact List.mem_append_left _ hk
    | succ i => rw [menL]; exact List.mem_append_right _ (ih (by simpa using h))
theorem RV.ext {L L' : Lc} {c : VV U.D} {v : Value} (h : RV U F w0 L c v) (hk : L'.kv = L.kv) (hL : ∀ κ ∈ men c, EqAt L L' κ) : RV U F w0 L' c v := by
  induction h with
  | leaf h => exact .leaf h
  | ktree h => rw [← hk]; rw [← hk] at h; exact .ktree h
  | ref κ => have := hL κ (by simp [men]); rw [← this.2.2.2.2.1]; exact .ref κ
  | ptr κ j => have := hL κ (by simp [men]); rw [← this.1]; exact .ptr κ j
  | pbox h1 h2 h3 h4 => exact .pbox h1 h2 h3 h4
  | elt h1 h2 h3 => exact .elt h1 h2 h3
  | @oel κ i j h0 h1 =>
    have := hL κ (by simp [men])
    rw [← this.1, ← this.2.1, ← this.2.2.1]
    exact .oel h0 (by rw [this.2.2.2.1]; exact h1)
  | @nel κ i j v h0 h1 h2 h3 =>
    have := hL κ (by simp [men])
    exact .nel h0 (by rw [this.2.2.2.1]; exact h1) (by rw [this.1, this.2.1, this.2.2.1]; exact h2) h3
  | agg hn h h1 ih => exact .agg hn (fun i c v hc hv => ih i c v hc hv (fun κ hk => hL κ (by rw [men]; exact menL_mem hc hk))) h1
  | arr h1 h2 h3 => exact .arr h1 h2 h3
  | tup hn h ih => exact .tup hn (fun i c v hc hv => ih i c v hc hv (fun κ hk => hL κ (by rw [men]; exact menL_mem hc hk)))
  | fn hn h ih => exact .fn hn (fun i c v hc hv => ih i c v hc hv (fun κ hk => hL κ (by rw [men]; exact menL_mem hc hk)))
  | junk v => exact .junk v
theorem mget_mput (m : Mem U.D) (κ : Nat) (b : Blk U.D) (q : Nat) : mget (mput m κ b) q = if q = κ then some b else mget m q := by
  induction m with
  | nil =>
    simp only [mput, mget]
    by_cases h : q = κ
    · subst h; simp
    · have : Nat.beq κ q = false := by
        cases hb : Nat.beq κ q with
        | false => rfl
        | true => exact absurd (Nat.eq_of_beq_eq_true hb).symm h
      simp [this, h]
  | cons x xs ih =>
    obtain ⟨p, c⟩ := x
    simp only [mput]
    cases hb : Nat.beq p κ with
    | true =>
      have := Nat.eq_of_beq_eq_true hb
      subst this
      simp only [cond_true, mget]
      cases hq : Nat.beq p q with
      | true => have := Nat.eq_of_beq_eq_true hq; subst this; simp
      | false =>
        have : q ≠ p := fun e => by subst e; simp at hq
        simp [this]
    | false =>
      simp only [cond_false, mget]
      cases hq : Nat.beq p q with
      | true =>
        have := Nat.eq_of_beq_eq_true hq; subst this
        have : p ≠ κ := fun e => by subst e; simp at hb
        simp [this]
      | false => simp only [cond_false]; exact ih
theorem mget_mdel (m : Mem U.D) (κ q : Nat) : mget (mdel m κ) q = if q = κ then none else mget m q := by
  induction m with
  | nil => simp [mdel, mget]
  | cons x xs ih =>
    obtain ⟨p, c⟩ := x
    simp only [mdel]
    cases hb : Nat.beq p κ with
    | true =>
      have := Nat.eq_of_beq_eq_true hb; subst this
      simp only [cond_true, ih, mget]
      by_cases hq : q = p
      · simp [hq]
      · have : Nat.beq p q = false := by
          cases hb : Nat.beq p q with
          | false => rfl
          | true => exact absurd (Nat.eq_of_beq_eq_true hb).symm hq
        simp [hq, this]
    | false =>
      simp only [cond_false, mget]
      cases hq : Nat.beq p q with
      | true =>
        have := Nat.eq_of_beq_eq_true hq; subst this
        have : p ≠ κ := fun e => by subst e; simp at hb
        simp [this]
      | false => simp only [cond_false]; exact ih
theorem menM_mem {m : Mem U.D} {κ : Nat} {b : Blk U.D} (h : mget m κ = some b) {q : Nat} (hq : q ∈ menB b) : q ∈ menM m := by
  induction m with
  | nil => simp [mget] at h
  | cons x xs ih =>
    obtain ⟨p, c⟩ := x
    simp only [mget] at h
    rw [menM]
    cases hb : Nat.beq p κ with
    | true => rw [hb] at h; cases h; exact List.mem_append_left _ hq
    | false => rw [hb] at h; exact List.mem_append_right _ (ih h)
theorem hasK_iff {κ : Nat} {l : List Nat} : hasK κ l = true ↔ κ ∈ l := by
  induction l with
  | nil => simp [hasK]
  | cons x xs ih =>
    simp only [hasK, Bool.or_eq_true, ih, List.mem_cons]
    constructor
    · rintro (h | h)
      · exact .inl (Nat.eq_of_beq_eq_true h).symm
      · exact .inr h
    · rintro (rfl | h)
      · exact .inl (Nat.beq_refl _)
      · exact .inr h
theorem cell_heap {w w' : World} {a : Addr} (h : w'.heap[a.block]? = w.heap[a.block]?) : w'.cell? a = w.cell? a := by
  unfold World.cell?; rw [h]
theorem Hd.step {w w' : World} {L L' : Lc} {κ k : Nat} {xs : List (U.D k)} (h : Hd U w0 w L κ k xs) (he : EqAt L L' κ) (hc : xs ≠ [] → w'.heap[L.bg κ]? = w.heap[L.bg κ]?) : Hd U w0 w' L' κ k xs := by
  intro i x j k' ys hx hj
  have := h i x j k' ys hx hj
  rw [he.1, he.2.1, he.2.2.1, ← this]
  exact cell_heap (hc (fun e => by subst e; simp at hx))
theorem RO.bg {w : World} {ok : Nat → Prop} {k : Nat} {xs : List (U.D k)} {v : Value} {g0 : Nat} (h : RO U w ok (.tree k xs) v) (hne : xs ≠ []) (hp : ∀ g o n c, v = .slice (some ⟨g, o, none⟩) n c → g0 = g) : ok g0 := by
  cases h with
  | bool hb => simp [boolOf] at hb
  | tree0 => exact absurd rfl hne
  | tree f hg => rw [hp _ _ _ _ rfl]; exact hg
theorem BR.step {w w' : World} {L L' : Lc} {κ : Nat} {b : Blk U.D} (h : BR U F w0 w L κ b) (he : EqAt L L' κ) (hm : ∀ q ∈ menB b, EqAt L L' q)
    (hc : ∀ x, L.cl x = κ + 1 → L'.cl x = κ + 1 ∧ w'.heap[x]? = w.heap[x]?) : BR U F w0 w' L' κ b := by
  cases b with
  | box t cs =>
    obtain ⟨h1, vs, h2, h3, h4⟩ := h
    obtain ⟨e1, e2⟩ := hc _ h1
    refine ⟨by rw [he.1]; exact e1, vs, by rw [he.1, e2]; exact h2, h3, fun i c v h5 h6 => ⟨(h4 i c v h5 h6).1.ext he.2.2.2.2.2 (fun q hq => hm q (by rw [menB]; exact menL_mem h5 hq)), (h4 i c v h5 h6).2⟩⟩
  | row k xs =>
    obtain ⟨h1, h3, h4⟩ := h
    refine ⟨?_, by rw [he.2.2.2.1]; exact h3, by rw [he.2.2.2.2.1, he.1, he.2.1, he.2.2.1]; exact h4⟩
    rw [he.2.2.2.2.1]
    exact (h1.stay (fun x hx => (hc x hx).2)).mono (fun x hx => (hc x hx).1)
  | krow k xs =>
    obtain ⟨⟨h1, h3, h4⟩, h5⟩ := h
    refine ⟨⟨?_, by rw [he.2.2.2.1]; exact h3, by rw [he.2.2.2.2.1, he.1, he.2.1, he.2.2.1]; exact h4⟩, h5.step he (fun hne => (hc _ (h1.bg hne (fun g o n c e => (h4 g o n c e).1))).2)⟩
    rw [he.2.2.2.2.1]
    exact (h1.stay (fun x hx => (hc x hx).2)).mono (fun x hx => (hc x hx).1)
  | hole k xs i j =>
    obtain ⟨⟨cap, cur, f, h1, h2, h3, h4, h5, h6, h6k, h7, h8⟩, h9⟩ := h
    obtain ⟨e1, e2⟩ := hc _ h4
    refine ⟨⟨cap, cur, f, by rw [he.2.2.2.2.1, he.1, he.2.1]; exact h1, by rw [he.2.2.1]; exact h2, by rw [he.2.2.2.1]; exact h3, by rw [he.1]; exact e1, by rw [he.1, e2]; exact h5, h6, h6k, by rw [he.2.1]; exact h7, fun i' x j' c hx hj hn => ?_⟩, h9.step he (fun _ => e2)⟩
    rw [he.1, he.2.1]
    exact ((h8 i' x j' c hx hj hn).stay (fun b hb => (hc b hb.1).2)).mono (fun b hb => ⟨(hc b hb.1).1, hb.2⟩)
  | brow k xs =>
    obtain ⟨cap, cur, h1, h2, h3, h4, h5, h6, h7, h8⟩ := h
    obtain ⟨e1, e2⟩ := hc _ h4
    refine ⟨cap, cur, by rw [he.2.2.2.2.1, he.1, he.2.1]; exact h1, by rw [he.2.2.1]; exact h2, by rw [he.2.2.2.1]; exact h3, by rw [he.1]; exact e1, by rw [he.1, e2]; exact h5, h6, by rw [he.2.1]; exact h7, fun i x j c hx hj => ?_⟩
    rw [he.2.1]
    rcases h8 i x j c hx hj with h | h
    · exact .inl h
    · exact .inr ((h.stay (fun b hb => (hc b hb).2)).mono (fun b hb => (hc b hb).1))
  | arr t n k xs =>
    obtain ⟨h1, h2, h3, h4, h5, h6, vs, h7, h8⟩ := h
    obtain ⟨e1, e2⟩ := hc _ h1
    exact ⟨by rw [he.1]; exact e1, by rw [he.2.1]; exact h2, by rw [he.2.2.1]; exact h3, by rw [he.2.2.2.1]; exact h4, h5, h6, vs, by rw [he.1, e2]; exact h7, h8⟩
theorem MRel.step {C : Fr} {L L' : Lc} {m m' : Mem U.D} {w w' : World} (h : MRel U C L m w)
    (hme : ∀ κ b, mget m' κ = some b → (mget m κ = some b ∧ EqAt L L' κ ∧ (∀ q ∈ menB b, EqAt L L' q) ∧ ∀ x, L.cl x = κ + 1 → L'.cl x = κ + 1 ∧ w'.heap[x]? = w.heap[x]?) ∨ BR U C.F C.w0 w' L' κ b)
    (hg : ∀ b, C.G b → L'.cl b = 0 ∧ w'.heap[b]? = w.heap[b]?) (hl : ∀ b, L'.cl b ≠ 0 → b < w'.heap.size) (hr : ∀ κ, (L'.rv κ).oneCell' = true)
    (hs : w.heap.size ≤ w'.heap.size) (hos : w'.os = w.os) (htp : w'.tape = w.tape) (hou : w'.output = w.output) : MRel U C L' m' w' where
  me κ b hb := by
    rcases hme κ b hb with ⟨h1, h2, h3, h4⟩ | h1
    · exact (h.me κ b h1).step h2 h3 h4
    · exact h1
  fg := h.fg
  g0 b hb := ⟨(h.g0 b hb).1, (hg b hb).1, (hg b hb).2.trans (h.g0 b hb).2.2⟩
  hl := hl
  rvo := hr
  hs := Nat.le_trans h.hs hs
  os := hos.trans h.os
  tp := htp.trans h.tp
  ou := hou.trans h.ou
def Lc.at (L : Lc) (κ g o s n : Nat) (v : Value) (cl : Nat → Nat) : Lc where
  bg q := if q = κ then g else L.bg q
  bo q := if q = κ then o else L.bo q
  bs q := if q = κ then s else L.bs q
  bn q := if q = κ then n else L.bn q
  rv q := if q = κ then v else L.rv q
  cl := cl
  kv := L.kv
theorem Lc.at_ne (L : Lc) {κ g o s n : Nat} {v : Value} {cl : Nat → Nat} {q : Nat} (h : q ≠ κ) : EqAt L (L.at κ g o s n v cl) q := by
  simp [EqAt, Lc.at, h]
theorem heap_alloc {w : World} {ob : Obj} {b : Nat} (h : b < w.heap.size) : (w.alloc ob).heap[b]? = w.heap[b]? := by
  show (w.heap.push ob)[b]? = _
  rw [Array.getElem?_push, if_neg (Nat.ne_of_lt h)]
theorem heap_alloc_self {w : World} {ob : Obj} : (w.alloc ob).heap[w.heap.size]? = some ob := by
  show (w.heap.push ob)[w.heap.size]? = _
  rw [Array.getElem?_push, if_pos rfl]
theorem Lc.one_at {L : Lc} (h : ∀ κ, (L.rv κ).oneCell' = true) {κ g o s n : Nat} {v : Value} {cl : Nat → Nat} (hv : v.oneCell' = true) (q : Nat) : ((L.at κ g o s n v cl).rv q).oneCell' = true := by
  simp only [Lc.at]
  split
  · exact hv
  · exact h q
open Classical in
theorem MRel.new {C : Fr} {L : Lc} {m m' : Mem U.D} {w : World} (h : MRel U C L m w) {κ t : Nat} {cells : Array Value} {o s n : Nat} {v : Value} {b : Blk U.D} (moved : Nat → Prop)
    (hm' : ∀ q c, mget m' q = some c → (q = κ ∧ c = b) ∨ (q ≠ κ ∧ ¬ moved q ∧ mget m q = some c ∧ κ ∉ menB c)) (hv : v.oneCell' = true)
    (hb : BR U C.F C.w0 (w.alloc (.cells cells t (0, 0))) (L.at κ w.heap.size o s n v (fun x => if x = w.heap.size then κ + 1 else if ∃ q, moved q ∧ L.cl x = q + 1 then κ + 1 else L.cl x)) κ b) :
    MRel U C (L.at κ w.heap.size o s n v (fun x => if x = w.heap.size then κ + 1 else if ∃ q, moved q ∧ L.cl x = q + 1 then κ + 1 else L.cl x)) m' (w.alloc (.cells cells t (0, 0))) := by
  refine h.step (fun q c hq => ?_) (fun x hx => ?_) (fun x hx => ?_) (Lc.one_at h.rvo hv) (by simp) rfl rfl rfl
  · rcases hm' q c hq with ⟨rfl, rfl⟩ | ⟨h1, h2, h3, h4⟩
    · exact .inr hb
    · refine .inl ⟨h3, L.at_ne h1, fun p hp => L.at_ne (fun e => h4 (e ▸ hp)), fun x hx => ?_⟩
      have hlt : x < w.heap.size := h.hl x (by rw [hx]; exact Nat.succ_ne_zero q)
      refine ⟨?_, heap_alloc hlt⟩
      have h5 : ¬ ∃ p, moved p ∧ L.cl x = p + 1 := by
        rintro ⟨p, hp, e⟩
        rw [hx] at e
        have : q = p := by omega
        exact h2 (this ▸ hp)
      show (if x = w.heap.size then κ + 1 else if ∃ q, moved q ∧ L.cl x = q + 1 then κ + 1 else L.cl x) = _
      rw [if_neg (Nat.ne_of_lt hlt), if_neg h5]; exact hx
  · obtain ⟨h1, h2, h3⟩ := h.g0 x hx
    have hlt : x < w.heap.size := Nat.lt_of_lt_of_le h1 h.hs
    refine ⟨?_, heap_alloc hlt⟩
    have h5 : ¬ ∃ p, moved p ∧ L.cl x = p + 1 := by rintro ⟨p, hp, e⟩; omega
    simp [Lc.at, Nat.ne_of_lt hlt, h5, h2]
  · by_cases e : x = w.heap.size
    · subst e; simp
    · have : L.cl x ≠ 0 := by
        intro h0
        apply hx
        have h5 : ¬ ∃ p, moved p ∧ L.cl x = p + 1 := by rintro ⟨p, hp, e⟩; omega
        simp [Lc.at, e, h5, h0]
      have := h.hl x this
      simp; omega
end Go.Proofs.YtpdnnndedejlhaaGreatV
/- Variables in memory, literals, make. -/
namespace Go.Proofs.YtpdnnndedejlhaaGreatV
open Go
set_option linter.unusedVariables false
set_option linter.unusedSimpArgs false
variable {U : Uni} {P : Program} {R : Type}
section
variable {C : Fr} {L : Lc} {s : St U.D} {a : Act} {w : World} {E : Nat → List (Con U)} {d : Nat} {K : VV U.D → Upd U.D → Option R} {r : R} {o : Oper}
def Does (P : Program) (U : Uni) (C : Fr) (L : Lc) (s : St U.D) (o : Oper) (a : Act) (w : World) (c : VV U.D) (u : Upd U.D) : Prop :=
  ∃ L' w' v, ((execOp a.eval o).run P w = .ok (.value v) w' ∨ ((execOp a.eval o).run P w = .ok .skip w' ∧ v = undef)) ∧ MRel U C L' (mupd s.m u) w' ∧ RV U C.F C.w0 L' c v ∧ L'.kv = L.kv ∧
    ∀ κ, (κ ∈ menL s.t ∨ κ ∈ menM s.m) → EqAt L L' κ
theorem newOk_inv {u : Upd U.D} (h : newOk s u = true) {κ : Nat} {b : Blk U.D} (hu : (κ, some b) ∈ u) : (∃ b', mget s.m κ = some b') ∨ (κ ∉ menL s.t ∧ κ ∉ menM s.m) := by
  induction u with
  | nil => simp at hu
  | cons x xs ih =>
    obtain ⟨q, ob⟩ := x
    rcases List.mem_cons.1 hu with e | hu2
    · cases e
      simp only [newOk, Bool.and_eq_true] at h
      cases hm : mget s.m κ with
      | some b' => exact .inl ⟨b', rfl⟩
      | none =>
        right
        have h1 := h.1
        rw [hm] at h1
        simp only [Bool.not_eq_true', Bool.or_eq_false_iff] at h1
        exact ⟨fun hk => by rw [hasK_iff.2 hk] at h1; exact Bool.noConfusion h1.1, fun hk => by rw [hasK_iff.2 hk] at h1; exact Bool.noConfusion h1.2⟩
    · cases ob with
      | none => simp only [newOk] at h; exact ih h hu2
      | some b' => simp only [newOk, Bool.and_eq_true] at h; exact ih h.2 hu2
theorem FR.mono {F : Nat → Prop} {w0 : World} {L L' : Lc} {cs : List (VV U.D)} {vs : Array Value} (h : FR U F w0 L cs vs) (hk : L'.kv = L.kv) (hL : ∀ κ ∈ menL cs, EqAt L L' κ) : FR U F w0 L' cs vs :=
  ⟨h.1, fun i c v hc hv => ⟨(h.2 i c v hc hv).1.ext hk (fun κ hk => hL κ (menL_mem hc hk)), (h.2 i c v hc hv).2⟩⟩
theorem menL_get {t : List (VV U.D)} {i κ : Nat} (h : κ ∈ men (lget t i)) : κ ∈ menL t := by
  unfold lget at h
  rw [List.getD_eq_getElem?_getD] at h
  cases hi : t[i]? with
  | none => rw [hi] at h; simp [men] at h
  | some c => rw [hi] at h; exact menL_mem hi h
theorem men_ofV {v : Value} {κ : Nat} (h : κ ∈ men (ofV (U := U) v)) : False := by
  unfold YtpdnnndedejlhaaGreatV.ofV at h
  split at h <;> simp [men] at h
theorem menL_ofV {l : List Value} {κ : Nat} (h : κ ∈ menL (l.map (ofV (U := U)))) : False := by
  induction l with
  | nil => simp [menL] at h
  | cons x xs ih =>
    rw [List.map_cons, menL] at h
    rcases List.mem_append.1 h with h | h
    · exact men_ofV h
    · exact ih h
theorem men_ev {x : Operand} {κ : Nat} (h : κ ∈ men (YtpdnnndedejlhaaGreatV.ev s.t x)) : κ ∈ menL s.t := by
  cases x with
  | tmp i => exact menL_get h
  | global g => simp [YtpdnnndedejlhaaGreatV.ev, men] at h
  | func f => simp [YtpdnnndedejlhaaGreatV.ev, men, menL] at h
  | const v =>
    exfalso
    cases v with
    | agg cs => simp only [YtpdnnndedejlhaaGreatV.ev, men] at h; exact menL_ofV h
    | bool b => exact men_ofV (v := .bool b) h
    | int k n => exact men_ofV (v := .int k n) h
    | slice b n c => exact men_ofV (v := .slice b n c) h
    | _ => simp [YtpdnnndedejlhaaGreatV.ev, YtpdnnndedejlhaaGreatV.ofV, men] at h
theorem men_flO {c : VV U.D} {cs : List (VV U.D)} (h : flO c = some cs) {κ : Nat} (hk : κ ∈ menL cs) : κ ∈ men c := by
  cases c <;> simp [flO] at h <;> subst h <;> simp [menL, men] at hk ⊢ <;> exact hk
open Classical in
theorem d_box (hR : Rel U C L s a w) {e : Nat} {cs : List (VV U.D)} {vs : Array Value} (hfr : FR U C.F C.w0 L cs vs) (hmen : ∀ κ ∈ menL cs, κ ∈ menL s.t)
    (hrun : (execOp a.eval o).run P w = .ok (.value (.pointer (some ⟨w.heap.size, 0, none⟩))) (w.alloc (.cells vs e (0, 0)))) (hm : mget s.m (64 * d) = none)
    (hn : newOk s [(64 * d, some (Blk.box e cs))] = true) : Does P U C L s o a w (.ptr (64 * d) 0) [(64 * d, some (.box e cs))] := by
  have hf : (64 * d) ∉ menL s.t ∧ (64 * d) ∉ menM s.m := by
    rcases newOk_inv hn List.mem_cons_self with ⟨b', hb'⟩ | h
    · rw [hm] at hb'; cases hb'
    · exact h
  have hne : ∀ κ, (κ ∈ menL s.t ∨ κ ∈ menM s.m) → κ ≠ 64 * d := by
    rintro κ (h | h) rfl
    · exact hf.1 h
    · exact hf.2 h
  refine ⟨_, _, _, .inl hrun, hR.toMRel.new (κ := 64 * d) (o := 0) (s := 0) (n := 0) (v := .slice none 0 0) (b := .box e cs) (fun _ => False) (fun q c hq => ?_) rfl ?_, ?_, rfl, fun κ hk => L.at_ne (hne κ hk)⟩
  · simp only [mupd, mget_mput] at hq
    by_cases e : q = 64 * d
    · rw [if_pos e] at hq; cases hq; exact .inl ⟨e, rfl⟩
    · rw [if_neg e] at hq
      exact .inr ⟨e, fun h => h, hq, fun h => hf.2 (menM_mem hq h)⟩
  · refine ⟨by simp [Lc.at], vs, by simp only [Lc.at, if_pos]; exact heap_alloc_self, hfr.1, fun i c v hc hv => ?_⟩
    exact ⟨(hfr.2 i c v hc hv).1.ext rfl (fun κ hk => L.at_ne (hne κ (.inl (hmen κ (menL_mem hc hk))))), (hfr.2 i c v hc hv).2⟩
  · have : RV U C.F C.w0 (L.at (64 * d) w.heap.size 0 0 0 (.slice none 0 0) (fun x => if x = w.heap.size then 64 * d + 1 else if ∃ q, False ∧ L.cl x = q + 1 then 64 * d + 1 else L.cl x)) (.ptr (64 * d) 0) (.pointer (some ⟨(L.at (64 * d) w.heap.size 0 0 0 (.slice none 0 0) (fun x => if x = w.heap.size then 64 * d + 1 else if ∃ q, False ∧ L.cl x = q + 1 then 64 * d + 1 else L.cl x)).bg (64 * d), 0, none⟩)) := .ptr _ _
    simpa [Lc.at] using this
theorem nw_inv {m : Mem U.D} {κ : Nat} {K : Option R} (h : nw m κ K = some r) : mget m κ = none ∧ K = some r := by
  unfold nw at h
  cases hm : mget m κ with
  | none => rw [hm] at h; exact ⟨rfl, h⟩
  | some b => rw [hm] at h; cases h
theorem d_alloc (PL : Plaw P U) (hR : Rel U C L s a w) {e : Nat} (ho : o.op = .alloc e) (h : Vop U E (.alloc e) d (ev s.t) s.m K = some r) :
    ∃ c u, K c u = some r ∧ (newOk s u = true → Does P U C L s o a w c u) := by
  simp only [Vop] at h
  cases hT : U.ti e with
  | none => rw [hT] at h; cases h
  | some T =>
    have hok := PL.ty e T hT
    obtain ⟨i, z, hi, hs, hby, hz, hzc⟩ := hok.inf
    rw [hT] at h
    simp only at h
    have fin : nw s.m (64 * d) (K (.ptr (64 * d) 0) [(64 * d, some (.box e (zcs T)))]) = some r → ∃ c u, K c u = some r ∧ (newOk s u = true → Does P U C L s o a w c u) := by
      intro h
      obtain ⟨hm, hK⟩ := nw_inv h
      refine ⟨_, _, hK, fun hn => d_box hR (zcs_fr (L := L) hok) (fun κ hk => ?_) ?_ hm hn⟩
      · exfalso
        have : ∀ l : List ZC, κ ∉ menL (l.map (ZC.v (D := U.D))) := by
          intro l
          induction l with
          | nil => simp [menL]
          | cons x xs ih => cases x <;> simp [menL, ZC.v, men] <;> exact ih
        exact this _ hk
      · simp [execOp, ho, Sem.run, Instr.alloc, zeroValue, typeInfo, hi, hz, newVar, newRow, hzc]
    exact fin h
theorem d_boxop (PL : Plaw P U) (hR : Rel U C L s a w) {e : Nat} {x : Operand} (ho : o.op = .box e x) (hx : opOk x = true) (h : Vop U E (.box e x) d (ev s.t) s.m K = some r) :
    ∃ c u, K c u = some r ∧ (newOk s u = true → Does P U C L s o a w c u) := by
  have hv := hR.ev x hx
  simp only [Vop] at h
  cases hc : flO (YtpdnnndedejlhaaGreatV.ev s.t x) with
  | none => rw [hc] at h; cases h
  | some cs =>
    rw [hc] at h
    obtain ⟨hm, hK⟩ := nw_inv h
    refine ⟨_, _, hK, fun hn => d_box hR (hv.one hR.rvo hc) (fun κ hk => men_ev (men_flO hc hk)) ?_ hm hn⟩
    simp [execOp, ho, Sem.run, Instr.box, newVar, newRow]
end
end Go.Proofs.YtpdnnndedejlhaaGreatV
/- Rows that are made. -/
namespace Go.Proofs.YtpdnnndedejlhaaGreatV
open Go
set_option linter.unusedVariables false
set_option linter.unusedSimpArgs false
variable {U : Uni} {P : Program} {R : Type}
section
variable {C : Fr} {L : Lc} {s : St U.D} {a : Act} {w : World} {E : Nat → List (Con U)} {d : Nat} {K : VV U.D → Upd U.D → Option R} {r : R} {o : Oper}
theorem mvdL_inv {m : Mem U.D} {cs ms : List (VV U.D)} (h : mvdL m cs = some ms) : ms.length = cs.length ∧ ∀ (i : Nat) (c c' : VV U.D), cs[i]? = some c → ms[i]? = some c' → mvd m c = some c' := by
  induction cs generalizing ms with
  | nil => simp [mvdL] at h; subst h; exact ⟨rfl, fun i c c' hc => by simp at hc⟩
  | cons x xs ih =>
    simp only [mvdL] at h
    cases h1 : mvd m x with
    | none => rw [h1] at h; cases h
    | some y =>
      cases h2 : mvdL m xs with
      | none => rw [h1, h2] at h; cases h
      | some ys =>
        rw [h1, h2] at h
        cases h
        obtain ⟨h3, h4⟩ := ih h2
        refine ⟨by simp [h3], fun i c c' hc hc' => ?_⟩
        cases i with
        | zero => simp at hc hc'; subst hc; subst hc'; exact h1
        | succ i => exact h4 i c c' (by simpa using hc) (by simpa using hc')
theorem keysOf_mem {cs : List (VV U.D)} {p q : Nat} (h : cs[p]? = some (.ref q)) : q ∈ keysOf cs := by
  induction cs generalizing p with
  | nil => simp at h
  | cons x xs ih =>
    cases p with
    | zero => simp at h; subst h; simp [keysOf]
    | succ p => cases x <;> simp [keysOf] <;> first | exact ih (by simpa using h) | exact .inr (ih (by simpa using h))
theorem ref_unique {cs : List (VV U.D)} (hn : ndp (keysOf cs) = true) {p p' q : Nat} (h : cs[p]? = some (.ref q)) (h' : cs[p']? = some (.ref q)) : p = p' := by
  induction cs generalizing p p' with
  | nil => simp at h
  | cons x xs ih =>
    have tail : ndp (keysOf xs) = true := by cases x <;> simp [keysOf, ndp] at hn <;> first | exact hn | exact hn.2
    have noq : ∀ i : Nat, x = VV.ref q → xs[i]? = some (VV.ref q) → False := by
      intro i e hi
      subst e
      simp only [keysOf, ndp, Bool.and_eq_true, Bool.not_eq_true'] at hn
      have := hasK_iff.2 (keysOf_mem hi)
      rw [this] at hn
      exact Bool.noConfusion hn.1
    cases p with
    | zero =>
      cases p' with
      | zero => rfl
      | succ p' => exact (noq p' (by simpa using h) (by simpa using h')).elim
    | succ p =>
      cases p' with
      | zero => exact (noq p (by simpa using h') (by simpa using h)).elim
      | succ p' => exact congrArg (· + 1) (ih tail (by simpa using h) (by simpa using h'))
theorem mget_gone (m : Mem U.D) : ∀ (cs : List (VV U.D)) (q : Nat), mget (mupd m (gone cs)) q = if q ∈ keysOf cs then none else mget m q := by
  intro cs
  induction cs generalizing m with
  | nil => intro q; simp [gone, mupd, keysOf]
  | cons x xs ih =>
    intro q
    cases x <;> simp only [gone, mupd, keysOf] <;> try exact ih m q
    rename_i κ
    rw [ih, mget_mdel]
    by_cases h1 : q ∈ keysOf xs
    · simp [h1]
    · by_cases h2 : q = κ
      · simp [h2]
      · simp [h1, h2]
theorem RO.moved (PL : Ulaw U) (h : MRel U C L s.m w) {c c' : VV U.D} {v : Value} (hv : RV U C.F C.w0 L c v) (hm : mvd s.m c = some c') {w1 : World} (hw : ∀ q, c = .ref q → ∀ b, L.cl b = q + 1 → w1.heap[b]? = w.heap[b]?)
    {ok : Nat → Prop} (hok : ∀ q, c = .ref q → ∀ b, L.cl b = q + 1 → ok b) : RO U w1 ok c' v := by
  cases c <;> simp only [mvd] at hm <;> try (cases hm)
  case int k n => rw [hv.int_inv]; exact .int _ _
  case lit b => rw [RV.bool_inv rfl hv]; exact .bool rfl
  case bv b => rw [RV.bool_inv rfl hv]; exact .bool rfl
  case nb b => rw [RV.bool_inv rfl hv]; exact .bool rfl
  case bp p d => rw [RV.bool_inv rfl hv]; exact .bool rfl
  case np p d => rw [RV.bool_inv rfl hv]; exact .bool rfl
  case nil => rw [hv.nil_inv]; exact .nil
  case ref κ =>
    cases hg : mget s.m κ with
    | none => rw [hg] at hm; cases hm
    | some b =>
      rw [hg] at hm
      cases b with
      | row k xs =>
        cases hm
        rw [hv.ref_inv]
        exact ((h.me κ _ hg).1.stay (fun b hb => hw κ rfl b hb)).mono (fun b hb => hok κ rfl b hb)
      | _ => cases hm
theorem mkAll_inv (PL : Ulaw U) {k : Nat} : ∀ {n : Nat} {ms : List (VV U.D)} {xs : List (U.D k)}, mkAll U k (U.sz k) n ms = some xs → xs.length = n ∧ ∀ (i : Nat) (x : U.D k), xs[i]? = some x → U.mkE k ((ms.drop (i * U.sz k)).take (U.sz k)) = some x
  | 0, ms, xs, h => by simp [mkAll] at h; subst h; exact ⟨rfl, fun i x hx => by simp at hx⟩
  | n + 1, ms, xs, h => by
    simp only [mkAll] at h
    cases h1 : U.mkE k (ms.take (U.sz k)) with
    | none => rw [h1] at h; cases h
    | some y =>
      cases h2 : mkAll U k (U.sz k) n (ms.drop (U.sz k)) with
      | none => rw [h1, h2] at h; cases h
      | some ys =>
        rw [h1, h2] at h
        cases h
        obtain ⟨h3, h4⟩ := mkAll_inv PL h2
        refine ⟨by simp [h3], fun i x hx => ?_⟩
        cases i with
        | zero => simp at hx; subst hx; simpa using h1
        | succ i =>
          have := h4 i x (by simpa using hx)
          rw [List.drop_drop] at this
          rw [Nat.add_mul, Nat.one_mul, Nat.add_comm]
          exact this
open Classical in
theorem RO_build (PL : Ulaw U) (h : MRel U C L s.m w) {cs ms : List (VV U.D)} {A : Array Value} {k n : Nat} {xs : List (U.D k)} (hfr : FR U C.F C.w0 L cs A) (hm : mvdL s.m cs = some ms) (hx : mkAll U k (U.sz k) n ms = some xs)
    (hn : ndp (keysOf cs) = true) (hlen : cs.length = n * U.sz k) (hnk : n ≤ 9223372036854775807) (ok : Nat → Prop) (hok0 : ok w.heap.size) (hok : ∀ q ∈ keysOf cs, ∀ b, L.cl b = q + 1 → ok b) :
    RO U (w.alloc (.cells A k (0, 0))) ok (.tree k xs) (.slice (some ⟨w.heap.size, 0, none⟩) n n) := by
  obtain ⟨hxl, hxs⟩ := mkAll_inv PL hx
  obtain ⟨hml, hms⟩ := mvdL_inv hm
  subst hxl
  refine .tree (fun b => if h : ∃ p : Nat, cs[p]? = some (VV.ref (L.cl b - 1)) then Classical.choose h else 0) hok0 heap_alloc_self (Nat.le_refl _) hnk (by rw [Nat.zero_add, ← hlen, hfr.1]; exact Nat.le_refl _) (fun i x j c hi hj => ?_)
  have hp := mul_fit (idx_lt hi) (cell_lt PL hj)
  have hjs := cell_lt PL hj
  obtain ⟨hl1, hl2⟩ := PL.mke _ _ _ (hxs i x hi)
  rw [Nat.zero_add]
  have hpc : i * U.sz k + j < cs.length := by rw [hlen]; exact hp
  have hpm : i * U.sz k + j < ms.length := by rw [hml]; exact hpc
  have hpA : i * U.sz k + j < A.size := by rw [← hfr.1]; exact hpc
  have hmj : ((ms.drop (i * U.sz k)).take (U.sz k))[j]? = some ms[i * U.sz k + j] := by
    rw [List.getElem?_take, if_pos hjs, List.getElem?_drop, List.getElem?_eq_getElem hpm]
  have hle := hl2 j c _ hj hmj
  have hmv := hms _ _ _ (List.getElem?_eq_getElem hpc) (List.getElem?_eq_getElem hpm)
  obtain ⟨hrv, -⟩ := hfr.2 _ _ _ (List.getElem?_eq_getElem hpc) (Array.getElem?_eq_getElem hpA)
  have hA : A.getD (i * U.sz k + j) (.bool false) = A[i * U.sz k + j] := by simp [Array.getD, hpA]
  rw [hA]
  refine (RO.moved PL h hrv hmv (fun q hq b hb => heap_alloc (h.hl b (by omega))) (fun q hq b hb => ?_)).le hle
  have hcp : cs[i * U.sz k + j]? = some (.ref q) := by rw [List.getElem?_eq_getElem hpc, hq]
  refine ⟨hok q (keysOf_mem hcp) b hb, ?_, ?_⟩
  · have := h.hl b (by omega); omega
  · have e : L.cl b - 1 = q := by omega
    have hex : ∃ p : Nat, cs[p]? = some (VV.ref (L.cl b - 1)) := ⟨i * U.sz k + j, by rw [hcp, e]⟩
    rw [dif_pos hex]
    have h1 := Classical.choose_spec hex
    generalize hgen : Classical.choose hex = p at h1 ⊢
    rw [e] at h1
    exact ref_unique hn h1 hcp
theorem setl_app : ∀ (vs pre mid : List (VV U.D)), vs.length ≤ mid.length → setl (pre ++ mid) pre.length vs = pre ++ vs ++ mid.drop vs.length
  | [], pre, mid, _ => by simp [setl]
  | v :: vs, pre, [], h => by simp at h
  | v :: vs, pre, x :: mid, h => by
    have h1 : (pre ++ x :: mid).set pre.length v = (pre ++ [v]) ++ mid := by simp
    have h2 : pre.length + 1 = (pre ++ [v]).length := by simp
    rw [setl, h1, h2, setl_app vs (pre ++ [v]) mid (by simpa using h)]
    simp
theorem fill_seq (hR : Rel U C L s a w) (sz : Nat) : ∀ (ps : List (Nat × Operand)) (i n : Nat) (pre ds : List (VV U.D)) (A : Array Value), (∀ p ∈ ps, opOk p.2 = true) → idxOk (ps.map fun p => p.1) i n = true →
    flAll sz (ps.map fun p => YtpdnnndedejlhaaGreatV.ev s.t p.2) = some ds → pre.length = i * sz → FR U C.F C.w0 L (pre ++ List.replicate ds.length .junk) A →
    ∃ A', Instr.fill (fun i => some (i * sz, sz)) A (ps.map fun p => (p.1, a.eval p.2)) = some A' ∧ FR U C.F C.w0 L (pre ++ ds) A' ∧ (pre ++ ds).length = n * sz
  | [], i, n, pre, ds, A, _, hi, hf, hp, h => by
    simp [flAll] at hf
    subst hf
    simp only [List.map_nil, idxOk] at hi
    have := Nat.eq_of_beq_eq_true hi
    subst this
    exact ⟨A, rfl, by simpa using h, by simpa using hp⟩
  | (j, x) :: ps, i, n, pre, ds, A, hx, hi, hf, hp, h => by
    simp only [List.map_cons, idxOk, Bool.and_eq_true] at hi
    have := Nat.eq_of_beq_eq_true hi.1
    subst this
    simp only [List.map_cons, flAll] at hf
    cases h1 : flO (YtpdnnndedejlhaaGreatV.ev s.t x) with
    | none => rw [h1] at hf; cases hf
    | some cs =>
      rw [h1] at hf
      simp only at hf
      cases hb : Nat.beq cs.length sz with
      | false => rw [hb] at hf; cases hf
      | true =>
        simp only [hb, cond_true] at hf
        have hcl : cs.length = sz := Nat.eq_of_beq_eq_true hb
        cases h2 : flAll sz (ps.map fun p => YtpdnnndedejlhaaGreatV.ev s.t p.2) with
        | none => rw [h2] at hf; cases hf
        | some es =>
          rw [h2] at hf
          cases hf
          have hv := (hR.ev x (hx _ List.mem_cons_self)).one hR.rvo h1
          have hsz : (a.eval x).cells.size = sz := by rw [← hv.1, hcl]
          have hAs : A.size = i * sz + (cs.length + es.length) := by rw [← h.1]; simp [hp]
          have h3 := FR.setl cs (a.eval x).cells.toList _ A (i * sz) 0 h (by rw [hv.1]; simp) (fun q c u hc hu => hv.2 q c u hc (by rw [← Array.getElem?_toList]; exact hu))
          rw [Nat.add_zero, ← zipIdx_foldl, ← hp, setl_app cs pre _ (by simp), List.length_append, List.drop_replicate, Nat.add_sub_cancel_left] at h3
          obtain ⟨A', h4, h5, h6⟩ := fill_seq hR sz ps (i + 1) n (pre ++ cs) es _ (fun p hp => hx p (List.mem_cons_of_mem _ hp)) hi.2 h2 (by rw [List.length_append, hp, hcl, Nat.add_mul, Nat.one_mul]) h3
          refine ⟨A', ?_, by rw [← List.append_assoc]; exact h5, by rw [← List.append_assoc]; exact h6⟩
          have hle : ¬ (i * sz + (a.eval x).cells.size > A.size) := by rw [hsz, hAs]; omega
          simp only [List.map_cons, Instr.fill]
          rw [if_neg (by simp [hsz] at hle ⊢; omega)]
          rw [hp] at h4
          exact h4
theorem zeros_one {T : TY} {N : Nat} {z : Array Value} (hz : z = (T.z.map zval).toArray) (q : Nat) (v : Value) (hv : ((Array.range N).map (z[· % z.size]!))[q]? = some v) (hN : z.size ≠ 0) : v.oneCell' = true := by
  rw [Array.getElem?_map] at hv
  cases hq : (Array.range N)[q]? with
  | none => rw [hq] at hv; cases hv
  | some p =>
    rw [hq] at hv
    simp only [Option.map_some, Option.some.injEq] at hv
    have hlt : p % z.size < z.size := Nat.mod_lt _ (by omega)
    have hmem : z[p % z.size]! ∈ z := by
      rw [getElem!_pos z (p % z.size) hlt]; exact Array.getElem_mem hlt
    rw [hv, hz] at hmem
    simp only [List.mem_toArray, List.mem_map] at hmem
    obtain ⟨c, -, rfl⟩ := hmem
    cases c <;> rfl
theorem RV.ref_at {F : Nat → Prop} {w0 : World} {L : Lc} {κ g o s n : Nat} {v : Value} (cl : Nat → Nat) : RV U F w0 (L.at κ g o s n v cl) (.ref κ) v := by
  have : RV U F w0 (L.at κ g o s n v cl) (.ref κ) ((L.at κ g o s n v cl).rv κ) := .ref κ
  simpa [Lc.at] using this
open Classical in
theorem d_row (PL : Ulaw U) (hR : Rel U C L s a w) {k n : Nat} {cs ms : List (VV U.D)} {A : Array Value} {xs : List (U.D k)} (hfr : FR U C.F C.w0 L cs A) (hm : mvdL s.m cs = some ms) (hx : mkAll U k (U.sz k) n ms = some xs)
    (hn : ndp (keysOf cs) = true) (hlen : cs.length = n * U.sz k) (hnk : n ≤ 9223372036854775807) (hmen : ∀ κ ∈ menL cs, κ ∈ menL s.t)
    (hrun : (execOp a.eval o).run P w = .ok (.value (.slice (some ⟨w.heap.size, 0, none⟩) n n)) (w.alloc (.cells A k (0, 0)))) (hm0 : mget s.m (64 * d) = none)
    (hnw : newOk s ((64 * d, some (Blk.row k xs)) :: gone cs) = true) : Does P U C L s o a w (.ref (64 * d)) ((64 * d, some (.row k xs)) :: gone cs) := by
  have hf : (64 * d) ∉ menL s.t ∧ (64 * d) ∉ menM s.m := by
    rcases newOk_inv hnw List.mem_cons_self with ⟨b', hb'⟩ | h
    · rw [hm0] at hb'; cases hb'
    · exact h
  have hne : ∀ κ, (κ ∈ menL s.t ∨ κ ∈ menM s.m) → κ ≠ 64 * d := by
    rintro κ (h | h) rfl
    · exact hf.1 h
    · exact hf.2 h
  have hxl := (mkAll_inv PL hx).1
  refine ⟨_, _, _, .inl hrun, hR.toMRel.new (κ := 64 * d) (o := 0) (s := U.sz k) (n := n) (v := .slice (some ⟨w.heap.size, 0, none⟩) n n) (b := .row k xs) (fun q => q ∈ keysOf cs) (fun q c hq => ?_) rfl ?_, ?_, rfl, fun κ hk => L.at_ne (hne κ hk)⟩
  · simp only [mupd, mget_gone, mget_mput] at hq
    by_cases hk : q ∈ keysOf cs
    · rw [if_pos hk] at hq; cases hq
    · rw [if_neg hk] at hq
      by_cases e : q = 64 * d
      · rw [if_pos e] at hq; cases hq; exact .inl ⟨e, rfl⟩
      · rw [if_neg e] at hq
        exact .inr ⟨e, hk, hq, fun h => hf.2 (menM_mem hq h)⟩
  · refine ⟨?_, by simp [Lc.at, hxl], fun g o' n' c' he => by simp [Lc.at] at he ⊢; exact ⟨he.1.1, he.1.2⟩⟩
    have h1 := RO_build PL hR.toMRel hfr hm hx hn hlen hnk (fun b => (if b = w.heap.size then 64 * d + 1 else if ∃ q, q ∈ keysOf cs ∧ L.cl b = q + 1 then 64 * d + 1 else L.cl b) = 64 * d + 1) (by simp)
      (fun q hq b hb => by
        by_cases e : b = w.heap.size
        · simp [e]
        · rw [if_neg e, if_pos ⟨q, hq, hb⟩])
    rw [hxl.symm] at h1 ⊢
    simpa [Lc.at] using h1
  · exact RV.ref_at _
theorem bmvL_inv {m : Mem U.D} {cs ms : List (VV U.D)} (h : bmvL m cs = some ms) : ms.length = cs.length ∧ ∀ (i : Nat) (c c' : VV U.D), cs[i]? = some c → ms[i]? = some c' → bmv m c = some c' := by
  induction cs generalizing ms with
  | nil => simp [bmvL] at h; subst h; exact ⟨rfl, fun i c c' hc => by simp at hc⟩
  | cons x xs ih =>
    simp only [bmvL] at h
    cases h1 : bmv m x with
    | none => rw [h1] at h; cases h
    | some y =>
      cases h2 : bmvL m xs with
      | none => rw [h1, h2] at h; cases h
      | some ys =>
        rw [h1, h2] at h
        cases h
        obtain ⟨h3, h4⟩ := ih h2
        refine ⟨by simp [h3], fun i c c' hc hc' => ?_⟩
        cases i with
        | zero => simp at hc hc'; subst hc; subst hc'; exact h1
        | succ i => exact h4 i c c' (by simpa using hc) (by simpa using hc')
theorem RC.moved (PL : Ulaw U) (h : MRel U C L s.m w) {c c' : VV U.D} {v : Value} (hv : RV U C.F C.w0 L c v) (hm : bmv s.m c = some c') {w1 : World} (hw : ∀ q, c = .ref q → ∀ b, L.cl b = q + 1 → w1.heap[b]? = w.heap[b]?)
    {ok : Nat → Prop} (hok : ∀ q, c = .ref q → ∀ b, L.cl b = q + 1 → ok b) : RC U C.F C.w0 c' v ∨ RC U ok w1 c' v := by
  cases c <;> simp only [bmv] at hm
  case tree k xs => cases hm; exact .inl hv.tree_inv
  all_goals exact .inr ((RO.moved PL h hv hm hw hok).rc PL)
open Classical in
theorem d_brow (PL : Ulaw U) (hR : Rel U C L s a w) {k n : Nat} {cs ms : List (VV U.D)} {A : Array Value} {xs : List (U.D k)} (hfr : FR U C.F C.w0 L cs A) (hm : bmvL s.m cs = some ms) (hx : mkAll U k (U.sz k) n ms = some xs)
    (hn : ndp (keysOf cs) = true) (hlen : cs.length = n * U.sz k) (hmen : ∀ κ ∈ menL cs, κ ∈ menL s.t)
    (hrun : (execOp a.eval o).run P w = .ok (.value (.slice (some ⟨w.heap.size, 0, none⟩) n n)) (w.alloc (.cells A k (0, 0)))) (hm0 : mget s.m (64 * d) = none)
    (hnw : newOk s ((64 * d, some (Blk.brow k xs)) :: gone cs) = true) : Does P U C L s o a w (.ref (64 * d)) ((64 * d, some (.brow k xs)) :: gone cs) := by
  have hf : (64 * d) ∉ menL s.t ∧ (64 * d) ∉ menM s.m := by
    rcases newOk_inv hnw List.mem_cons_self with ⟨b', hb'⟩ | h
    · rw [hm0] at hb'; cases hb'
    · exact h
  have hne : ∀ κ, (κ ∈ menL s.t ∨ κ ∈ menM s.m) → κ ≠ 64 * d := by
    rintro κ (h | h) rfl
    · exact hf.1 h
    · exact hf.2 h
  obtain ⟨hxl, hxs⟩ := mkAll_inv PL hx
  obtain ⟨hml, hms⟩ := bmvL_inv hm
  refine ⟨_, _, _, .inl hrun, hR.toMRel.new (κ := 64 * d) (o := 0) (s := U.sz k) (n := n) (v := .slice (some ⟨w.heap.size, 0, none⟩) n n) (b := .brow k xs) (fun q => q ∈ keysOf cs) (fun q c hq => ?_) rfl ?_, ?_, rfl, fun κ hk => L.at_ne (hne κ hk)⟩
  · simp only [mupd, mget_gone, mget_mput] at hq
    by_cases hk : q ∈ keysOf cs
    · rw [if_pos hk] at hq; cases hq
    · rw [if_neg hk] at hq
      by_cases e : q = 64 * d
      · rw [if_pos e] at hq; cases hq; exact .inl ⟨e, rfl⟩
      · rw [if_neg e] at hq
        exact .inr ⟨e, hk, hq, fun h => hf.2 (menM_mem hq h)⟩
  · refine ⟨n, A, by simp [Lc.at, hxl], by simp [Lc.at], by simp [Lc.at, hxl], by simp [Lc.at], by simp only [Lc.at, if_true]; exact heap_alloc_self, by omega, by simp only [Lc.at, if_true, Nat.zero_add]; rw [← hlen, hfr.1]; exact Nat.le_refl _, fun i x j c hi hj => ?_⟩
    have hp := mul_fit (idx_lt hi) (cell_lt PL hj)
    rw [hxl] at hp
    have hjs := cell_lt PL hj
    obtain ⟨hl1, hl2⟩ := PL.mke _ _ _ (hxs i x hi)
    have hpc : i * U.sz k + j < cs.length := by rw [hlen]; exact hp
    have hpm : i * U.sz k + j < ms.length := by rw [hml]; exact hpc
    have hpA : i * U.sz k + j < A.size := by rw [← hfr.1]; exact hpc
    have hmj : ((ms.drop (i * U.sz k)).take (U.sz k))[j]? = some ms[i * U.sz k + j] := by
      rw [List.getElem?_take, if_pos hjs, List.getElem?_drop, List.getElem?_eq_getElem hpm]
    have hle := hl2 j c _ hj hmj
    have hmv := hms _ _ _ (List.getElem?_eq_getElem hpc) (List.getElem?_eq_getElem hpm)
    obtain ⟨hrv, -⟩ := hfr.2 _ _ _ (List.getElem?_eq_getElem hpc) (Array.getElem?_eq_getElem hpA)
    have hA : A.getD (i * U.sz k + j) (.bool false) = A[i * U.sz k + j] := by simp [Array.getD, hpA]
    have e0 : ∀ cl : Nat → Nat, (L.at (64 * d) w.heap.size 0 (U.sz k) n (.slice (some ⟨w.heap.size, 0, none⟩) n n) cl).bo (64 * d) = 0 := fun cl => by simp [Lc.at]
    rw [e0, Nat.zero_add, hA]
    have := RC.moved PL hR.toMRel hrv hmv (w1 := w.alloc (.cells A k (0, 0))) (ok := fun b => (if b = w.heap.size then 64 * d + 1 else if ∃ q, q ∈ keysOf cs ∧ L.cl b = q + 1 then 64 * d + 1 else L.cl b) = 64 * d + 1) (fun q hq b hb => heap_alloc (hR.toMRel.hl b (by omega))) (fun q hq b hb => by
      have hcp : cs[i * U.sz k + j]? = some (.ref q) := by rw [List.getElem?_eq_getElem hpc, hq]
      by_cases e : b = w.heap.size
      · simp [e]
      · rw [if_neg e, if_pos ⟨q, keysOf_mem hcp, hb⟩])
    rcases this with h | h
    · exact .inl (h.le hle)
    · exact .inr (by simpa [Lc.at] using h.le hle)
  · exact RV.ref_at _
theorem flAll_men {sz : Nat} : ∀ (vs : List (VV U.D)) {ds : List (VV U.D)}, flAll sz vs = some ds → ∀ κ ∈ menL ds, κ ∈ menL vs
  | [], ds, h, κ, hk => by simp [flAll] at h; subst h; simp [menL] at hk
  | v :: vs, ds, h, κ, hk => by
    simp only [flAll] at h
    cases h1 : flO v with
    | none => rw [h1] at h; cases h
    | some cs =>
      rw [h1] at h
      simp only at h
      cases hb : Nat.beq cs.length sz with
      | false => rw [hb] at h; cases h
      | true =>
        simp only [hb, cond_true] at h
        cases h2 : flAll sz vs with
        | none => rw [h2] at h; cases h
        | some es =>
          rw [h2] at h
          cases h
          have app : ∀ (l : List (VV U.D)), κ ∈ menL (l ++ es) → κ ∈ menL l ∨ κ ∈ menL es := by
            intro l
            induction l with
            | nil => intro h; exact .inr h
            | cons y ys ih =>
              intro h
              rw [List.cons_append, menL] at h
              rw [menL]
              rcases List.mem_append.1 h with h | h
              · exact .inl (List.mem_append_left _ h)
              · rcases ih h with h | h
                · exact .inl (List.mem_append_right _ h)
                · exact .inr h
          rw [menL]
          rcases app cs hk with h | h
          · exact List.mem_append_left _ (men_flO h1 h)
          · exact List.mem_append_right _ (flAll_men vs h2 κ h)
theorem menL_ev {ps : List Operand} {κ : Nat} (h : κ ∈ menL (ps.map (YtpdnnndedejlhaaGreatV.ev s.t))) : κ ∈ menL s.t := by
  induction ps with
  | nil => simp [menL] at h
  | cons x xs ih =>
    rw [List.map_cons, menL] at h
    rcases List.mem_append.1 h with h | h
    · exact men_ev h
    · exact ih h
theorem d_buildSlice (PL : Plaw P U) (hR : Rel U C L s a w) {t n : Nat} {ps : Array (Nat × Operand)} (ho : o.op = .buildSlice t n ps) (hx : ∀ p ∈ ps, opOk p.2 = true) (h : Vop U E (.buildSlice t n ps) d (ev s.t) s.m K = some r) :
    ∃ c u, K c u = some r ∧ (newOk s u = true → Does P U C L s o a w c u) := by
  simp only [Vop] at h
  cases hT : U.ti t with
  | none => rw [hT] at h; cases h
  | some T =>
    rw [hT] at h
    simp only at h
    cases hTd : T.d with
    | sl e =>
      rw [hTd] at h
      simp only at h
      cases hb : (slK U t e && idxOk (ps.toList.map fun p => p.1) 0 n && Nat.ble (n * U.sz e + n) 16777216) with
      | false => rw [hb] at h; cases h
      | true =>
        simp only [hb, cond_true] at h
        simp only [Bool.and_eq_true] at hb
        obtain ⟨hu, Te, i, z, h1, h2, h3, h4, h5, h6, h7, h8⟩ := slK_inv PL hb.1.1
        have hbig0 : n * U.sz e + n ≤ 16777216 := Nat.le_of_ble_eq_true hb.2
        have hbig : n * U.sz e ≤ 16777216 := by omega
        cases hfl : flAll (U.sz e) (ps.toList.map fun p => YtpdnnndedejlhaaGreatV.ev s.t p.2) with
        | none => rw [hfl] at h; cases h
        | some cs =>
          rw [hfl] at h
          simp only at h
          cases hn : ndp (keysOf cs) with
          | false => rw [hn] at h; cases h
          | true =>
            simp only [hn, cond_true] at h
            obtain ⟨B, h, hdo⟩ : ∃ B : Blk U.D, nw s.m (64 * d) (K (.ref (64 * d)) ((64 * d, some B) :: gone cs)) = some r ∧ ∀ A : Array Value, FR U C.F C.w0 L cs A → cs.length = n * U.sz e → (∀ κ ∈ menL cs, κ ∈ menL s.t) →
                (execOp a.eval o).run P w = .ok (.value (.slice (some ⟨w.heap.size, 0, none⟩) n n)) (w.alloc (.cells A e (0, 0))) → mget s.m (64 * d) = none → newOk s ((64 * d, some B) :: gone cs) = true → Does P U C L s o a w (.ref (64 * d)) ((64 * d, some B) :: gone cs) := by
              cases hm : mvdL s.m cs with
              | none =>
                rw [hm] at h
                simp only at h
                cases hm2 : bmvL s.m cs with
                | none => rw [hm2] at h; cases h
                | some ms =>
                  rw [hm2] at h
                  simp only at h
                  cases hmk : mkAll U e (U.sz e) n ms with
                  | none => rw [hmk] at h; cases h
                  | some xs =>
                    rw [hmk] at h
                    exact ⟨_, h, fun A h1 h2 h3 h4 h5 h6 => d_brow PL.toUlaw hR h1 hm2 hmk hn h2 h3 h4 h5 h6⟩
              | some ms =>
                rw [hm] at h
                simp only at h
                cases hmk : mkAll U e (U.sz e) n ms with
                | none => rw [hmk] at h; cases h
                | some xs =>
                  rw [hmk] at h
                  exact ⟨_, h, fun A h1 h2 h3 h4 h5 h6 => d_row PL.toUlaw hR h1 hm hmk hn h2 (by omega) h3 h4 h5 h6⟩
            obtain ⟨hm0, hK⟩ := nw_inv h
            have hzs : z.cells.size = U.sz e := by rw [h8, ← h2, ← h3.zl]; simp
            have hA0 : n * U.sz e ≠ 0 → ∀ (q : Nat) (v : Value), ((Array.range (n * U.sz e)).map (z.cells[· % z.cells.size]!))[q]? = some v → v.oneCell' = true := by
              intro hne q v hv
              exact zeros_one h8 q v hv (by rw [hzs]; intro h0; rw [h0] at hne; simp at hne)
            have hmen : ∀ κ ∈ menL cs, κ ∈ menL s.t := fun κ hk => menL_ev (ps := ps.toList.map fun p => p.2) (by rw [List.map_map]; exact flAll_men _ hfl κ hk)
            have hmap : (ps.map fun (i, x) => (i, a.eval x)).toList = ps.toList.map fun p => (p.1, a.eval p.2) := by simp
            have hxs : ∀ p ∈ ps.toList, opOk p.2 = true := fun p hp => hx p (Array.mem_toList_iff.1 hp)
            by_cases hne : n * U.sz e = 0
            · obtain ⟨A', hf1, hf2, hf3⟩ := fill_seq hR (U.sz e) ps.toList 0 n [] cs #[] hxs hb.1.2 hfl (by simp) (by
                have : cs.length = 0 := by
                  obtain ⟨A', -, -, h⟩ := fill_seq hR (U.sz e) ps.toList 0 n [] cs (List.replicate cs.length (.bool false)).toArray hxs hb.1.2 hfl (by simp)
                    ⟨by simp, fun i c v hc hv => ⟨by
                      simp [List.getElem?_replicate] at hc
                      obtain ⟨-, rfl⟩ := hc
                      exact .junk _, by
                      rw [← Array.getElem?_toList] at hv
                      simp [List.getElem?_replicate] at hv
                      obtain ⟨-, rfl⟩ := hv
                      rfl⟩⟩
                  rw [hne] at h; simpa using h
                rw [this]
                exact ⟨rfl, fun i c v hc => by simp at hc⟩)
              refine ⟨_, _, hK, fun hnw => hdo A' hf2 hf3 hmen ?_ hm0 hnw⟩
              have hA : A' = #[] := by
                have h0 : A'.size = 0 := by rw [← hf2.1, hf3, hne]
                exact Array.eq_empty_of_size_eq_zero h0
              rw [hA] at hf1 ⊢
              have hz2 : (Array.range (n * U.sz e)).map (fun x => (#[] : Array Value)[x % (#[] : Array Value).size]!) = #[] := by rw [hne]; simp
              simp [execOp, ho, Sem.run, Instr.buildSlice, run_underlying hu, sizeOf, typeInfo, h4, h5, hne, newRow]
              have hr0 : (Array.map (fun _ => (default : Value)) (Array.range 0)) = #[] := by simp
              rw [hr0, hf1]
              simp [newObj, Sem.run]
            · obtain ⟨A', hf1, hf2, hf3⟩ := fill_seq hR (U.sz e) ps.toList 0 n [] cs ((Array.range (n * U.sz e)).map (z.cells[· % z.cells.size]!)) hxs hb.1.2 hfl (by simp) (by
                obtain ⟨A', -, -, h⟩ := fill_seq hR (U.sz e) ps.toList 0 n [] cs (List.replicate cs.length (.bool false)).toArray hxs hb.1.2 hfl (by simp)
                  ⟨by simp, fun i c v hc hv => ⟨by
                    simp [List.getElem?_replicate] at hc
                    obtain ⟨-, rfl⟩ := hc
                    exact .junk _, by
                    rw [← Array.getElem?_toList] at hv
                    simp [List.getElem?_replicate] at hv
                    obtain ⟨-, rfl⟩ := hv
                    rfl⟩⟩
                have hcl : cs.length = n * U.sz e := by simpa using h
                refine ⟨by simp [hcl], fun i c v hc hv => ⟨?_, hA0 hne i v hv⟩⟩
                simp [List.getElem?_replicate] at hc
                obtain ⟨-, rfl⟩ := hc
                exact .junk _)
              refine ⟨_, _, hK, fun hnw => hdo A' hf2 hf3 hmen ?_ hm0 hnw⟩
              have hrun := run_buildSlice (P := P) w t e n (ps.map fun (i, x) => (i, a.eval x)) A' i z hu h4 h7 (by rw [h5]; omega) (by rw [h5]; exact hne) (by rw [h5, hmap]; exact hf1)
              simp only [execOp, ho, Sem.run_bind, hrun]
              simp [Sem.run]
    | _ => rw [hTd] at h; cases h
end
end Go.Proofs.YtpdnnndedejlhaaGreatV
/- make, and stores. -/
namespace Go.Proofs.YtpdnnndedejlhaaGreatV
open Go
set_option linter.unusedVariables false
set_option linter.unusedSimpArgs false
variable {U : Uni} {P : Program} {R : Type}
def wr (A : Array Value) (o : Nat) : List Value → Array Value
  | [] => A
  | v :: vs => wr (A.setIfInBounds o v) (o + 1) vs
theorem wr_size : ∀ (vs : List Value) (A : Array Value) (o : Nat), (wr A o vs).size = A.size
  | [], _, _ => rfl
  | v :: vs, A, o => by rw [wr, wr_size, Array.size_setIfInBounds]
theorem wr_out : ∀ (vs : List Value) (A : Array Value) (o i : Nat), (i < o ∨ o + vs.length ≤ i) → (wr A o vs)[i]? = A[i]?
  | [], _, _, _, _ => rfl
  | v :: vs, A, o, i, h => by
    rw [wr, wr_out vs _ _ _ (by simp at h; omega), Array.getElem?_setIfInBounds_ne (by simp at h; omega)]
theorem wr_in : ∀ (vs : List Value) (A : Array Value) (o j : Nat) (v : Value), vs[j]? = some v → o + vs.length ≤ A.size → (wr A o vs)[o + j]? = some v
  | [], _, _, _, _, h, _ => by simp at h
  | x :: vs, A, o, 0, v, h, hs => by
    have e : x = v := by simpa using h
    subst e
    rw [wr, wr_out vs _ _ _ (by left; omega), Nat.add_zero, Array.getElem?_setIfInBounds_self_of_lt (by simp at hs; omega)]
  | x :: vs, A, o, j + 1, v, h, hs => by
    rw [wr, show o + (j + 1) = (o + 1) + j by omega]
    exact wr_in vs _ _ _ _ (by simpa using h) (by simp at hs ⊢; omega)
theorem setCells_heap {g e : Nat} {fz : Nat × Nat} : ∀ (vs : List Value) (o : Nat) (w : World) (cur : Array Value), w.heap[g]? = some (.cells cur e fz) →
    (w.setCells g o vs).heap[g]? = some (.cells (wr cur o vs) e fz) ∧ (∀ k, k ≠ g → (w.setCells g o vs).heap[k]? = w.heap[k]?) ∧ (w.setCells g o vs).os = w.os ∧ (w.setCells g o vs).tape = w.tape ∧ (w.setCells g o vs).output = w.output ∧
      (w.setCells g o vs).heap.size = w.heap.size
  | [], o, w, cur, h => ⟨h, fun _ _ => rfl, rfl, rfl, rfl, rfl⟩
  | v :: vs, o, w, cur, h => by
    have h1 : (w.setCell ⟨g, o, none⟩ v).heap[g]? = some (.cells (cur.setIfInBounds o v) e fz) := by
      simp [World.setCell, Array.getElem?_modify, h]
    have h2 : ∀ k, k ≠ g → (w.setCell ⟨g, o, none⟩ v).heap[k]? = w.heap[k]? := by
      intro k hk
      simp [World.setCell, Array.getElem?_modify, Ne.symm hk]
    obtain ⟨a1, a2, a3, a4, a5, a6⟩ := setCells_heap vs (o + 1) (w.setCell ⟨g, o, none⟩ v) _ h1
    rw [World.setCells]
    exact ⟨a1, fun k hk => (a2 k hk).trans (h2 k hk), a3, a4, a5, by rw [a6]; simp⟩
section
variable {C : Fr} {L : Lc} {s : St U.D} {a : Act} {w : World} {E : Nat → List (Con U)} {d : Nat} {K : VV U.D → Upd U.D → Option R} {r : R} {o : Oper}
theorem setl_get_out : ∀ (vs cs : List (VV U.D)) (j i : Nat), (i < j ∨ j + vs.length ≤ i) → (setl cs j vs)[i]? = cs[i]?
  | [], _, _, _, _ => rfl
  | v :: vs, cs, j, i, h => by
    rw [setl, setl_get_out vs _ _ _ (by simp at h; omega), List.getElem?_set_ne (by simp at h; omega)]
theorem setl_get_in : ∀ (vs cs : List (VV U.D)) (j q : Nat) (c : VV U.D), vs[q]? = some c → j + vs.length ≤ cs.length → (setl cs j vs)[j + q]? = some c
  | [], _, _, _, _, h, _ => by simp at h
  | x :: vs, cs, j, 0, c, h, hs => by
    have e : x = c := by simpa using h
    subst e
    rw [setl, setl_get_out vs _ _ _ (by left; omega), Nat.add_zero, List.getElem?_set_self (by simp at hs; omega)]
  | x :: vs, cs, j, q + 1, c, h, hs => by
    rw [setl, show j + (q + 1) = (j + 1) + q by omega]
    exact setl_get_in vs _ _ _ _ (by simpa using h) (by simp at hs ⊢; omega)
theorem run_store_cells {t : Nat} {T : TY} (hok : TYok P t T) {g j : Nat} {cur : Array Value} {e : Nat} {v : Value} (hh : w.heap[g]? = some (.cells cur e (0, 0))) (hsz : v.cells.size = T.sz) (hfit : j + T.sz ≤ cur.size)
    (h1 : ∀ (i : Nat) (u : Value), v.cells[i]? = some u → u.oneCell' = true) : (Instr.storeAt t (.pointer (some ⟨g, j, none⟩)) v).run P w = .ok () (w.setCells g j v.cells.toList) := by
  obtain ⟨i, z, hi, hs, -⟩ := hok.inf
  have hst := run_storeCells_cells (P := P) g j v.cells.toList 0 w (fun q hq => by
      have h3 : j + q < cur.size := by simp at hq; omega
      simp only [World.cell?, hh]
      simp [h3]) (fun q hq => by simp [World.frozen?, hh]) (fun u hu => by
      obtain ⟨q, hq⟩ := List.mem_iff_getElem?.1 hu
      exact h1 q u (by rw [← Array.getElem?_toList]; exact hq))
  rw [Nat.add_zero] at hst
  simp [Instr.storeAt, Instr.sureAddr, storeVar, sizeOf, typeInfo, hi, hsz, hs, hst]
theorem d_store_box (PL : Plaw P U) (hR : Rel U C L s a w) {t κ j t0 : Nat} {T : TY} {x y : Operand} (ho : o.op = .store t x y) (hT : U.ti t = some T) (hx : opOk x = true) (hy : opOk y = true) {vs cs : List (VV U.D)} (hvs : flO (YtpdnnndedejlhaaGreatV.ev s.t y) = some vs)
    (hlen : vs.length = T.sz) (hp : YtpdnnndedejlhaaGreatV.ev s.t x = .ptr κ j) (hm : mget s.m κ = some (.box t0 cs)) (hfit : j + vs.length ≤ cs.length) : Does P U C L s o a w .junk [(κ, some (.box t0 (setl cs j vs)))] := by
  have hok := PL.ty t T hT
  have hvx := hR.ev x hx
  rw [hp] at hvx
  have ex := hvx.ptr_inv
  have hfr := (hR.ev y hy).one hR.rvo hvs
  obtain ⟨hcl, A, hA, hAn, hAl⟩ := hR.me κ _ hm
  have hsz : (a.eval y).cells.size = T.sz := by rw [← hfr.1, hlen]
  have hrun := run_store_cells hok hA hsz (by rw [← hAn, ← hlen]; exact hfit) (fun i u hu => (hfr.2 i _ u (List.getElem?_eq_getElem (by rw [hfr.1]; exact (Array.getElem?_eq_some_iff.1 hu).1)) hu).2)
  obtain ⟨b1, b2, b3, b4, b5, b6⟩ := setCells_heap (a.eval y).cells.toList j w A hA
  have hself : ∀ q, EqAt L L q := fun q => ⟨rfl, rfl, rfl, rfl, rfl, rfl⟩
  refine ⟨L, _, undef, .inr ⟨by simp only [execOp, ho, Sem.run_bind, ex, hrun]; rfl, rfl⟩, hR.toMRel.step (fun q b hb => ?_) (fun b hb => ?_) (fun b hb => ?_) hR.rvo (by rw [b6]; exact Nat.le_refl _) b3 b4 b5, .junk _, rfl, fun q _ => hself q⟩
  · simp only [mupd, mget_mput] at hb
    by_cases e : q = κ
    · rw [if_pos e] at hb
      cases hb
      subst e
      right
      refine ⟨hcl, _, b1, by rw [setl_len, wr_size]; exact hAn, fun i c v hc hv => ?_⟩
      by_cases hi : i < j ∨ j + vs.length ≤ i
      · rw [setl_get_out _ _ _ _ hi] at hc
        rw [wr_out _ _ _ _ (by simp [hsz, ← hlen]; exact hi)] at hv
        exact hAl i c v hc hv
      · have h2 : j ≤ i ∧ i < j + vs.length := by omega
        obtain ⟨q, rfl⟩ : ∃ q, i = j + q := ⟨i - j, by omega⟩
        have hq : q < vs.length := by omega
        have hq' : q < (a.eval y).cells.size := by rw [← hfr.1]; exact hq
        rw [setl_get_in _ _ _ _ _ (List.getElem?_eq_getElem hq) hfit] at hc
        rw [wr_in _ _ _ q ((a.eval y).cells[q]) (by simp [hq']) (by simp; rw [← hAn, hsz, ← hlen]; exact hfit)] at hv
        cases hc; cases hv
        exact hfr.2 q _ _ (List.getElem?_eq_getElem hq) (Array.getElem?_eq_getElem hq')
    · rw [if_neg e] at hb
      exact .inl ⟨hb, hself q, fun p _ => hself p, fun x hx => ⟨hx, b2 x (fun h => e (by rw [h, hcl] at hx; omega))⟩⟩
  · obtain ⟨h1, h2, h3⟩ := hR.g0 b hb
    exact ⟨h2, b2 b (fun h => by rw [h, hcl] at h2; omega)⟩
  · rw [b6]; exact hR.hl b hb
end
end Go.Proofs.YtpdnnndedejlhaaGreatV
/- Elements of a row are written; rows that are made, and cut. -/
namespace Go.Proofs.YtpdnnndedejlhaaGreatV
open Go
set_option linter.unusedVariables false
set_option linter.unusedSimpArgs false
variable {U : Uni} {P : Program} {R : Type}
section
variable {C : Fr} {L : Lc} {s : St U.D} {a : Act} {w : World} {E : Nat → List (Con U)} {d : Nat} {K : VV U.D → Upd U.D → Option R} {r : R} {o : Oper}
def Lc.recl (L : Lc) (cl : Nat → Nat) : Lc := { L with cl := cl }
theorem Lc.recl_eq (L : Lc) (cl : Nat → Nat) (q : Nat) : EqAt L (L.recl cl) q := ⟨rfl, rfl, rfl, rfl, rfl, rfl⟩
open Classical in
theorem d_store_elt (PL : Plaw P U) (hR : Rel U C L s a w) {t κ j k : Nat} {i : Int} {T : TY} {x y : Operand} (ho : o.op = .store t x y) (hT : U.ti t = some T) (hx : opOk x = true) (hy : opOk y = true) {vs ms : List (VV U.D)} (hvs : flO (YtpdnnndedejlhaaGreatV.ev s.t y) = some vs)
    (hlen : vs.length = T.sz) (hp : YtpdnnndedejlhaaGreatV.ev s.t x = .oel κ i j) {xs : List (U.D k)} (hm : mget s.m κ = some (.row k xs)) (hfit : j + vs.length ≤ U.sz k) (hn : ndp (keysOf vs) = true) (hnk : κ ∉ keysOf vs)
    (hms : mvdL s.m vs = some ms) {x' : U.D k} (hmk : U.mkE k (setl (U.cells k (rdE U k xs i)) j ms) = some x') (hT0 : T.sz ≠ 0) : Does P U C L s o a w .junk ((κ, some (.row k (xs.set i.toNat x'))) :: gone vs) := by
  have hok := PL.ty t T hT
  have hvx := hR.ev x hx
  rw [hp] at hvx
  obtain ⟨ex, hi0, hi1⟩ := hvx.oel_inv
  have hfr := (hR.ev y hy).one hR.rvo hvs
  obtain ⟨hro, hbn, hpos⟩ := hR.me κ _ hm
  rw [hbn] at hi1
  have hsz : (a.eval y).cells.size = T.sz := by rw [← hfr.1, hlen]
  obtain ⟨hml, hmv⟩ := mvdL_inv hms
  have hxi := rd_some hi0 hi1
  generalize hrv : L.rv κ = rv at hro hpos
  cases hro with
  | bool hb => simp [boolOf] at hb
  | tree0 => simp at hi1; omega
  | @tree _ _ _ g off cap cur f hg hh hcap hkk hsz' hr =>
    obtain ⟨e1, e2, hbs⟩ := hpos _ _ _ _ rfl
    rw [e1, e2, hbs] at ex
    have hit := mul_fit (s := U.sz k) (j := 0) (show i.toNat < xs.length by omega) (by omega)
    have hit2 : (i.toNat + 1) * U.sz k ≤ cap * U.sz k := Nat.mul_le_mul_right _ (by omega)
    rw [Nat.add_mul, Nat.one_mul] at hit2
    have hrun := run_store_cells (j := off + (i.toNat * U.sz k + j)) hok hh hsz (by omega) (fun i u hu => (hfr.2 i _ u (List.getElem?_eq_getElem (by rw [hfr.1]; exact (Array.getElem?_eq_some_iff.1 hu).1)) hu).2)
    obtain ⟨b1, b2, b3, b4, b5, b6⟩ := setCells_heap (a.eval y).cells.toList (off + (i.toNat * U.sz k + j)) w cur hh
    refine ⟨L.recl (fun b => if ∃ q, q ∈ keysOf vs ∧ L.cl b = q + 1 then κ + 1 else L.cl b), _, undef, .inr ⟨by simp only [execOp, ho, Sem.run_bind, ex, hrun]; rfl, rfl⟩,
      hR.toMRel.step (fun q b hb => ?_) (fun b hb => ?_) (fun b hb => ?_) hR.rvo (by rw [b6]; exact Nat.le_refl _) b3 b4 b5, .junk _, rfl, fun q _ => L.recl_eq _ q⟩
    · simp only [mupd, mget_gone, mget_mput] at hb
      by_cases hk : q ∈ keysOf vs
      · rw [if_pos hk] at hb; cases hb
      rw [if_neg hk] at hb
      by_cases e : q = κ
      · rw [if_pos e] at hb
        cases hb
        subst e
        right
        have hpos' : ∀ g' o' n' c', L.rv q = .slice (some ⟨g', o', none⟩) n' c' → L.bg q = g' ∧ L.bo q = o' ∧ L.bs q = U.sz k := by rw [hrv]; exact hpos
        refine ⟨?_, by simp [Lc.recl, hbn], hpos'⟩
        show RO U _ _ _ (L.rv q)
        rw [hrv]
        have hkq : ∀ b, L.cl b = q + 1 → ¬ ∃ p, p ∈ keysOf vs ∧ L.cl b = p + 1 := by
          rintro b hb ⟨p, hp1, hp2⟩
          have : p = q := by omega
          exact hk (this ▸ hp1)
        have hlenx : (xs.set i.toNat x').length = xs.length := List.length_set
        rw [← hlenx]
        refine .tree (fun b => if h : ∃ p : Nat, vs[p]? = some (VV.ref (L.cl b - 1)) ∧ L.cl b ≠ 0 then i.toNat * U.sz k + (j + Classical.choose h) else f b) (by simp only [Lc.recl]; rw [if_neg (hkq g hg)]; exact hg) b1 (by rw [hlenx]; exact hcap) hkk (by rw [wr_size]; exact hsz')
          (fun i' z j' c hz hj => ?_)
        have hj's := cell_lt PL.toUlaw hj
        have hp2 := mul_fit (idx_lt hz) hj's
        rw [hlenx] at hp2
        have hp3 : xs.length * U.sz k ≤ cap * U.sz k := Nat.mul_le_mul_right _ hcap
        have hin : ∀ pp : Nat, pp < vs.length → ∃ u, (a.eval y).cells[pp]? = some u := fun pp h => ⟨_, Array.getElem?_eq_getElem (by rw [← hfr.1]; exact h)⟩
        by_cases hnew : i' = i.toNat ∧ (j ≤ j' ∧ j' < j + vs.length)
        · obtain ⟨rfl, hj1, hj2⟩ := hnew
          rw [List.getElem?_set_self (idx_lt hxi)] at hz
          cases hz
          obtain ⟨pp, rfl⟩ : ∃ pp, j' = j + pp := ⟨j' - j, by omega⟩
          have hpp : pp < vs.length := by omega
          have hppm : pp < ms.length := by omega
          obtain ⟨u, hu⟩ := hin pp hpp
          have hle := (PL.mke _ _ _ hmk).2 (j + pp) c _ hj (setl_get_in ms _ j pp _ (List.getElem?_eq_getElem hppm) (by rw [PL.len]; omega))
          have hA : (wr cur (off + (i.toNat * U.sz k + j)) (a.eval y).cells.toList).getD (off + (i.toNat * U.sz k + (j + pp))) (.bool false) = u := by
            have := wr_in (a.eval y).cells.toList cur (off + (i.toNat * U.sz k + j)) pp u (by simpa using hu) (by simp [hsz, ← hlen]; omega)
            rw [show off + (i.toNat * U.sz k + j) + pp = off + (i.toNat * U.sz k + (j + pp)) by omega] at this
            obtain ⟨hlt, he⟩ := Array.getElem?_eq_some_iff.1 this
            simp [Array.getD, hlt, he]
          rw [hA]
          refine (RO.moved PL.toUlaw hR.toMRel (hfr.2 pp _ u (List.getElem?_eq_getElem hpp) hu).1 (hmv pp _ _ (List.getElem?_eq_getElem hpp) (List.getElem?_eq_getElem hppm)) (fun p hp b hb => b2 b (fun h => ?_)) (fun p hp b hb => ?_)).le hle
          · have hpk : p ∈ keysOf vs := keysOf_mem (p := pp) (by rw [List.getElem?_eq_getElem hpp, hp])
            subst h
            have : L.cl b = q + 1 := hg
            have : p = q := by omega
            exact hk (this ▸ hpk)
          · have hcp : vs[pp]? = some (VV.ref p) := by rw [List.getElem?_eq_getElem hpp, hp]
            have hpk : p ∈ keysOf vs := keysOf_mem hcp
            refine ⟨by show (if ∃ q_1, q_1 ∈ keysOf vs ∧ L.cl b = q_1 + 1 then q + 1 else L.cl b) = q + 1; rw [if_pos ⟨p, hpk, hb⟩], fun h => ?_, ?_⟩
            · subst h
              have : L.cl b = q + 1 := hg
              have : p = q := by omega
              exact hk (this ▸ hpk)
            · have e : L.cl b - 1 = p := by omega
              have hex : ∃ p : Nat, vs[p]? = some (VV.ref (L.cl b - 1)) ∧ L.cl b ≠ 0 := ⟨pp, by rw [hcp, e], by omega⟩
              rw [dif_pos hex]
              have h1 := (Classical.choose_spec hex).1
              generalize hgen : Classical.choose hex = p0 at h1 ⊢
              rw [e] at h1
              rw [ref_unique hn h1 hcp]
        · have hout : off + (i' * U.sz k + j') < off + (i.toNat * U.sz k + j) ∨ off + (i.toNat * U.sz k + j) + vs.length ≤ off + (i' * U.sz k + j') := by
            rcases Nat.lt_trichotomy i' i.toNat with h | h | h
            · have := Nat.mul_le_mul_right (U.sz k) (Nat.succ_le_of_lt h)
              rw [Nat.succ_mul] at this
              omega
            · subst h; omega
            · have := Nat.mul_le_mul_right (U.sz k) (Nat.succ_le_of_lt h)
              rw [Nat.succ_mul] at this
              omega
          have hA : (wr cur (off + (i.toNat * U.sz k + j)) (a.eval y).cells.toList).getD (off + (i' * U.sz k + j')) (.bool false) = cur.getD (off + (i' * U.sz k + j')) (.bool false) := by
            have := wr_out (a.eval y).cells.toList cur (off + (i.toNat * U.sz k + j)) (off + (i' * U.sz k + j')) (by simp [hsz, ← hlen]; omega)
            rw [Array.getD_eq_getD_getElem?, Array.getD_eq_getD_getElem?, this]
          rw [hA]
          obtain ⟨z0, hz0, cc, hcc, hle⟩ : ∃ z0, xs[i']? = some z0 ∧ ∃ cc, (U.cells k z0)[j']? = some cc ∧ (∀ w ok v, RO U w ok cc v → RO U w ok c v) := by
            by_cases hii : i' = i.toNat
            · subst hii
              rw [List.getElem?_set_self (idx_lt hxi)] at hz
              cases hz
              have hlt : j' < (U.cells k (rdE U k xs i)).length := by rw [PL.len]; exact hj's
              refine ⟨_, hxi, _, List.getElem?_eq_getElem hlt, fun w ok v h => h.le ((PL.mke _ _ _ hmk).2 j' c _ hj ?_)⟩
              rw [setl_get_out ms _ j j' (by omega), List.getElem?_eq_getElem hlt]
            · rw [List.getElem?_set_ne (Ne.symm hii)] at hz
              exact ⟨z, hz, c, hj, fun w ok v h => h⟩
          refine hle _ _ _ (((hr _ _ _ _ hz0 hcc).stay (fun b hb => b2 b hb.2.1)).mono (fun b hb => ⟨?_, hb.2.1, ?_⟩))
          · show (if ∃ q_1, q_1 ∈ keysOf vs ∧ L.cl b = q_1 + 1 then q + 1 else L.cl b) = q + 1
            rw [if_neg (hkq b hb.1)]; exact hb.1
          · rw [dif_neg]
            · exact hb.2.2
            · rintro ⟨p, hp1, hp2⟩
              have hbq := hb.1
              have e : L.cl b - 1 = q := by omega
              rw [e] at hp1
              exact hk (keysOf_mem hp1)
      · rw [if_neg e] at hb
        left
        refine ⟨hb, L.recl_eq _ q, fun p _ => L.recl_eq _ p, fun b hb' => ⟨?_, b2 b (fun h => ?_)⟩⟩
        · show (if ∃ p, p ∈ keysOf vs ∧ L.cl b = p + 1 then κ + 1 else L.cl b) = q + 1
          rw [if_neg]
          · exact hb'
          · rintro ⟨p, hp1, hp2⟩
            have : p = q := by omega
            exact hk (this ▸ hp1)
        · subst h
          have : L.cl b = κ + 1 := hg
          omega
    · obtain ⟨h1, h2, h3⟩ := hR.g0 b hb
      refine ⟨?_, b2 b (fun h => ?_)⟩
      · show (if ∃ p, p ∈ keysOf vs ∧ L.cl b = p + 1 then κ + 1 else L.cl b) = 0
        rw [if_neg]
        · exact h2
        · rintro ⟨p, hp1, hp2⟩; omega
      · subst h
        have : L.cl b = κ + 1 := hg
        omega
    · rw [b6]
      have hb' : (if ∃ p, p ∈ keysOf vs ∧ L.cl b = p + 1 then κ + 1 else L.cl b) ≠ 0 := hb
      by_cases h : ∃ p, p ∈ keysOf vs ∧ L.cl b = p + 1
      · obtain ⟨p, hp1, hp2⟩ := h; exact hR.hl b (by omega)
      · rw [if_neg h] at hb'; exact hR.hl b hb'
end
end Go.Proofs.YtpdnnndedejlhaaGreatV
/- Rows that are made of zeros, cut, and grown. -/
namespace Go.Proofs.YtpdnnndedejlhaaGreatV
open Go
set_option linter.unusedVariables false
set_option linter.unusedSimpArgs false
variable {U : Uni} {P : Program} {R : Type}
section
variable {C : Fr} {L : Lc} {s : St U.D} {a : Act} {w : World} {E : Nat → List (Con U)} {d : Nat} {K : VV U.D → Upd U.D → Option R} {r : R} {o : Oper}
theorem fresh_of {u : Upd U.D} (hnw : newOk s u = true) {κ : Nat} {b : Blk U.D} (hm0 : mget s.m κ = none) (hu : (κ, some b) ∈ u) : ∀ q, (q ∈ menL s.t ∨ q ∈ menM s.m) → q ≠ κ := by
  rcases newOk_inv hnw hu with ⟨b', hb'⟩ | h
  · rw [hm0] at hb'; cases hb'
  · rintro q (h' | h') rfl
    · exact h.1 h'
    · exact h.2 h'
theorem Does.rekey (hR : Rel U C L s a w) {κn : Nat} {b : Blk U.D} {u : Upd U.D} {w' : World} {v : Value} {g o' s' n' : Nat} (moved : Nat → Prop) (cl : Nat → Nat)
    (hrun : (execOp a.eval o).run P w = .ok (.value v) w') (hf : ∀ q, (q ∈ menL s.t ∨ q ∈ menM s.m) → q ≠ κn) (hv : v.oneCell' = true)
    (hu : ∀ q c, mget (mupd s.m u) q = some c → (q = κn ∧ c = b) ∨ (q ≠ κn ∧ ¬ moved q ∧ mget s.m q = some c))
    (hb : BR U C.F C.w0 w' (L.at κn g o' s' n' v cl) κn b)
    (hcl : ∀ x, (cl x = L.cl x ∧ w'.heap[x]? = w.heap[x]?) ∨ (cl x = κn + 1 ∧ (∃ q, moved q ∧ L.cl x = q + 1)) ∨ (cl x = κn + 1 ∧ w.heap.size ≤ x ∧ x < w'.heap.size))
    (hs : w.heap.size ≤ w'.heap.size) (hos : w'.os = w.os) (htp : w'.tape = w.tape) (hou : w'.output = w.output) : Does P U C L s o a w (.ref κn) u := by
  refine ⟨_, w', v, .inl hrun, hR.toMRel.step (L' := L.at κn g o' s' n' v cl) (fun q c hq => ?_) (fun x hx => ?_) (fun x hx => ?_) (Lc.one_at hR.rvo hv) hs hos htp hou, RV.ref_at _, rfl, fun q hq => L.at_ne (hf q hq)⟩
  · rcases hu q c hq with ⟨rfl, rfl⟩ | ⟨h1, h2, h3⟩
    · exact .inr hb
    · refine .inl ⟨h3, L.at_ne h1, fun p hp => L.at_ne (hf p (.inr (menM_mem h3 hp))), fun x hx => ?_⟩
      rcases hcl x with ⟨h4, h5⟩ | ⟨h4, p, hp, h5⟩ | ⟨h4, h5, -⟩
      · exact ⟨by simp only [Lc.at]; rw [h4]; exact hx, h5⟩
      · have : p = q := by omega
        exact (h2 (this ▸ hp)).elim
      · have := hR.hl x (by omega); omega
  · obtain ⟨h1, h2, h3⟩ := hR.g0 x hx
    rcases hcl x with ⟨h4, h5⟩ | ⟨h4, p, hp, h5⟩ | ⟨h4, h5, -⟩
    · exact ⟨by simp only [Lc.at]; rw [h4]; exact h2, h5⟩
    · omega
    · have := hR.hs; omega
  · simp only [Lc.at] at hx
    rcases hcl x with ⟨h4, h5⟩ | ⟨h4, p, hp, h5⟩ | ⟨h4, h5, h6⟩
    · rw [h4] at hx; have := hR.hl x hx; omega
    · have := hR.hl x (by omega); omega
    · exact h6
open Classical in
theorem d_makeSlice (PL : Plaw P U) (hR : Rel U C L s a w) {t : Nat} {x y : Operand} (ho : o.op = .makeSlice t x y) (hx : opOk x = true) (hy : opOk y = true) (h : Vop U E (.makeSlice t x y) d (ev s.t) s.m K = some r) :
    ∃ c u, K c u = some r ∧ (newOk s u = true → Does P U C L s o a w c u) := by
  have hvx := hR.ev x hx
  have hvy := hR.ev y hy
  simp only [Vop] at h
  cases hT : U.ti t with
  | none => rw [hT] at h; cases h
  | some T =>
    rw [hT] at h
    simp only at h
    cases hTd : T.d with
    | sl e =>
      rw [hTd] at h
      simp only at h
      cases hb : slK U t e with
      | false => rw [hb] at h; cases h
      | true =>
        simp only [hb, cond_true] at h
        obtain ⟨hu, Te, i, z, h1, h2, h3, h4, h5, h6, h7, h8⟩ := slK_inv PL hb
        rw [h1] at h
        simp only at h
        cases hn : asN (YtpdnnndedejlhaaGreatV.ev s.t x) with
        | none => rw [hn] at h; cases h
        | some n =>
          cases hn' : asN (YtpdnnndedejlhaaGreatV.ev s.t y) with
          | none => rw [hn, hn'] at h; cases h
          | some n' =>
            rw [hn, hn'] at h
            simp only at h
            cases hz : U.mkE e (zcs Te) with
            | none => rw [hz] at h; cases h
            | some zz =>
              rw [hz] at h
              simp only [mkS] at h
              split at h
              · rename_i hnn
                subst hnn
                split at h
                · rename_i h0
                  split at h
                  · rename_i hle
                    obtain ⟨hm0, hK⟩ := nw_inv h
                    obtain ⟨kx, ex⟩ := asN_inv hn hvx
                    obtain ⟨ky, ey⟩ := asN_inv hn' hvy
                    refine ⟨_, _, hK, fun hnw => ?_⟩
                    obtain ⟨m, rfl⟩ := Int.eq_ofNat_of_zero_le h0
                    have h9 : m ≤ 281474976710656 / Te.by_ := Int.ofNat_le.1 hle
                    have h10 : Te.by_ * m ≤ 281474976710656 := Nat.le_trans (Nat.mul_le_mul_left _ h9) (Nat.mul_div_le _ _)
                    have h11 : m ≤ 281474976710656 := Nat.le_trans h9 (Nat.div_le_self _ _)
                    have hby : (i.bytes : Int) * (m : Int) ≤ 281474976710656 := by
                      rw [h6]
                      have h12 : ((Te.by_ * m : Nat) : Int) ≤ 281474976710656 := by omega
                      rw [Int.natCast_mul] at h12
                      exact h12
                    have hrun := run_make (P := P) w t e i z hu h4 h7 kx ky m m h0 (Int.le_refl _) hby (by omega)
                    have hf := fresh_of hnw hm0 List.mem_cons_self
                    have hzs : z.cells.size = U.sz e := by rw [h8, ← h2, ← h3.zl]; simp
                    obtain ⟨hzl, hzc⟩ := PL.mke _ _ _ hz
                    refine Does.rekey hR (κn := 64 * d) (g := w.heap.size) (o' := 0) (s' := U.sz e) (n' := m) (b := .row e (List.replicate m zz)) (fun _ => False) (fun x => if x = w.heap.size then 64 * d + 1 else L.cl x)
                      (v := .slice (some ⟨w.heap.size, 0, none⟩) m m) (w' := w.alloc (.cells (madeCells z.cells (m * U.sz e)) e)) ?_ hf rfl (fun q c hq => ?_) ?_ (fun x => ?_) (by simp) rfl rfl rfl
                    · simp only [execOp, ho, Sem.run_bind, ex, ey, hrun, h5]
                      simp [Sem.run]
                    · simp only [mupd, mget_mput] at hq
                      by_cases e : q = 64 * d
                      · rw [if_pos e] at hq; cases hq; exact .inl ⟨e, by simp⟩
                      · rw [if_neg e] at hq; exact .inr ⟨e, fun h => h, hq⟩
                    · refine ⟨?_, by simp [Lc.at], fun g' o' n' c' he => by simp [Lc.at] at he ⊢; exact ⟨he.1.1, he.1.2⟩⟩
                      have hl : (List.replicate m zz).length = m := List.length_replicate
                      have hro : RO U (w.alloc (.cells (madeCells z.cells (m * U.sz e)) e)) (fun b => (if b = w.heap.size then 64 * d + 1 else L.cl b) = 64 * d + 1) (.tree e (List.replicate m zz)) (.slice (some ⟨w.heap.size, 0, none⟩) (List.replicate m zz).length m) := by
                        refine .tree (fun _ => 0) (by simp) heap_alloc_self (by rw [hl]; exact Nat.le_refl _) (by omega) (by rw [Nat.zero_add, size_madeCells]; exact Nat.le_refl _) (fun i' x' j' c hx' hj' => ?_)
                        have hi' : i' < m := by rw [← hl]; exact idx_lt hx'
                        have hxe : x' = zz := by
                          rw [List.getElem?_replicate, if_pos hi'] at hx'
                          cases hx'; rfl
                        subst hxe
                        have hj2 := cell_lt PL.toUlaw hj'
                        have hp := mul_fit hi' hj2
                        have hjz : j' < (zcs (U := U) Te).length := by rw [← hzl, PL.len]; exact hj2
                        have hjt : j' < Te.z.length := by simpa [zcs] using hjz
                        have hle' := hzc j' c _ hj' (List.getElem?_eq_getElem hjz)
                        have hval : (madeCells z.cells (m * U.sz e)).getD (0 + (i' * U.sz e + j')) (.bool false) = zval (Te.z[j']) := by
                          rw [Nat.zero_add]
                          simp only [madeCells, Array.getD_eq_getD_getElem?, Array.getElem?_map, Array.getElem?_range, if_pos hp, Option.map_some, Option.getD_some]
                          rw [hzs, Nat.mul_comm, Nat.mul_add_mod, Nat.mod_eq_of_lt hj2]
                          rw [getElem!_pos z.cells j' (by rw [hzs]; exact hj2)]
                          simp [h8]
                        rw [hval]
                        refine RO.le ?_ hle'
                        have : (zcs (U := U) Te)[j'] = (Te.z[j']).v := by simp [zcs]
                        rw [this]
                        cases Te.z[j']
                        · exact .int _ _
                        · exact .bool rfl
                        · exact .nil
                      rw [hl] at hro
                      simpa [Lc.at] using hro
                    · by_cases e : x = w.heap.size
                      · right; right; simp [e]
                      · left
                        refine ⟨if_neg e, ?_⟩
                        by_cases hlt : x < w.heap.size
                        · exact heap_alloc hlt
                        · rw [Array.getElem?_eq_none (by simp; omega), Array.getElem?_eq_none (by omega)]
                  · cases h
                · cases h
              · cases h
    | _ => rw [hTd] at h; cases h
end
end Go.Proofs.YtpdnnndedejlhaaGreatV
/- Rows that are cut, and grown. -/
namespace Go.Proofs.YtpdnnndedejlhaaGreatV
open Go
set_option linter.unusedVariables false
set_option linter.unusedSimpArgs false
variable {U : Uni} {P : Program} {R : Type}
section
variable {C : Fr} {L : Lc} {s : St U.D} {a : Act} {w : World} {E : Nat → List (Con U)} {d : Nat} {K : VV U.D → Upd U.D → Option R} {r : R} {o : Oper}
theorem RO.drop {ok : Nat → Prop} {k n : Nat} {xs : List (U.D k)} {v : Value} (h : RO U w ok (.tree k xs) v) (hn : n ≤ xs.length) :
    (v = .slice none 0 0 ∧ RO U w ok (.tree k (xs.drop n)) (.slice none 0 0)) ∨
    (∃ g off cap, v = .slice (some ⟨g, off, none⟩) xs.length cap ∧ xs.length ≤ cap ∧ RO U w ok (.tree k (xs.drop n)) (.slice (if cap = n then some ⟨g, off, none⟩ else some ⟨g, off + n * U.sz k, none⟩) (xs.length - n) (cap - n))) := by
  cases h with
  | bool hb => simp [boolOf] at hb
  | tree0 => left; exact ⟨rfl, by simp; exact .tree0 _⟩
  | @tree _ _ _ g off cap cur f hg hh hcap hkk hsz hr =>
    right
    refine ⟨g, off, cap, rfl, hcap, ?_⟩
    have hl : xs.length - n = (xs.drop n).length := by simp
    rw [hl]
    by_cases e : cap = n
    · rw [if_pos e]
      have hx : xs.drop n = [] := List.drop_eq_nil_of_le (by omega)
      rw [hx]
      refine .tree f hg hh (by simp) (by omega) (by rw [show cap - n = 0 by omega, Nat.zero_mul]; omega) (fun i x j c hx => by simp at hx)
    · rw [if_neg e]
      refine .tree (fun b => f b - n * U.sz k) hg hh (by simp; omega) (by omega) ?_ (fun i x j c hx hj => ?_)
      · have h1 : n * U.sz k + (cap - n) * U.sz k = cap * U.sz k := by rw [← Nat.add_mul]; congr 1; omega
        omega
      · rw [List.getElem?_drop] at hx
        have h1 := hr (n + i) x j c hx hj
        have e1 : off + ((n + i) * U.sz k + j) = off + n * U.sz k + (i * U.sz k + j) := by rw [Nat.add_mul]; omega
        rw [e1] at h1
        exact h1.mono (fun b hb => ⟨hb.1, hb.2.1, by rw [hb.2.2, Nat.add_mul]; omega⟩)
open Classical in
theorem d_slice (PL : Plaw P U) (hR : Rel U C L s a w) {t : Nat} {x : Operand} {lo hi mx : Option Operand} (ho : o.op = .slice t x lo hi mx) (hx : opOk x = true) (hlo : ∀ y, lo = some y → opOk y = true) (h : Vop U E (.slice t x lo hi mx) d (ev s.t) s.m K = some r) :
    ∃ c u, K c u = some r ∧ (newOk s u = true → Does P U C L s o a w c u) := by
  have hv := hR.ev x hx
  simp only [Vop] at h
  generalize YtpdnnndedejlhaaGreatV.ev s.t x = c at h hv
  cases c <;> try (cases h)
  case ref κ =>
    simp only at h
    cases hm : mget s.m κ with
    | none => rw [hm] at h; cases h
    | some b =>
      rw [hm] at h
      cases b with
      | row k xs =>
        simp only at h
        cases hb : slK U t k with
        | false => rw [hb] at h; cases h
        | true =>
          simp only [hb, cond_true] at h
          cases lo with
          | none => cases h
          | some l =>
            cases hi with
            | some _ => cases h
            | none =>
              cases mx with
              | some _ => cases h
              | none =>
                simp only at h
                cases hn : asN (YtpdnnndedejlhaaGreatV.ev s.t l) with
                | none => rw [hn] at h; cases h
                | some n =>
                  rw [hn] at h
                  simp only at h
                  split at h
                  · rename_i hle
                    split at h
                    · rename_i h0
                      obtain ⟨hm0, hK⟩ := nw_inv h
                      refine ⟨_, _, hK, fun hnw => ?_⟩
                      obtain ⟨m, rfl⟩ := Int.eq_ofNat_of_zero_le h0
                      have hml : m ≤ xs.length := Int.ofNat_le.1 hle
                      obtain ⟨kl, el⟩ := asN_inv hn (hR.ev l (hlo l rfl))
                      obtain ⟨hu, -⟩ := slK_inv PL hb
                      obtain ⟨-, -, Te, i, z, h1, h2, h3, h4, h5, -⟩ := (⟨hu, slK_inv PL hb⟩ : _ ∧ _)
                      have ex := hv.ref_inv
                      obtain ⟨hro, hbn, hpos⟩ := hR.me κ _ hm
                      have hne : κ ≠ 64 * d := fun e => by rw [e, hm0] at hm; cases hm
                      have hf := fresh_of hnw hm0 (List.mem_cons_of_mem _ List.mem_cons_self)
                      have key : ∀ v' : Value, (execOp a.eval o).run P w = .ok (.value v') w → RO U w (fun b => L.cl b = κ + 1) (.tree k (xs.drop m)) v' → (∃ A n c, v' = .slice A n c ∧ ∀ ad, A = some ad → ad.spot = none) →
                          Does P U C L s o a w (.ref (64 * d)) [(κ, none), (64 * d, some (.row k (xs.drop (m : Int).toNat)))] := by
                        rintro v' hrun hro' ⟨A, n', c', rfl, hA⟩
                        refine Does.rekey hR (κn := 64 * d) (g := match A with | some ad => ad.block | none => 0) (o' := match A with | some ad => ad.off | none => 0) (s' := U.sz k) (n' := (xs.drop m).length) (b := .row k (xs.drop m))
                          (fun q => q = κ) (fun x => if L.cl x = κ + 1 then 64 * d + 1 else L.cl x) hrun hf rfl (fun q c hq => ?_) ?_ (fun x => ?_) (Nat.le_refl _) rfl rfl rfl
                        · simp only [mupd, mget_mput, mget_mdel] at hq
                          by_cases e : q = 64 * d
                          · rw [if_pos e] at hq; cases hq; exact .inl ⟨e, rfl⟩
                          · rw [if_neg e] at hq
                            by_cases e2 : q = κ
                            · rw [if_pos e2] at hq; cases hq
                            · rw [if_neg e2] at hq; exact .inr ⟨e, e2, hq⟩
                        · refine ⟨?_, by simp [Lc.at], fun g' o' n' c' he => ?_⟩
                          · have := hro'.mono (ok' := fun b => (if L.cl b = κ + 1 then 64 * d + 1 else L.cl b) = 64 * d + 1) (fun b hb => by simp [hb])
                            simpa [Lc.at] using this
                          · simp [Lc.at] at he
                            obtain ⟨rfl, -, -⟩ := he
                            simp [Lc.at]
                        · by_cases e : L.cl x = κ + 1
                          · exact .inr (.inl ⟨if_pos e, κ, rfl, e⟩)
                          · exact .inl ⟨if_neg e, rfl⟩
                      rcases RO.drop hro hml with ⟨e1, h6⟩ | ⟨g, off, cap, e1, hcap, h6⟩
                      · have hx0 : xs.length = 0 := by
                          obtain ⟨A, c, e, -⟩ := hro.slice
                          rw [e1] at e
                          injection e with _ e _
                          exact e.symm
                        have hm00 : m = 0 := by omega
                        subst hm00
                        refine key _ ?_ h6 ⟨_, _, _, rfl, fun _ h => by cases h⟩
                        simp [execOp, ho, Sem.run, ex, e1, el, Instr.sliceAt, Instr.slice, Instr.sliceBounds, Instr.sliceBound, run_underlying hu, asIntOf, sizeOf, typeInfo, h4]
                      · refine key _ ?_ h6 ⟨_, _, _, rfl, fun ad h => by split at h <;> cases h <;> rfl⟩
                        have hmc : (m : Int) ≤ (cap : Int) := by omega
                        simp [execOp, ho, Sem.run, ex, e1, el, Instr.sliceAt, Instr.slice, Instr.sliceBounds, Instr.sliceBound, run_underlying hu, asIntOf, sizeOf, typeInfo, h4, h5, hml, Addr.add_mid]
                    · cases h
                  · cases h
      | _ => cases h
end
end Go.Proofs.YtpdnnndedejlhaaGreatV
/- append. -/
namespace Go.Proofs.YtpdnnndedejlhaaGreatV
open Go
set_option linter.unusedVariables false
set_option linter.unusedSimpArgs false
variable {U : Uni} {P : Program} {R : Type}
section
variable {C : Fr} {L : Lc} {s : St U.D} {a : Act} {w : World} {E : Nat → List (Con U)} {d : Nat} {K : VV U.D → Upd U.D → Option R} {r : R} {o : Oper}
theorem slA_inv (PL : Plaw P U) {ts : List Nat} {k : Nat} (h : slA U ts k = true) : ∃ t t', ts = [t, t'] ∧ P.underlying t = some (.slice k) ∧ P.underlying t' = some (.slice k) ∧ ∃ i z, P.info? k = some i ∧ i.size = U.sz k ∧ 0 < U.sz k ∧ i.zero = some z ∧
    z.cells.size = U.sz k ∧ 0 < i.bytes ∧ U.lim k * i.bytes ≤ 140737488355328 := by
  unfold slA at h
  split at h
  · rename_i t t'
    simp only [Bool.and_eq_true] at h
    obtain ⟨⟨h1, h2⟩, h3⟩ := h
    obtain ⟨hu, T, i, z, a1, a2, a3, a4, a5, a6, a7, a8⟩ := slK_inv PL h1
    obtain ⟨hu', -⟩ := slK_inv PL h2
    rw [a1] at h3
    simp only [Bool.and_eq_true] at h3
    refine ⟨t, t', rfl, hu, hu', i, z, a4, a5, ?_, a7, by rw [a8, ← a2, ← a3.zl]; simp, ?_, ?_⟩
    · have := Nat.le_of_ble_eq_true h3.2; omega
    · have := Nat.le_of_ble_eq_true h3.1.2; omega
    · rw [a6]; exact Nat.le_of_ble_eq_true h3.1.1
  · cases h
structure Apd (U : Uni) (w w' : World) (ok : Nat → Prop) (k : Nat) (xs : List (U.D k)) (n : Nat) (news : List Value) (v' : Value) : Prop where
  is : ∃ (g o cap : Nat) (cur : Array Value) (f : Nat → Nat), v' = .slice (some ⟨g, o, none⟩) (xs.length + n) cap ∧ w'.heap[g]? = some (.cells cur k (0, 0)) ∧ xs.length + n ≤ cap ∧ cap ≤ 9223372036854775807 ∧ o + cap * U.sz k ≤ cur.size ∧
    (∀ (p : Nat) (u : Value), news[p]? = some u → cur[o + (xs.length * U.sz k + p)]? = some u) ∧
    (∀ i x j c, xs[i]? = some x → (U.cells k x)[j]? = some c → RO U w (fun b => ok b ∧ b ≠ g ∧ f b = i * U.sz k + j) c (cur.getD (o + (i * U.sz k + j)) (.bool false))) ∧
    (ok g ∨ g = w.heap.size) ∧ (∀ b, b ≠ g → w'.heap[b]? = w.heap[b]?) ∧ (∀ b, w.heap.size ≤ b → b < w'.heap.size → b = g)
  sz : w.heap.size ≤ w'.heap.size
  os : w'.os = w.os
  tp : w'.tape = w.tape
  ou : w'.output = w.output
theorem getD_of {A : Array Value} {i : Nat} {v : Value} (h : A[i]? = some v) : A.getD i (.bool false) = v := by
  rw [Array.getD_eq_getD_getElem?, h]; rfl
theorem append_core (PL : Plaw P U) {t t' k : Nat} (hA : slA U [t, t'] k = true) {ok : Nat → Prop} {xs : List (U.D k)} {v : Value} (hro : RO U w ok (.tree k xs) v) {x : Value} {n : Nat} {news : List Value} (hs : Src P (U.sz k) t' x n news w)
    (hlim : xs.length + n ≤ U.lim k) (ty : Nat) : ∃ v' w', (Builtin.append_ #[t, t'] ty #[v, x]).run P w = .ok v' w' ∧ ((n = 0 ∧ v' = v ∧ w' = w) ∨ Apd U w w' ok k xs n news v') := by
  obtain ⟨t1, t2, e, hu, hu', i, z, hi, hsz, hpos, hz, hzs, hby, hl⟩ := slA_inv PL hA
  cases e
  have hbytes : (xs.length + n) * i.bytes ≤ 140737488355328 := Nat.le_trans (Nat.mul_le_mul_right _ hlim) hl
  have h63 : xs.length + n ≤ 140737488355328 := Nat.le_trans (Nat.le_mul_of_pos_right _ hby) hbytes
  rw [← hsz] at hs
  have hnl := hs.newsLen
  -- a new row
  have grow : ∀ (base : Option Addr) (cap : Nat) (olds : List Value), v = .slice base xs.length cap → cap < xs.length + n → olds.length = xs.length * U.sz k →
      (Builtin.firstCells i.size xs.length (.slice base xs.length cap)).run P w.drew = .ok olds.toArray w.drew → (f : Nat → Nat) →
      (∀ i x j c, xs[i]? = some x → (U.cells k x)[j]? = some c → RO U w (fun b => ok b ∧ f b = i * U.sz k + j) c (olds.getD (i * U.sz k + j) (.bool false))) →
      ∃ v' w', (Builtin.append_ #[t, t'] ty #[v, x]).run P w = .ok v' w' ∧ ((n = 0 ∧ v' = v ∧ w' = w) ∨ Apd U w w' ok k xs n news v') := by
    intro base cap olds hv hg hol hold f hel
    subst hv
    have hrun := run_append_grow_src (P := P) w t t' ty k i z hu hi hz base xs.length cap olds hold x n news hs hg (by omega) (growslice_fits hg hbytes)
    have hgk : grownCap w (xs.length + n) cap k ≤ 9223372036854775807 := by
      have := grownCap_le_maxLen w (xs.length + n) cap k (by simp only [maxLen]; omega)
      simpa only [maxLen] using this
    refine ⟨_, _, hrun, .inr ⟨⟨w.heap.size, 0, _, _, f, rfl, heap_alloc_self (w := w.drew), grownCap_ge _ _ _ _, hgk, ?_, ?_, ?_, .inr rfl, ?_, ?_⟩, ?_, rfl, rfl, rfl⟩⟩
    · have h1 : (Builtin.zeroCells z.cells (grownCap w (xs.length + n) cap k - (xs.length + n))).size = (grownCap w (xs.length + n) cap k - (xs.length + n)) * U.sz k := by
        simp [Builtin.zeroCells, hzs]
      have h2 := grownCap_ge w (xs.length + n) cap k
      rw [Array.size_append, h1, List.size_toArray, List.length_append, hol, hnl, hsz, ← Nat.add_mul, ← Nat.add_mul, Nat.zero_add]
      apply Nat.mul_le_mul_right
      omega
    · intro p u hp
      have hlt := idx_lt hp
      rw [Array.getElem?_append_left (by simp; omega), List.getElem?_toArray, Nat.zero_add, List.getElem?_append_right (by omega)]
      rw [hol, Nat.add_sub_cancel_left]; exact hp
    · intro i' x' j' c hx' hj'
      have h1 := hel i' x' j' c hx' hj'
      have h2 := mul_fit (idx_lt hx') (cell_lt PL.toUlaw hj')
      have e : (((olds ++ news).toArray ++ Builtin.zeroCells z.cells (grownCap w (xs.length + n) cap k - (xs.length + n))).getD (0 + (i' * U.sz k + j')) (.bool false)) = olds.getD (i' * U.sz k + j') (.bool false) := by
        rw [Array.getD_eq_getD_getElem?, Array.getElem?_append_left (by simp; omega), List.getElem?_toArray, Nat.zero_add, List.getElem?_append_left (by omega), List.getD_eq_getElem?_getD]
      rw [e]
      exact h1.lt.mono (fun b hb => ⟨hb.1.1, by omega, hb.1.2⟩)
    · intro b hb
      by_cases hlt : b < w.heap.size
      · exact heap_alloc (w := w.drew) hlt
      · rw [Array.getElem?_eq_none (by simp; omega), Array.getElem?_eq_none (by omega)]
    · intro b h1 h2
      simp at h2; omega
    · simp
  cases hro with
  | bool hb => simp [boolOf] at hb
  | tree0 =>
    by_cases hn : n = 0
    · subst hn
      have hnil : news = [] := List.eq_nil_of_length_eq_zero (by rw [hnl, Nat.zero_mul])
      subst hnil
      exact ⟨_, _, run_append_nothing (P := P) w t t' ty k i hu hi none 0 0 (Nat.le_refl _) x hs, .inl ⟨rfl, rfl, rfl⟩⟩
    · exact grow none 0 [] rfl (by simp; omega) (by simp) (by simp [Builtin.firstCells]) (fun _ => 0) (fun i x j c hx => by simp at hx)
  | @tree _ _ _ g off cap cur f hg hh hcap hkk hcs hr =>
    have hfit : ∀ p, p < xs.length * U.sz k → off + p < cur.size := by
      intro p hp
      have := Nat.mul_le_mul_right (U.sz k) hcap
      omega
    by_cases hroom : xs.length + n ≤ cap
    · have hsp : xs.length * U.sz k + news.length ≤ cap * U.sz k := by rw [hnl, hsz, ← Nat.add_mul]; exact Nat.mul_le_mul_right _ hroom
      have hrun := run_append_room_src (P := P) w t t' ty k i hu hi g off xs.length cap x n news hs hroom (fun j hj => by
        rw [hsz]
        have h3 : off + xs.length * U.sz k + j < cur.size := by omega
        simp only [World.cell?, hh]
        simp [h3]) (fun j hj => by simp [World.frozen?, hh])
      obtain ⟨b1, b2, b3, b4, b5, b6⟩ := setCells_heap news (off + xs.length * i.size) w cur hh
      refine ⟨_, _, hrun, .inr ⟨⟨g, off, cap, _, f, rfl, b1, hroom, hkk, by rw [wr_size]; exact hcs, ?_, ?_, .inl hg, b2, ?_⟩, by rw [b6]; exact Nat.le_refl _, b3, b4, b5⟩⟩
      · intro p u hp
        rw [show off + (xs.length * U.sz k + p) = off + xs.length * i.size + p by rw [hsz]; omega]
        exact wr_in _ _ _ _ _ hp (by rw [hsz]; omega)
      · intro i' x' j' c hx' hj'
        have h2 := mul_fit (idx_lt hx') (cell_lt PL.toUlaw hj')
        have e : (wr cur (off + xs.length * i.size) news).getD (off + (i' * U.sz k + j')) (.bool false) = cur.getD (off + (i' * U.sz k + j')) (.bool false) := by
          rw [Array.getD_eq_getD_getElem?, Array.getD_eq_getD_getElem?, wr_out _ _ _ _ (by left; rw [hsz]; omega)]
        rw [e]
        exact hr i' x' j' c hx' hj'
      · intro b h1 h2
        rw [b6] at h2; omega
    · refine grow (some ⟨g, off, none⟩) cap ((List.range (xs.length * U.sz k)).map fun p => cur.getD (off + p) (.bool false)) rfl (by omega) (by simp) ?_ f (fun i x j c hx hj => ?_)
      · refine run_firstCells_some (P := P) w.drew i.size xs.length ⟨g, off, none⟩ xs.length cap _ (by simp [hsz]) (fun j u hu => ?_)
        rw [List.getElem?_map] at hu
        obtain ⟨p, hp, rfl⟩ := Option.map_eq_some_iff.1 hu
        have hlt : j < xs.length * U.sz k := by have := idx_lt hp; simpa using this
        have e : p = j := by rw [List.getElem?_range hlt] at hp; cases hp; rfl
        subst e
        rw [Addr.add_mid]
        exact cell_of (w := w) hh (hfit _ hlt)
      · have h2 := mul_fit (idx_lt hx) (cell_lt PL.toUlaw hj)
        have e : (((List.range (xs.length * U.sz k)).map fun p => cur.getD (off + p) (.bool false)).getD (i * U.sz k + j) (.bool false)) = cur.getD (off + (i * U.sz k + j)) (.bool false) := by
          rw [List.getD_eq_getElem?_getD, List.getElem?_map, List.getElem?_range h2]; rfl
        rw [e]
        exact (hr i x j c hx hj).mono (fun b hb => ⟨hb.1, hb.2.2⟩)
open Classical in
theorem RO.join (PL : Ulaw U) {w' : World} {ok okn ok' : Nat → Prop} {k n : Nat} {xs ys : List (U.D k)} {news : List Value} {v' : Value} (h : Apd U w w' ok k xs n news v') (hn : n = ys.length) (fn : Nat → Nat)
    (hnew : ∀ i y j c, ys[i]? = some y → (U.cells k y)[j]? = some c → ∃ u, news[i * U.sz k + j]? = some u ∧ RO U w (fun b => okn b ∧ fn b = i * U.sz k + j) c u)
    (hd : ∀ b, ok b → ¬ okn b) (h1 : ∀ b, ok b → ok' b) (h2 : ∀ b, okn b → ok' b) (h3 : ok' w.heap.size) : RO U w' ok' (.tree k (xs ++ ys)) v' := by
  obtain ⟨g, o, cap, cur, f, rfl, hh, hcap, hkk, hcs, hnews, hold, hg, hw, -⟩ := h.is
  subst hn
  rw [← List.length_append]
  have hgn : ∀ b, okn b → b < w.heap.size → b ≠ g := by
    rintro b hb hlt rfl
    rcases hg with hg | hg
    · exact hd _ hg hb
    · omega
  refine .tree (fun b => if okn b then xs.length * U.sz k + fn b else f b) (by rcases hg with hg | hg; exact h1 g hg; rw [hg]; exact h3) hh (by simpa using hcap) hkk hcs (fun i x j c hx hj => ?_)
  by_cases hi : i < xs.length
  · rw [List.getElem?_append_left hi] at hx
    refine ((hold i x j c hx hj).stay (fun b hb => hw b hb.2.1)).mono (fun b hb => ⟨h1 b hb.1, hb.2.1, ?_⟩)
    rw [if_neg (hd b hb.1)]; exact hb.2.2
  · rw [List.getElem?_append_right (by omega)] at hx
    obtain ⟨u, hu, hro⟩ := hnew _ x j c hx hj
    have e : o + (i * U.sz k + j) = o + (xs.length * U.sz k + ((i - xs.length) * U.sz k + j)) := by
      have : i * U.sz k = xs.length * U.sz k + (i - xs.length) * U.sz k := by rw [← Nat.add_mul]; congr 1; omega
      omega
    rw [e, getD_of (hnews _ _ hu)]
    refine (hro.lt.stay (fun b hb => hw b (hgn b hb.1.1 hb.2))).mono (fun b hb => ⟨h2 b hb.1.1, hgn b hb.1.1 hb.2, ?_⟩)
    rw [if_pos hb.1.1, hb.1.2]
    have : i * U.sz k = xs.length * U.sz k + (i - xs.length) * U.sz k := by rw [← Nat.add_mul]; congr 1; omega
    omega
end
end Go.Proofs.YtpdnnndedejlhaaGreatV
/- append, as an operation. -/
namespace Go.Proofs.YtpdnnndedejlhaaGreatV
open Go
set_option linter.unusedVariables false
set_option linter.unusedSimpArgs false
variable {U : Uni} {P : Program} {R : Type}
section
variable {C : Fr} {L : Lc} {s : St U.D} {a : Act} {w : World} {E : Nat → List (Con U)} {d : Nat} {K : VV U.D → Upd U.D → Option R} {r : R} {o : Oper}
theorem divmod {p n s : Nat} (hp : p < n * s) : p / s < n ∧ p % s < s ∧ p / s * s + p % s = p := by
  have hs : 0 < s := by
    rcases Nat.eq_zero_or_pos s with h | h
    · subst h; simp at hp
    · exact h
  exact ⟨(Nat.div_lt_iff_lt_mul hs).2 hp, Nat.mod_lt _ hs, by rw [Nat.mul_comm]; exact Nat.div_add_mod p s⟩
theorem elt_of (PL : Ulaw U) {k : Nat} {ys : List (U.D k)} {p : Nat} (hp : p < ys.length * U.sz k) : ∃ y c, ys[p / U.sz k]? = some y ∧ (U.cells k y)[p % U.sz k]? = some c ∧ p / U.sz k * U.sz k + p % U.sz k = p := by
  obtain ⟨h1, h2, h3⟩ := divmod hp
  exact ⟨_, _, List.getElem?_eq_getElem h1, List.getElem?_eq_getElem (by rw [PL.len]; exact h2), h3⟩
theorem srcOwn (PL : Ulaw U) {t' k : Nat} (hu : P.underlying t' = some (.slice k)) {okn : Nat → Prop} {ys : List (U.D k)} {x : Value} (h : RO U w okn (.tree k ys) x) :
    ∃ (news : List Value) (fn : Nat → Nat), Src P (U.sz k) t' x ys.length news w ∧ ∀ i y j c, ys[i]? = some y → (U.cells k y)[j]? = some c → ∃ u, news[i * U.sz k + j]? = some u ∧ RO U w (fun b => okn b ∧ fn b = i * U.sz k + j) c u := by
  cases h with
  | bool hb => simp [boolOf] at hb
  | tree0 => exact ⟨[], fun _ => 0, Src.ofNil w hu 0, fun i y j c hy => by simp at hy⟩
  | @tree _ _ _ g off cap cur f hg hh hcap hkk hcs hr =>
    refine ⟨(List.range (ys.length * U.sz k)).map fun p => cur.getD (off + p) (.bool false), f, Src.ofSlice w hu ⟨g, off, none⟩ ys.length cap _ (by simp) (fun j u hj => ?_) (fun u hu' => ?_), fun i y j c hy hj => ?_⟩
    · rw [List.getElem?_map] at hj
      obtain ⟨p, hp, rfl⟩ := Option.map_eq_some_iff.1 hj
      have hlt : j < ys.length * U.sz k := by have := idx_lt hp; simpa using this
      have e : p = j := by rw [List.getElem?_range hlt] at hp; cases hp; rfl
      subst e
      rw [Addr.add_mid]
      have := Nat.mul_le_mul_right (U.sz k) hcap
      exact cell_of hh (by omega)
    · obtain ⟨p, hp, rfl⟩ := List.mem_map.1 hu'
      obtain ⟨y, c, h1, h2, h3⟩ := elt_of PL (List.mem_range.1 hp)
      have := (hr _ _ _ _ h1 h2).one
      rw [h3] at this
      exact this
    · have h2 := mul_fit (idx_lt hy) (cell_lt PL hj)
      refine ⟨cur.getD (off + (i * U.sz k + j)) (.bool false), by rw [List.getElem?_map, List.getElem?_range h2]; rfl, (hr i y j c hy hj).mono (fun b hb => ⟨hb.1, hb.2.2⟩)⟩
theorem srcFlat (PL : Ulaw U) {t' k : Nat} (hu : P.underlying t' = some (.slice k)) (hf : U.flat k = true) {F : Nat → Prop} {ys : List (U.D k)} {x : Value} (h : RC U F w (.tree k ys) x) :
    ∃ news, Src P (U.sz k) t' x ys.length news w ∧ ∀ i y j c, ys[i]? = some y → (U.cells k y)[j]? = some c → ∃ u, news[i * U.sz k + j]? = some u ∧ RO U w (fun b => False ∧ 0 = i * U.sz k + j) c u := by
  have sc : ∀ {y : U.D k} {j : Nat} {c : VV U.D} {v : Value} {ok : Nat → Prop}, (U.cells k y)[j]? = some c → RC U F w c v → RO U w ok c v := by
    intro y j c v ok hj hr
    have := PL.fla k y j c hf hj
    cases hr with
    | int => exact .int _ _
    | bool hb => exact .bool hb
    | nil => exact .nil
    | tree0 => exact this.elim
    | tree => exact this.elim
  cases h with
  | bool hb => simp [boolOf] at hb
  | tree0 A cap =>
    cases cap with
    | none => exact ⟨[], Src.ofNil w hu _, fun i y j c hy => by simp at hy⟩
    | some ad => exact ⟨[], Src.ofSlice w hu ad 0 _ [] (by simp) (fun j u hj => by simp at hj) (fun u hu' => by simp at hu'), fun i y j c hy => by simp at hy⟩
  | @tree _ _ ad cap vf hc hF hcell hr =>
    refine ⟨(List.range (ys.length * U.sz k)).map fun p => vf (p / U.sz k) (p % U.sz k), Src.ofSlice w hu ad ys.length cap _ (by simp) (fun j u hj => ?_) (fun u hu' => ?_), fun i y j c hy hj => ?_⟩
    · rw [List.getElem?_map] at hj
      obtain ⟨p, hp, rfl⟩ := Option.map_eq_some_iff.1 hj
      have hlt : j < ys.length * U.sz k := by have := idx_lt hp; simpa using this
      have e : p = j := by rw [List.getElem?_range hlt] at hp; cases hp; rfl
      subst e
      obtain ⟨y, c, h1, h2, h3⟩ := elt_of PL hlt
      have := hcell _ _ _ _ h1 h2
      rw [h3] at this
      exact this
    · obtain ⟨p, hp, rfl⟩ := List.mem_map.1 hu'
      obtain ⟨y, c, h1, h2, h3⟩ := elt_of PL (List.mem_range.1 hp)
      exact (hr _ _ _ _ h1 h2).one
    · have h2 := mul_fit (idx_lt hy) (cell_lt PL hj)
      have hjs := cell_lt PL hj
      refine ⟨vf i j, ?_, sc hj (hr i y j c hy hj)⟩
      rw [List.getElem?_map, List.getElem?_range h2]
      simp only [Option.map_some]
      rw [Nat.mul_comm, Nat.mul_add_div (by omega), Nat.div_eq_of_lt hjs, Nat.mul_add_mod, Nat.mod_eq_of_lt hjs, Nat.add_zero]
theorem apK_inv {n m l : Nat} {K : Option R} (h : apK n m l K = some r) : n + m ≤ l ∧ K = some r := by
  unfold apK at h
  split at h
  · exact ⟨by assumption, h⟩
  · cases h
open Classical in
theorem d_append (PL : Plaw P U) (hR : Rel U C L s a w) {c : Call} {x y : Operand} (ho : o.op = .call c) (hc : c.callee = .builtin .append) (hargs : c.args = #[x, y]) {k : Nat} (hA : slA U c.argTypes.toList k = true)
    {xs ys : List (U.D k)} (dst src : Nat → Prop) {news : List Value} {fn : Nat → Nat} (hx : RO U w (fun b => ∃ q, dst q ∧ L.cl b = q + 1) (.tree k xs) (a.eval x)) (hs : ∀ t', P.underlying t' = some (.slice k) → Src P (U.sz k) t' (a.eval y) ys.length news w)
    (hnew : ∀ i z j c, ys[i]? = some z → (U.cells k z)[j]? = some c → ∃ u, news[i * U.sz k + j]? = some u ∧ RO U w (fun b => (∃ q, src q ∧ L.cl b = q + 1) ∧ fn b = i * U.sz k + j) c u)
    (hdis : ∀ q, dst q → ¬ src q) (hlim : xs.length + ys.length ≤ U.lim k) {u : Upd U.D} (hf : ∀ q, (q ∈ menL s.t ∨ q ∈ menM s.m) → q ≠ 64 * d)
    (hu : ∀ q c, mget (mupd s.m u) q = some c → (q = 64 * d ∧ c = .row k (xs ++ ys)) ∨ (q ≠ 64 * d ∧ ¬ (dst q ∨ src q) ∧ mget s.m q = some c)) :
    Does P U C L s o a w (.ref (64 * d)) u := by
  obtain ⟨t, t', hts, hut, hut', -⟩ := slA_inv PL hA
  rw [hts] at hA
  obtain ⟨v', w', hrun, hcase⟩ := append_core PL hA hx (hs t' hut') hlim o.type
  obtain ⟨callee, args, ats⟩ := c
  simp only at hc hargs hts
  subst hc; subst hargs
  have hats : ats = #[t, t'] := by cases ats; simp_all
  subst hats
  have hex : (execOp a.eval o).run P w = .ok (.value v') w' := by
    simp only [execOp, ho, resolve, invoke, builtin]
    simp [hrun, Sem.run]
  rcases hcase with ⟨hn, rfl, rfl⟩ | hap
  · have hys : ys = [] := List.eq_nil_of_length_eq_zero hn
    subst hys
    obtain ⟨A, cap, he, hcap⟩ := hx.slice
    have hspot : ∀ ad, A = some ad → ad.spot = none := by
      intro ad hA'
      rw [he, hA'] at hx
      cases hx with
      | tree => rfl
    refine Does.rekey hR (κn := 64 * d) (g := match A with | some ad => ad.block | none => 0) (o' := match A with | some ad => ad.off | none => 0) (s' := U.sz k) (n' := (xs ++ []).length) (b := .row k (xs ++ [])) (fun q => dst q ∨ src q)
      (fun z => if ∃ q, (dst q ∨ src q) ∧ L.cl z = q + 1 then 64 * d + 1 else L.cl z) hex hf (by rw [he]; rfl) hu ?_ (fun z => ?_) (Nat.le_refl _) rfl rfl rfl
    · refine ⟨?_, by simp [Lc.at], fun g' o' n' c' he' => ?_⟩
      · have := hx.mono (ok' := fun b => (if ∃ q, (dst q ∨ src q) ∧ L.cl b = q + 1 then 64 * d + 1 else L.cl b) = 64 * d + 1) (fun b ⟨q, h1, h2⟩ => by rw [if_pos ⟨q, .inl h1, h2⟩])
        simpa [Lc.at] using this
      · simp only [Lc.at, if_pos] at he' ⊢
        rw [he] at he'
        injection he' with e1 e2 e3
        subst e1
        exact ⟨rfl, rfl, trivial⟩
    · by_cases e : ∃ q, (dst q ∨ src q) ∧ L.cl z = q + 1
      · obtain ⟨q, h1, h2⟩ := e
        exact .inr (.inl ⟨if_pos ⟨q, h1, h2⟩, q, h1, h2⟩)
      · exact .inl ⟨if_neg e, rfl⟩
  · have hj := RO.join PL.toUlaw hap rfl fn hnew (ok' := fun b => (if b = w.heap.size then 64 * d + 1 else if ∃ q, (dst q ∨ src q) ∧ L.cl b = q + 1 then 64 * d + 1 else L.cl b) = 64 * d + 1)
      (fun b ⟨q, h1, h2⟩ ⟨q', h3, h4⟩ => by
        have : q = q' := by omega
        exact hdis q h1 (this ▸ h3))
      (fun b ⟨q, h1, h2⟩ => by
        by_cases e : b = w.heap.size
        · rw [if_pos e]
        · rw [if_neg e, if_pos ⟨q, .inl h1, h2⟩])
      (fun b ⟨q, h1, h2⟩ => by
        by_cases e : b = w.heap.size
        · rw [if_pos e]
        · rw [if_neg e, if_pos ⟨q, .inr h1, h2⟩])
      (by simp)
    obtain ⟨g, o', cap, cur, f, hv', hh, hcap, hkk, hcs, hn1, hn2, hg, hw, hnb⟩ := hap.is
    refine Does.rekey hR (κn := 64 * d) (g := g) (o' := o') (s' := U.sz k) (n' := (xs ++ ys).length) (b := .row k (xs ++ ys)) (fun q => dst q ∨ src q)
      (fun z => if z = w.heap.size ∧ w.heap.size < w'.heap.size then 64 * d + 1 else if ∃ q, (dst q ∨ src q) ∧ L.cl z = q + 1 then 64 * d + 1 else L.cl z) hex hf (by rw [hv']; rfl) hu ?_ (fun z => ?_) hap.sz hap.os hap.tp hap.ou
    · refine ⟨?_, by simp [Lc.at], fun g' o'' n' c' he' => ?_⟩
      · have := hj.lt.mono (ok' := fun b => (if b = w.heap.size ∧ w.heap.size < w'.heap.size then 64 * d + 1 else if ∃ q, (dst q ∨ src q) ∧ L.cl b = q + 1 then 64 * d + 1 else L.cl b) = 64 * d + 1) (fun b ⟨h1, h2⟩ => by
          by_cases e : b = w.heap.size
          · rw [if_pos ⟨e, by omega⟩]
          · rw [if_neg e] at h1
            rw [if_neg (fun h => e h.1)]; exact h1)
        simpa [Lc.at] using this
      · simp only [Lc.at, if_pos] at he' ⊢
        rw [hv'] at he'
        injection he' with e1 e2 e3
        injection e1 with e1
        cases e1
        exact ⟨rfl, rfl, trivial⟩
    · by_cases e0 : z = w.heap.size ∧ w.heap.size < w'.heap.size
      · exact .inr (.inr ⟨if_pos e0, by omega, by omega⟩)
      · by_cases e : ∃ q, (dst q ∨ src q) ∧ L.cl z = q + 1
        · obtain ⟨q, h1, h2⟩ := e
          exact .inr (.inl ⟨by rw [if_neg e0, if_pos ⟨q, h1, h2⟩], q, h1, h2⟩)
        · refine .inl ⟨by rw [if_neg e0, if_neg e], ?_⟩
          by_cases hz : z = g
          · exfalso
            rcases hg with ⟨q, h1, h2⟩ | hg
            · exact e ⟨q, .inl h1, by rw [hz]; exact h2⟩
            · exact e0 ⟨hz.trans hg, by have := heap_lt hh; omega⟩
          · exact hw z hz
end
end Go.Proofs.YtpdnnndedejlhaaGreatV
/- append, as it is read. -/
namespace Go.Proofs.YtpdnnndedejlhaaGreatV
open Go
set_option linter.unusedVariables false
set_option linter.unusedSimpArgs false
variable {U : Uni} {P : Program} {R : Type}
section
variable {C : Fr} {L : Lc} {s : St U.D} {a : Act} {w : World} {E : Nat → List (Con U)} {d : Nat} {K : VV U.D → Upd U.D → Option R} {r : R} {o : Oper}
theorem p_append (PL : Plaw P U) (hR : Rel U C L s a w) {c : Call} {x y : Operand} (ho : o.op = .call c) (hc : c.callee = .builtin .append) (hargs : c.args = #[x, y]) (hx : opOk x = true) (hy : opOk y = true) (h : Vop U E (.call c) d (ev s.t) s.m K = some r) :
    ∃ v u, K v u = some r ∧ (newOk s u = true → Does P U C L s o a w v u) := by
  have hvx := hR.ev x hx
  have hvy := hR.ev y hy
  have hargs' : c.args.toList.map (YtpdnnndedejlhaaGreatV.ev s.t) = [YtpdnnndedejlhaaGreatV.ev s.t x, YtpdnnndedejlhaaGreatV.ev s.t y] := by rw [hargs]; rfl
  simp only [Vop, hc, hargs'] at h
  generalize YtpdnnndedejlhaaGreatV.ev s.t x = cx at h hvx
  generalize YtpdnnndedejlhaaGreatV.ev s.t y = cy at h hvy
  cases cx <;> try (cases h)
  case nil =>
    cases cy <;> try (cases h)
    case ref κ' =>
      simp only at h
      cases hm : mget s.m κ' with
      | none => rw [hm] at h; cases h
      | some b =>
        rw [hm] at h
        cases b with
        | row k ys =>
          simp only at h
          cases hA : slA U c.argTypes.toList k with
          | false => rw [hA] at h; cases h
          | true =>
            simp only [hA, cond_true] at h
            obtain ⟨hlim, h⟩ := apK_inv h
            obtain ⟨hm0, hK⟩ := nw_inv h
            refine ⟨_, _, hK, fun hnw => ?_⟩
            obtain ⟨t, t', hts, hut, hut', -⟩ := slA_inv PL hA
            obtain ⟨hro, -⟩ := hR.me κ' _ hm
            rw [← hvy.ref_inv] at hro
            obtain ⟨news, fn, hs, hnew⟩ := srcOwn (P := P) PL.toUlaw hut' hro
            refine d_append PL hR ho hc hargs hA (xs := []) (fun _ => False) (fun q => q = κ') (news := news) (fn := fn) (by rw [hvx.nil_inv]; exact .tree0 _) (fun t' hu => ⟨.inl ⟨k, hu⟩, hs.len, hs.cells, hs.cellsD, hs.newsLen, hs.one⟩) (fun i z j c hz hj => ?_) (fun q h => h.elim) (by simpa using hlim)
              (fresh_of hnw hm0 (List.mem_cons_of_mem _ List.mem_cons_self)) (fun q c hq => ?_)
            · obtain ⟨u, h1, h2⟩ := hnew i z j c hz hj
              exact ⟨u, h1, h2.mono (fun b hb => ⟨⟨κ', rfl, hb.1⟩, hb.2⟩)⟩
            · simp only [mupd, mget_mput, mget_mdel] at hq
              by_cases e : q = 64 * d
              · rw [if_pos e] at hq; cases hq; exact .inl ⟨e, rfl⟩
              · rw [if_neg e] at hq
                by_cases e2 : q = κ'
                · rw [if_pos e2] at hq; cases hq
                · rw [if_neg e2] at hq; exact .inr ⟨e, fun h => h.elim id e2, hq⟩
        | _ => cases h
  case ref κ =>
    cases cy <;> try (cases h)
    case ref κ' =>
      simp only at h
      cases hm : mget s.m κ with
      | none => rw [hm] at h; cases h
      | some b =>
        cases hm' : mget s.m κ' with
        | none => rw [hm, hm'] at h; cases b <;> cases h
        | some b' =>
          rw [hm, hm'] at h
          cases b with
          | row k xs =>
            cases b' with
            | row k' ys =>
              simp only at h
              cases hdec : Nat.decEq k' k with
              | isFalse _ => rw [hdec] at h; cases h
              | isTrue he =>
                subst he
                cases hA : (slA U c.argTypes.toList k' && !Nat.beq κ κ') with
                | false => rw [hdec, hA] at h; cases h
                | true =>
                  rw [hdec, hA] at h
                  simp only at h
                  simp only [Bool.and_eq_true, Bool.not_eq_true'] at hA
                  have hne : κ ≠ κ' := fun e => by rw [e, Nat.beq_refl] at hA; exact Bool.noConfusion hA.2
                  obtain ⟨hlim, h⟩ := apK_inv h
                  obtain ⟨hm0, hK⟩ := nw_inv h
                  refine ⟨_, _, hK, fun hnw => ?_⟩
                  obtain ⟨t, t', hts, hut, hut', -⟩ := slA_inv PL hA.1
                  obtain ⟨hro, -⟩ := hR.me κ' _ hm'
                  rw [← hvy.ref_inv] at hro
                  obtain ⟨hro1, -⟩ := hR.me κ _ hm
                  rw [← hvx.ref_inv] at hro1
                  obtain ⟨news, fn, hs, hnew⟩ := srcOwn (P := P) PL.toUlaw hut' hro
                  refine d_append PL hR ho hc hargs hA.1 (fun q => q = κ) (fun q => q = κ') (news := news) (fn := fn) (hro1.mono (fun b hb => ⟨κ, rfl, hb⟩)) (fun t' hu => ⟨.inl ⟨k', hu⟩, hs.len, hs.cells, hs.cellsD, hs.newsLen, hs.one⟩) (fun i z j c hz hj => ?_)
                    (fun q h1 h2 => hne (h1 ▸ h2)) hlim (fresh_of hnw hm0 (List.mem_cons_of_mem _ (List.mem_cons_of_mem _ List.mem_cons_self))) (fun q c hq => ?_)
                  · obtain ⟨u, h1, h2⟩ := hnew i z j c hz hj
                    exact ⟨u, h1, h2.mono (fun b hb => ⟨⟨κ', rfl, hb.1⟩, hb.2⟩)⟩
                  · simp only [mupd, mget_mput, mget_mdel] at hq
                    by_cases e : q = 64 * d
                    · rw [if_pos e] at hq; cases hq; exact .inl ⟨e, rfl⟩
                    · rw [if_neg e] at hq
                      by_cases e2 : q = κ'
                      · rw [if_pos e2] at hq; cases hq
                      · rw [if_neg e2] at hq
                        by_cases e3 : q = κ
                        · rw [if_pos e3] at hq; cases hq
                        · rw [if_neg e3] at hq; exact .inr ⟨e, fun h => h.elim e3 e2, hq⟩
            | _ => cases h
          | _ => cases h
    case tree k' ys =>
      simp only at h
      cases hm : mget s.m κ with
      | none => rw [hm] at h; cases h
      | some b =>
        rw [hm] at h
        cases b with
        | row k xs =>
          simp only at h
          cases hdec : Nat.decEq k' k with
          | isFalse _ => rw [hdec] at h; cases h
          | isTrue he =>
            subst he
            cases hA : (slA U c.argTypes.toList k' && U.flat k') with
            | false => rw [hdec, hA] at h; cases h
            | true =>
              rw [hdec, hA] at h
              simp only at h
              simp only [Bool.and_eq_true] at hA
              obtain ⟨hlim, h⟩ := apK_inv h
              obtain ⟨hm0, hK⟩ := nw_inv h
              refine ⟨_, _, hK, fun hnw => ?_⟩
              obtain ⟨t, t', hts, hut, hut', -⟩ := slA_inv PL hA.1
              have hrc := hvy.tree_inv.stay hR.ag
              obtain ⟨hro1, -⟩ := hR.me κ _ hm
              rw [← hvx.ref_inv] at hro1
              obtain ⟨news, hs, hnew⟩ := srcFlat (P := P) PL.toUlaw hut' hA.2 hrc
              refine d_append PL hR ho hc hargs hA.1 (fun q => q = κ) (fun _ => False) (news := news) (fn := fun _ => 0) (hro1.mono (fun b hb => ⟨κ, rfl, hb⟩)) (fun t' hu => ⟨.inl ⟨k', hu⟩, hs.len, hs.cells, hs.cellsD, hs.newsLen, hs.one⟩) (fun i z j c hz hj => ?_)
                (fun q _ h => h) hlim (fresh_of hnw hm0 (List.mem_cons_of_mem _ List.mem_cons_self)) (fun q c hq => ?_)
              · obtain ⟨u, h1, h2⟩ := hnew i z j c hz hj
                exact ⟨u, h1, h2.mono (fun b hb => hb.1.elim)⟩
              · simp only [mupd, mget_mput, mget_mdel] at hq
                by_cases e : q = 64 * d
                · rw [if_pos e] at hq; cases hq; exact .inl ⟨e, rfl⟩
                · rw [if_neg e] at hq
                  by_cases e3 : q = κ
                  · rw [if_pos e3] at hq; cases hq
                  · rw [if_neg e3] at hq; exact .inr ⟨e, fun h => h.elim e3 id, hq⟩
        | _ => cases h
end
end Go.Proofs.YtpdnnndedejlhaaGreatV
/- What is handed over, under other keys. -/
namespace Go.Proofs.YtpdnnndedejlhaaGreatV
open Go
set_option linter.unusedVariables false
set_option linter.unusedSimpArgs false
variable {U : Uni} {P : Program} {R : Type}
inductive LQ : VV U.D → VV U.D → Prop where
  | int (k k' : IntKind) (n : Int) : LQ (.int k n) (.int k' n)
  | bool {c : VV U.D} {b : Bool} (h : boolOf c = some b) : LQ (.bv b) c
  | tree (k : Nat) (xs : List (U.D k)) : LQ (.tree k xs) (.tree k xs)
  | nil (k : Nat) : LQ (.tree k []) .nil
def LQs (l' l : List (VV U.D)) : Prop := l'.length = l.length ∧ ∀ (i : Nat) (c' c : VV U.D), l'[i]? = some c' → l[i]? = some c → LQ c' c
theorem LQs.cons {a b : VV U.D} {l' l : List (VV U.D)} (h : LQ a b) (hs : LQs l' l) : LQs (a :: l') (b :: l) := by
  refine ⟨by simp [hs.1], fun i c' c h1 h2 => ?_⟩
  cases i with
  | zero => simp at h1 h2; subst h1; subst h2; exact h
  | succ i => exact hs.2 i c' c (by simpa using h1) (by simpa using h2)
theorem LQs.inv {l' : List (VV U.D)} {b : VV U.D} {l : List (VV U.D)} (h : LQs l' (b :: l)) : ∃ a as, l' = a :: as ∧ LQ a b ∧ LQs as l := by
  cases l' with
  | nil => have := h.1; simp at this
  | cons a as => exact ⟨a, as, rfl, h.2 0 a b rfl rfl, by have := h.1; simpa using this, fun i c' c h1 h2 => h.2 (i + 1) c' c (by simpa using h1) (by simpa using h2)⟩
theorem tyd1_lq {l : Lf} {v : VV U.D} {x : LfT U.D l} (h : tyd1 l v = some x) : LQ (unty1 l x) v := by
  cases l with
  | i => cases v <;> simp only [tyd1] at h <;> cases h; exact .int _ _ _
  | b =>
    cases v <;> simp only [tyd1] at h <;> cases h <;> exact .bool rfl
  | l k =>
    cases v with
    | nil => simp only [tyd1] at h; cases h; exact .nil k
    | tree k' xs =>
      simp only [tyd1] at h
      cases hd : Nat.decEq k' k with
      | isTrue e => subst e; rw [hd] at h; cases h; exact .tree _ _
      | isFalse _ => rw [hd] at h; cases h
    | _ => simp only [tyd1] at h; cases h
theorem tydO_inv {l : Lf} {ls : List Lf} {p : Option (LfT U.D l)} {q : Option (TL U.D ls)} {x : LfT U.D l × TL U.D ls} (h : tydO p q = some x) : ∃ a b, p = some a ∧ q = some b ∧ x = (a, b) := by
  cases p with
  | none => cases h
  | some a =>
    cases q with
    | none => cases h
    | some b => cases h; exact ⟨a, b, rfl, rfl, rfl⟩
theorem tyd_lq : ∀ (ls : List Lf) {vs : List (VV U.D)} {x : TL U.D ls}, tyd ls vs = some x → LQs (unty ls x) vs
  | [], vs, x, h => by
    cases vs with
    | nil => exact ⟨rfl, fun i c' c h1 => by cases i <;> cases h1⟩
    | cons v vs => cases h
  | l :: [], vs, x, h => by
    cases vs with
    | nil => cases h
    | cons v vs =>
      cases vs with
      | nil => exact LQs.cons (tyd1_lq h) ⟨rfl, fun i c' c h1 => by cases i <;> cases h1⟩
      | cons _ _ => cases h
  | l :: l2 :: ls, vs, x, h => by
    cases vs with
    | nil => cases h
    | cons v vs =>
      obtain ⟨a, b, h1, h2, rfl⟩ := tydO_inv (U := U) (l := l) (ls := l2 :: ls) h
      exact LQs.cons (tyd1_lq h1) (tyd_lq (l2 :: ls) h2)
theorem mget_app (m m' : Mem U.D) (q : Nat) : mget (m ++ m') q = match mget m q with | some b => some b | none => mget m' q := by
  induction m with
  | nil => rfl
  | cons x xs ih =>
    obtain ⟨p, b⟩ := x
    simp only [List.cons_append, mget]
    cases Nat.beq p q with
    | true => rfl
    | false => exact ih
section
variable {C : Fr} {L L' : Lc} {m : Mem U.D} {w w0' : World} {F' : Nat → Prop} {bor : Bool} {bl : List Nat}
structure Tgt (U : Uni) (C : Fr) (L : Lc) (w : World) (F' : Nat → Prop) (w0' : World) (bl : List Nat) : Prop where
  ff : ∀ b, C.F b → F' b
  hh : ∀ b, C.F b → w0'.heap[b]? = C.w0.heap[b]?
  le : ∀ q ∈ bl, ∀ b, L.cl b = q + 1 → F' b ∧ w0'.heap[b]? = w.heap[b]?
theorem Tgt.tr (h : Tgt U C L w F' w0' bl) {c : VV U.D} {v : Value} (hc : RC U C.F C.w0 c v) : RC U F' w0' c v := (hc.stay h.hh).mono h.ff
theorem Tgt.lend (PL : Ulaw U) (h : Tgt U C L w F' w0' bl) {q k : Nat} (hq : q ∈ bl) {xs : List (U.D k)} {v : Value} (hc : RO U w (fun b => L.cl b = q + 1) (.tree k xs) v) : RC U F' w0' (.tree k xs) v :=
  ((hc.rc PL).stay (fun b hb => (h.le q hq b hb).2)).mono (fun b hb => (h.le q hq b hb).1)
theorem Tgt.lendB (h : Tgt U C L w F' w0' bl) (PL : Ulaw U) {q k : Nat} (hq : q ∈ bl) {xs : List (U.D k)} (hb : BR U C.F C.w0 w L q (.brow k xs)) : RC U F' w0' (.tree k xs) (L.rv q) := by
  obtain ⟨cap, cur, e, -, -, h4, h5, h6, h7, h8⟩ := hb
  rw [e]
  obtain ⟨f1, f2⟩ := h.le q hq _ h4
  refine .tree (fun i j => cur.getD (L.bo q + (i * U.sz k + j)) (.bool false)) h6 f1 (fun i x j c hx hj => ?_) (fun i x j c hx hj => ?_)
  · rw [Addr.add_mid]
    have h1 := mul_fit (idx_lt hx) (cell_lt PL hj)
    have h2 : xs.length * U.sz k ≤ cap * U.sz k := Nat.mul_le_mul_right _ h6
    exact cell_of (f2.trans h5) (by omega)
  · rcases h8 i x j c hx hj with h' | h'
    · exact h.tr h'
    · exact (h'.stay (fun b hb => (h.le q hq b hb).2)).mono (fun b hb => (h.le q hq b hb).1)
def Wd (C : Fr) (w w0' : World) (bor : Bool) : Prop := (bor = true → w0' = w) ∧ (bor = false → w0' = C.w0)
structure Ren (L L' : Lc) (κ0 : Nat) (ks : List (Option Nat)) : Prop where
  so : ∀ (i q : Nat), ks[i]? = some (some q) → L'.bg (κ0 + i) = L.bg q ∧ L'.bo (κ0 + i) = L.bo q ∧ L'.bs (κ0 + i) = L.bs q ∧ L'.bn (κ0 + i) = L.bn q ∧ L'.rv (κ0 + i) = L.rv q ∧ ∀ b, L.cl b = q + 1 → L'.cl b = κ0 + i + 1
  no : ∀ (i : Nat), ks[i]? = some none → L'.rv (κ0 + i) = .slice none 0 0 ∧ L'.bn (κ0 + i) = 0
theorem Ren.app {κ0 : Nat} {k1 k2 : List (Option Nat)} (h : Ren L L' κ0 (k1 ++ k2)) : Ren L L' κ0 k1 ∧ Ren L L' (κ0 + k1.length) k2 := by
  refine ⟨⟨fun i q hi => h.so i q (by rw [List.getElem?_append_left (idx_lt hi)]; exact hi), fun i hi => h.no i (by rw [List.getElem?_append_left (idx_lt hi)]; exact hi)⟩,
    ⟨fun i q hi => ?_, fun i hi => ?_⟩⟩
  · have := h.so (k1.length + i) q (by rw [List.getElem?_append_right (by omega), Nat.add_sub_cancel_left]; exact hi)
    rw [← Nat.add_assoc] at this; exact this
  · have := h.no (k1.length + i) (by rw [List.getElem?_append_right (by omega), Nat.add_sub_cancel_left]; exact hi)
    rw [← Nat.add_assoc] at this; exact this
def BRs (U : Uni) (F' : Nat → Prop) (w0' w : World) (L' : Lc) (m' : Mem U.D) (κ κ' : Nat) : Prop := ∀ q b, mget m' q = some b → κ ≤ q ∧ q < κ' ∧ BR U F' w0' w L' q b
theorem BRs.app {m1 m2 : Mem U.D} {κ κ' κ'' : Nat} (h1 : BRs U F' w0' w L' m1 κ κ') (h2 : BRs U F' w0' w L' m2 κ' κ'') (h3 : κ ≤ κ') (h4 : κ' ≤ κ'') : BRs U F' w0' w L' (m1 ++ m2) κ κ'' := by
  intro q b hb
  rw [mget_app] at hb
  cases hm : mget m1 q with
  | some b' => rw [hm] at hb; cases hb; obtain ⟨a1, a2, a3⟩ := h1 q b hm; exact ⟨a1, by omega, a3⟩
  | none => rw [hm] at hb; obtain ⟨a1, a2, a3⟩ := h2 q b hb; exact ⟨by omega, a2, a3⟩
theorem rkC (PL : Ulaw U) (hM : MRel U C L m w) (hT : Tgt U C L w F' w0' bl) {g : Cg} (hW : ∀ k, g = .nest k → Wd C w w0' bor) {c l l' : VV U.D} {v : Value} {κ0 : Nat} (hd : decC bor m g c = some l) (hl : LQ l' l) (hv : RV U C.F C.w0 L c v) (hk : ∀ k, g = .keep k → v = L'.kv)
    (hb : bor = true → ∀ q ∈ borC [g] [c], q ∈ bl) (hr : Ren L L' κ0 (kysC [g] [c])) :
    ∃ c' m', encC κ0 g l' = (c', m', κ0 + (kysC [g] [c]).length) ∧ RV U F' w0' L' c' v ∧ BRs U F' w0' w L' m' κ0 (κ0 + (kysC [g] [c]).length) := by
  have none_ : BRs U F' w0' w L' ([] : Mem U.D) κ0 κ0 := fun q b hb => by cases hb
  have tree_ : ∀ {k : Nat} {xs : List (U.D k)}, RC U F' w0' (.tree k xs) v → l = .tree k xs ∨ (l = .nil ∧ xs = []) → l' = .tree k xs ∨ True := fun _ _ => .inr trivial
  cases g with
  | int k =>
    cases c with
    | int k' n =>
      simp only [decC] at hd
      cases hi : ikeq k k' with
      | false => rw [hi] at hd; cases hd
      | true =>
        rw [hi] at hd; cases hd
        have := ikeq_eq hi; subst this
        cases hl with
        | int => exact ⟨_, _, rfl, by rw [hv.int_inv]; exact .leaf (.int _ _), none_⟩
        | bool h => simp [boolOf] at h
    | _ => simp only [decC] at hd; cases hd
  | bool =>
    have fin : ∀ b, boolOf c = some b → boolOf l = some b → ∃ c' m', encC κ0 Cg.bool l' = (c', m', κ0 + (kysC [Cg.bool] [c]).length) ∧ RV U F' w0' L' c' v ∧ BRs U F' w0' w L' m' κ0 (κ0 + (kysC [Cg.bool] [c]).length) := by
      intro b h1 h2
      have hv' := RV.bool_inv h1 hv
      cases hl with
      | bool h => rw [h2] at h; cases h; exact ⟨_, _, rfl, by rw [hv']; exact .leaf (.bool rfl), none_⟩
      | int => simp [boolOf] at h2
      | tree => simp [boolOf] at h2
      | nil => simp [boolOf] at h2
    cases c <;> simp only [decC] at hd <;> cases hd <;> exact fin _ rfl rfl
  | tree k0 =>
    have fin : (∀ k xs, l' = .tree k xs → RC U F' w0' (.tree k xs) v) → (∃ k xs, l' = VV.tree k xs) → ∃ c' m', encC κ0 (Cg.tree k0) l' = (c', m', κ0 + (kysC [Cg.tree k0] [c]).length) ∧ RV U F' w0' L' c' v ∧ BRs U F' w0' w L' m' κ0 (κ0 + (kysC [Cg.tree k0] [c]).length) := by
      rintro h ⟨k, xs, rfl⟩
      exact ⟨_, _, rfl, .leaf (h k xs rfl), none_⟩
    cases c with
    | nil =>
      simp only [decC] at hd; cases hd
      cases hl with
      | nil k => exact fin (fun k xs e => by cases e; rw [hv.nil_inv]; exact .tree0 _ _ _) ⟨_, _, rfl⟩
      | bool h => simp [boolOf] at h
    | tree k xs =>
      simp only [decC] at hd; cases hd
      cases hl with
      | tree => exact fin (fun k xs e => by cases e; exact hT.tr hv.tree_inv) ⟨_, _, rfl⟩
      | bool h => simp [boolOf] at h
    | ktree k xs =>
      simp only [decC] at hd; cases hd
      cases hl with
      | tree => exact fin (fun k xs e => by cases e; exact hT.tr (RV.tree_inv hv.unk)) ⟨_, _, rfl⟩
      | bool h => simp [boolOf] at h
    | ref q =>
      simp only [decC] at hd
      cases bor with
      | false => cases hd
      | true =>
        simp only [cond_true] at hd
        cases hm : mget m q with
        | none => rw [hm] at hd; cases hd
        | some b =>
          rw [hm] at hd
          cases b with
          | row k xs =>
            cases hd
            cases hl with
            | tree => exact fin (fun k xs e => by cases e; rw [hv.ref_inv]; exact hT.lend PL (hb rfl q (by simp [borC])) (hM.me q _ hm).1) ⟨_, _, rfl⟩
            | bool h => simp [boolOf] at h
          | krow k xs =>
            cases hd
            cases hl with
            | tree => exact fin (fun k xs e => by cases e; rw [hv.ref_inv]; exact hT.lend PL (hb rfl q (by simp [borC])) (hM.me q _ hm).1.1) ⟨_, _, rfl⟩
            | bool h => simp [boolOf] at h
          | brow k xs =>
            cases hd
            cases hl with
            | tree => exact fin (fun k xs e => by cases e; rw [hv.ref_inv]; exact hT.lendB PL (hb rfl q (by simp [borC])) (hM.me q _ hm)) ⟨_, _, rfl⟩
            | bool h => simp [boolOf] at h
          | _ => cases hd
    | _ => simp only [decC] at hd; cases hd
  | own k0 =>
    cases c with
    | nil =>
      simp only [decC] at hd; cases hd
      cases hl with
      | bool h => simp [boolOf] at h
      | nil k =>
        obtain ⟨h1, h2⟩ := hr.no 0 rfl
        rw [Nat.add_zero] at h1 h2
        refine ⟨.ref κ0, [(κ0, .row k [])], rfl, by rw [hv.nil_inv, ← h1]; exact .ref κ0, fun q b hb => ?_⟩
        simp only [mget] at hb
        cases he : Nat.beq κ0 q with
        | false => rw [he] at hb; cases hb
        | true =>
          have := Nat.eq_of_beq_eq_true he; subst this
          rw [he] at hb; cases hb
          exact ⟨Nat.le_refl _, by simp [kysC], by rw [h1]; exact .tree0 _, by simp [h2], fun g o n c e => by rw [h1] at e; cases e⟩
    | ref q =>
      simp only [decC] at hd
      cases hm : mget m q with
      | none => rw [hm] at hd; cases hd
      | some b =>
        rw [hm] at hd
        cases b with
        | row k xs =>
          cases hd
          cases hl with
          | bool h => simp [boolOf] at h
          | tree =>
            obtain ⟨h1, h2, h3, h4, h5, h6⟩ := hr.so 0 q rfl
            rw [Nat.add_zero] at h1 h2 h3 h4 h5 h6
            obtain ⟨a1, a2, a3⟩ := hM.me q _ hm
            refine ⟨.ref κ0, [(κ0, .row k xs)], rfl, by rw [hv.ref_inv, ← h5]; exact .ref κ0, fun q' b hb => ?_⟩
            simp only [mget] at hb
            cases he : Nat.beq κ0 q' with
            | false => rw [he] at hb; cases hb
            | true =>
              have := Nat.eq_of_beq_eq_true he; subst this
              rw [he] at hb; cases hb
              exact ⟨Nat.le_refl _, by simp [kysC], by rw [h5]; exact a1.mono (fun b hb => h6 b hb), by rw [h4]; exact a2, by rw [h5, h1, h2, h3]; exact a3⟩
        | _ => cases hd
    | _ => simp only [decC] at hd; cases hd
  | nest k0 =>
    cases c with
    | nil =>
      simp only [decC] at hd; cases hd
      cases hl with
      | bool h => simp [boolOf] at h
      | nil k =>
        obtain ⟨h1, h2⟩ := hr.no 0 rfl
        rw [Nat.add_zero] at h1 h2
        refine ⟨.ref κ0, [(κ0, .krow k [])], rfl, by rw [hv.nil_inv, ← h1]; exact .ref κ0, fun q b hb => ?_⟩
        simp only [mget] at hb
        cases he : Nat.beq κ0 q with
        | false => rw [he] at hb; cases hb
        | true =>
          have := Nat.eq_of_beq_eq_true he; subst this
          rw [he] at hb; cases hb
          exact ⟨Nat.le_refl _, by simp [kysC], ⟨by rw [h1]; exact .tree0 _, by simp [h2], fun g o n c e => by rw [h1] at e; cases e⟩, fun i x j k' ys hx => by simp at hx⟩
    | ref q =>
      simp only [decC] at hd
      cases hm : mget m q with
      | none => rw [hm] at hd; cases hd
      | some b =>
        rw [hm] at hd
        obtain ⟨h1, h2, h3, h4, h5, h6⟩ := hr.so 0 q rfl
        rw [Nat.add_zero] at h1 h2 h3 h4 h5 h6
        have go : ∀ (k : Nat) (xs : List (U.D k)), (RO U w (fun b => L.cl b = q + 1) (.tree k xs) (L.rv q) ∧ L.bn q = xs.length ∧ ∀ g o n c, L.rv q = .slice (some ⟨g, o, none⟩) n c → L.bg q = g ∧ L.bo q = o ∧ L.bs q = U.sz k) → Hd U w0' w L q k xs → l = .tree k xs →
            ∃ c' m', encC κ0 (Cg.nest k0) l' = (c', m', κ0 + (kysC [Cg.nest k0] [VV.ref (D := U.D) q]).length) ∧ RV U F' w0' L' c' v ∧ BRs U F' w0' w L' m' κ0 (κ0 + (kysC [Cg.nest k0] [VV.ref (D := U.D) q]).length) := by
          rintro k xs ⟨a1, a2, a3⟩ a4 rfl
          cases hl with
          | bool h => simp [boolOf] at h
          | tree =>
            refine ⟨.ref κ0, [(κ0, .krow k xs)], rfl, by rw [hv.ref_inv, ← h5]; exact .ref κ0, fun q' b hb => ?_⟩
            simp only [mget] at hb
            cases he : Nat.beq κ0 q' with
            | false => rw [he] at hb; cases hb
            | true =>
              have := Nat.eq_of_beq_eq_true he; subst this
              rw [he] at hb; cases hb
              refine ⟨Nat.le_refl _, by simp [kysC], ⟨by rw [h5]; exact a1.mono (fun b hb => h6 b hb), by rw [h4]; exact a2, by rw [h5, h1, h2, h3]; exact a3⟩, fun i x j k' ys hx hj => ?_⟩
              have := a4 i x j k' ys hx hj
              rw [h1, h2, h3]; exact this
        cases b with
        | row k xs =>
          cases bor with
          | false => cases hd
          | true =>
            cases hd
            exact go k xs (hM.me q _ hm) (fun i x j k' ys _ _ => by rw [(hW _ rfl).1 rfl]) rfl
        | krow k xs =>
          cases hd
          refine go k xs (hM.me q _ hm).1 (fun i x j k' ys hx hj => ?_) rfl
          cases bor with
          | true => rw [(hW _ rfl).1 rfl]
          | false => rw [(hW _ rfl).2 rfl]; exact (hM.me q _ hm).2 i x j k' ys hx hj
        | _ => cases hd
    | _ => simp only [decC] at hd; cases hd
  | nul k0 =>
    cases c with
    | nil => exact ⟨.nil, [], rfl, by rw [hv.nil_inv]; exact .leaf .nil, none_⟩
    | _ => simp only [decC] at hd; cases hd
  | keep k0 =>
    cases c with
    | ktree k xs =>
      simp only [decC] at hd; cases hd
      cases hl with
      | bool h => simp [boolOf] at h
      | tree => exact ⟨_, _, rfl, by have := hk k0 rfl; subst this; exact .ktree (hT.tr (RV.tree_inv hv.unk)), none_⟩
    | tree k xs =>
      simp only [decC] at hd
      cases bor with
      | false => cases hd
      | true =>
        cases hd
        cases hl with
        | bool h => simp [boolOf] at h
        | tree => exact ⟨_, _, rfl, by have := hk k0 rfl; subst this; exact .ktree (hT.tr hv.tree_inv), none_⟩
    | _ => simp only [decC] at hd; cases hd
end
end Go.Proofs.YtpdnnndedejlhaaGreatV
