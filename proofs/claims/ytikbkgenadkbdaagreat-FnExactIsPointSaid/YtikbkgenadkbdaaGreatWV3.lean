import Derived.Test.YtikbkgenadkbdaaGreatWV2
import Derived.LoopN
import Derived.Laws.Sem
/- A reader of function bodies in plain values, part 3. -/
/- The new keys, made. -/
namespace Go.Proofs.YtikbkgenadkbdaaGreatV
open Go
set_option linter.unusedVariables false
set_option linter.unusedSimpArgs false
variable {U : Uni} {P : Program} {R : Type}
def posK (q : Nat) : List (Option Nat) → Option Nat
  | [] => none
  | some p :: r => bif Nat.beq p q then some 0 else (posK q r).map (· + 1)
  | none :: r => (posK q r).map (· + 1)
theorem posK_some {q i : Nat} : ∀ {ks : List (Option Nat)}, posK q ks = some i → ks[i]? = some (some q)
  | [], h => by cases h
  | none :: r, h => by
    simp only [posK, Option.map_eq_some_iff] at h
    obtain ⟨j, h1, rfl⟩ := h
    simpa using posK_some h1
  | some p :: r, h => by
    simp only [posK] at h
    cases hb : Nat.beq p q with
    | true =>
      have := Nat.eq_of_beq_eq_true hb; subst this
      rw [hb] at h; cases h; rfl
    | false =>
      simp only [hb, cond_false, Option.map_eq_some_iff] at h
      obtain ⟨j, h1, rfl⟩ := h
      simpa using posK_some h1
theorem somes_mem {q i : Nat} : ∀ {ks : List (Option Nat)}, ks[i]? = some (some q) → q ∈ somes ks
  | [], h => by simp at h
  | none :: r, h => by
    cases i with
    | zero => simp at h
    | succ i => exact somes_mem (ks := r) (by simpa using h)
  | some p :: r, h => by
    cases i with
    | zero => simp at h; subst h; exact List.mem_cons_self
    | succ i => exact List.mem_cons_of_mem _ (somes_mem (ks := r) (by simpa using h))
theorem posK_ndp {q i : Nat} : ∀ {ks : List (Option Nat)}, ndp (somes ks) = true → ks[i]? = some (some q) → posK q ks = some i
  | [], _, h => by simp at h
  | none :: r, hn, h => by
    cases i with
    | zero => simp at h
    | succ i => simp only [posK, posK_ndp (ks := r) hn (by simpa using h), Option.map_some]
  | some p :: r, hn, h => by
    simp only [somes, ndp, Bool.and_eq_true, Bool.not_eq_true'] at hn
    cases i with
    | zero => simp at h; subst h; simp [posK]
    | succ i =>
      have hi : r[i]? = some (some q) := by simpa using h
      have hne : Nat.beq p q = false := by
        cases hb : Nat.beq p q with
        | false => rfl
        | true =>
          have := Nat.eq_of_beq_eq_true hb; subst this
          have := hasK_iff.2 (somes_mem hi)
          rw [hn.1] at this; cases this
      simp only [posK, hne, cond_false, posK_ndp (ks := r) hn.2 hi, Option.map_some]
def ren (L : Lc) (κ0 : Nat) (ks : List (Option Nat)) (kv : Value) : Lc where
  bg q := match (if κ0 ≤ q then ks[q - κ0]? else none) with
    | some (some p) => L.bg p
    | _ => 0
  bo q := match (if κ0 ≤ q then ks[q - κ0]? else none) with
    | some (some p) => L.bo p
    | _ => 0
  bs q := match (if κ0 ≤ q then ks[q - κ0]? else none) with
    | some (some p) => L.bs p
    | _ => 0
  bn q := match (if κ0 ≤ q then ks[q - κ0]? else none) with
    | some (some p) => L.bn p
    | _ => 0
  rv q := match (if κ0 ≤ q then ks[q - κ0]? else none) with
    | some (some p) => L.rv p
    | _ => .slice none 0 0
  cl b := match L.cl b with
    | 0 => 0
    | p + 1 => match posK p ks with
      | some i => κ0 + i + 1
      | none => 0
  kv := kv
theorem ren_ok {L : Lc} {κ0 : Nat} {ks : List (Option Nat)} {kv : Value} (hn : ndp (somes ks) = true) : Ren L (ren L κ0 ks kv) κ0 ks := by
  have e : ∀ i : Nat, (if κ0 ≤ κ0 + i then ks[κ0 + i - κ0]? else none) = ks[i]? := fun i => by rw [if_pos (by omega), Nat.add_sub_cancel_left]
  refine ⟨fun i q hi => ?_, fun i hi => ?_⟩
  · refine ⟨?_, ?_, ?_, ?_, ?_, fun b hb => ?_⟩ <;> simp only [ren]
    · rw [e, hi]
    · rw [e, hi]
    · rw [e, hi]
    · rw [e, hi]
    · rw [e, hi]
    · rw [hb]; simp only [posK_ndp hn hi]
  · refine ⟨?_, ?_⟩ <;> simp only [ren] <;> rw [e, hi]
theorem ren_cl {L : Lc} {κ0 : Nat} {ks : List (Option Nat)} {kv : Value} {b q : Nat} (h : (ren L κ0 ks kv).cl b = q + 1) : ∃ i p, ks[i]? = some (some p) ∧ L.cl b = p + 1 ∧ q = κ0 + i := by
  simp only [ren] at h
  cases hc : L.cl b with
  | zero => rw [hc] at h; cases h
  | succ p =>
    rw [hc] at h; simp only at h
    cases hp : posK p ks with
    | none => rw [hp] at h; cases h
    | some i => rw [hp] at h; simp only at h; exact ⟨i, p, posK_some hp, rfl, by omega⟩
theorem ren_rvo {L : Lc} {κ0 : Nat} {ks : List (Option Nat)} {kv : Value} (h : ∀ κ, (L.rv κ).oneCell' = true) (q : Nat) : ((ren L κ0 ks kv).rv q).oneCell' = true := by
  simp only [ren]
  split
  · exact h _
  · rfl
theorem ren_mrel {C : Fr} {L : Lc} {m m' : Mem U.D} {w : World} {F' : Nat → Prop} {κ0 κ1 : Nat} {ks : List (Option Nat)} {kv : Value} {w0' : World} {G' : Nat → Prop} (hM : MRel U C L m w) (hb : BRs U F' w0' w (ren L κ0 ks kv) m' κ0 κ1)
    (hfg : ∀ b, F' b → G' b) (hg : ∀ b, G' b → b < w0'.heap.size ∧ (ren L κ0 ks kv).cl b = 0 ∧ w.heap[b]? = w0'.heap[b]?) (hs : w0'.heap.size ≤ w.heap.size) (ho : w0'.os = C.w0.os) (ht : w0'.tape = C.w0.tape) (hu : w0'.output = C.w0.output) (X : Nat → Option Value) :
    MRel U ⟨F', G', w0', X⟩ (ren L κ0 ks kv) m' w where
  me := fun κ b h => (hb κ b h).2.2
  fg := hfg
  g0 := hg
  hl := fun b h => by
    refine hM.hl b (fun h0 => h ?_)
    simp only [ren, h0]
  rvo := ren_rvo hM.rvo
  hs := hs
  os := hM.os.trans ho.symm
  tp := hM.tp.trans ht.symm
  ou := hM.ou.trans hu.symm
end Go.Proofs.YtikbkgenadkbdaaGreatV
/- What a contract says of a call; what comes back. -/
namespace Go.Proofs.YtikbkgenadkbdaaGreatV
open Go
set_option linter.unusedVariables false
set_option linter.unusedSimpArgs false
variable {U : Uni} {P : Program} {R : Type}
def ioU : List Sg → List Value → List Value
  | .c (.own _) :: ss, v :: vs => v :: ioU ss vs
  | .box _ _ :: ss, v :: vs => v :: ioU ss vs
  | .abox _ _ _ :: ss, v :: vs => v :: ioU ss vs
  | _ :: ss, _ :: vs => ioU ss vs
  | _, _ => []
def packU : List Value → Value
  | [v] => v
  | vs => .tuple vs.toArray
def Ret (U : Uni) (c : Con U) (C' : Fr) (kv : Value) (κ0 : Nat) (x : TL U.D (lvsL c.A)) (y : TL U.D (lvsL c.R ++ outsL c.A)) (vs : List Value) : Ending → World → Prop
  | .returned v, w' => ∃ L2 cs2 m2 κ2 rs, encL (c.R ++ ioS c.A) κ0 ((unty (lvsL c.R ++ outsL c.A) y).take (lvsL c.R).length ++ mergeL c.A (unty (lvsL c.A) x) ((unty (lvsL c.R ++ outsL c.A) y).drop (lvsL c.R).length)) = (cs2, m2, κ2, []) ∧
      v = packU rs ∧ rs.length = c.R.length ∧ RVs U C'.F C'.w0 L2 cs2 (rs ++ ioU c.A vs) ∧ MRel U C' L2 m2 w' ∧ L2.kv = kv ∧ (∀ q b, mget m2 q = some b → κ0 ≤ q ∧ q < κ2)
  | _, _ => False
def KFc (U : Uni) (F : Nat → Prop) (w : World) (kv : Value) : List Cg → List (VV U.D) → Prop
  | [], _ => True
  | _ :: _, [] => False
  | g :: gs, o :: os => (∀ k0, g = .keep k0 → ∃ k xs, o = .tree k xs ∧ RC U F w (.tree k xs) kv) ∧ KFc U F w kv gs os
def KF (U : Uni) (F : Nat → Prop) (w : World) (kv : Value) : List Sg → List (VV U.D) → Prop
  | [], _ => True
  | .box _ gs :: ss, os => KFc U F w kv gs (os.take gs.length) ∧ KF U F w kv ss (os.drop gs.length)
  | .c g :: ss, os => 1 ≤ os.length ∧ KF U F w kv ss (os.drop 1)
  | s :: ss, os => KF U F w kv ss (os.drop s.lvs.length)
def SoundC (P : Program) (U : Uni) (f : FuncId) (c : Con U) : Prop :=
  ∀ (κ0 : Nat) (x : TL U.D (lvsL c.A)) (y : TL U.D (lvsL c.R ++ outsL c.A)), c.f x = some y → ∀ (F G : Nat → Prop) (L : Lc) (w : World) (vs : List Value) (cs : List (VV U.D)) (m : Mem U.D) (κ : Nat),
    encL c.A 100000 (unty (lvsL c.A) x) = (cs, m, κ, []) → RVs U F w L cs vs → MRel U ⟨F, G, w, fun _ => none⟩ L m w → KF U F w L.kv c.A (unty (lvsL c.A) x) → Calls P f vs.toArray w (Ret U c ⟨F, G, w, fun _ => none⟩ L.kv κ0 x y vs)
def Enters (P : Program) (f : FuncId) : Prop := ∀ (args : Array Value) (w : World), (callFunc f args).run P w = .ok (.enter f args) w
def Goes (P : Program) (U : Uni) (C : Fr) (L : Lc) (s : St U.D) (o : Oper) (a : Act) (w : World) (c : VV U.D) (u : Upd U.D) : Prop :=
  ∀ (next : Act → World → Prop) (Q : Exit → Act → World → Prop), (∀ L' w' v, MRel U C L' (mupd s.m u) w' → RV U C.F C.w0 L' c v → L'.kv = L.kv → (∀ κ, (κ ∈ menL s.t ∨ κ ∈ menM s.m) → EqAt L L' κ) → next (a.put o.dst v) w') → o.wp P a w next Q
section
variable {C : Fr} {L : Lc} {s : St U.D} {a : Act} {w : World} {o : Oper}
theorem Gives.goes {c : VV U.D} (hM : MRel U C L s.m w) (h : Gives P U C L o a w c) : Goes P U C L s o a w c [] := by
  obtain ⟨v, hr, hv⟩ := h
  intro next Q hn
  unfold Oper.wp
  rw [hr]
  exact hn L w v hM hv rfl (fun κ _ => ⟨rfl, rfl, rfl, rfl, rfl, rfl⟩)
theorem Does.goes {c : VV U.D} {u : Upd U.D} (h : Does P U C L s o a w c u) : Goes P U C L s o a w c u := by
  obtain ⟨L', w', v, hr, hM, hv, hk, he⟩ := h
  intro next Q hn
  unfold Oper.wp
  rcases hr with hr | ⟨hr, rfl⟩
  · rw [hr]; exact hn L' w' v hM hv hk he
  · rw [hr]; exact hn L' w' _ hM hv hk he
end
def Same (n : Mem U.D) (L2 L' : Lc) : Prop := ∀ q, inM n q = true → EqAt L2 { L' with kv := L2.kv } q
theorem RV.cln {F F' : Nat → Prop} {w w0 : World} {L2 L' : Lc} {n : Mem U.D} {lent : Bool} {c : VV U.D} {v : Value} (h : RV U F w L2 c v) (hF : lent = false → ∀ {c : VV U.D} {v : Value}, RC U F w c v → RC U F' w0 c v) (hL : Same n L2 L') : RV U F' w0 L' (cln n lent c) v := by
  cases c <;> simp only [YtikbkgenadkbdaaGreatV.cln] <;> try (exact .junk _)
  case int => rw [h.int_inv]; exact .leaf (.int _ _)
  case lit => rw [h.bool_inv rfl]; exact .leaf (.bool rfl)
  case bv => rw [h.bool_inv rfl]; exact .leaf (.bool rfl)
  case nb => rw [h.bool_inv rfl]; exact .leaf (.bool rfl)
  case bp => rw [h.bool_inv rfl]; exact .leaf (.bool rfl)
  case np => rw [h.bool_inv rfl]; exact .leaf (.bool rfl)
  case nil => rw [h.nil_inv]; exact .leaf .nil
  case tree =>
    cases lent with
    | true => exact .junk _
    | false => exact .leaf (hF rfl h.tree_inv)
  case ref q =>
    cases hq : inM n q with
    | false => exact .junk _
    | true =>
      rw [h.ref_inv, ← (hL q hq).2.2.2.2.1]; exact .ref q
theorem RV.clnV {F F' : Nat → Prop} {w w0 : World} {L2 L' : Lc} {n : Mem U.D} {lent : Bool} {c : VV U.D} {v : Value} (h : RV U F w L2 c v) (hF : lent = false → ∀ {c : VV U.D} {v : Value}, RC U F w c v → RC U F' w0 c v) (hL : Same n L2 L') : RV U F' w0 L' (clnV n lent c) v := by
  cases c
  case agg cs =>
    obtain ⟨A, rfl, h1, h2, h3⟩ := h.agg_inv
    refine .agg (by simpa using h1) (fun i c v hc hv => ?_) h3
    rw [List.getElem?_map, Option.map_eq_some_iff] at hc
    obtain ⟨c', hc', rfl⟩ := hc
    exact (h2 i c' v hc' hv).cln hF hL
  case ptr q j =>
    simp only [YtikbkgenadkbdaaGreatV.clnV]
    cases hq : inM n q with
    | false => exact .junk _
    | true => rw [h.ptr_inv, ← (hL q hq).1]; exact .ptr q j
  all_goals exact h.cln hF hL
theorem BR.clnB {F F' : Nat → Prop} {w w0 w' : World} {L2 L' : Lc} {n : Mem U.D} {lent : Bool} {q : Nat} {b : Blk U.D} (h : BR U F w w' L2 q b) (hF : lent = false → ∀ {c : VV U.D} {v : Value}, RC U F w c v → RC U F' w0 c v) (hL : Same n L2 L') (hq : inM n q = true)
    (hc : ∀ x, L2.cl x = q + 1 → L'.cl x = q + 1) : BR U F' w0 w' L' q (clnB n lent b) := by
  obtain ⟨e1, e2, e3, e4, e5, -⟩ := hL q hq
  simp only at e1 e2 e3 e4 e5
  cases b with
  | box t cs =>
    obtain ⟨h1, A, h2, h3, h4⟩ := h
    refine ⟨by rw [e1]; exact hc _ h1, A, by rw [e1]; exact h2, by simpa using h3, fun i c v hc' hv => ?_⟩
    rw [List.getElem?_map, Option.map_eq_some_iff] at hc'
    obtain ⟨c', hc', rfl⟩ := hc'
    exact ⟨(h4 i c' v hc' hv).1.cln hF hL, (h4 i c' v hc' hv).2⟩
  | row k xs =>
    obtain ⟨h1, h2, h3⟩ := h
    exact ⟨by rw [e5]; exact h1.mono (fun b hb => hc b hb), by rw [e4]; exact h2, by rw [e5, e1, e2, e3]; exact h3⟩
  | arr t n k xs =>
    obtain ⟨h1, h2, h3, h4, h5, h6, vs, h7, h8⟩ := h
    exact ⟨by rw [e1]; exact hc _ h1, by rw [e2]; exact h2, by rw [e3]; exact h3, by rw [e4]; exact h4, h5, h6, vs, by rw [e1]; exact h7, h8⟩
theorem restC_rv {F F' : Nat → Prop} {w w0 : World} {L2 L' : Lc} {n : Mem U.D} {lent : Bool} (hF : lent = false → ∀ {c : VV U.D} {v : Value}, RC U F w c v → RC U F' w0 c v) (hL : Same n L2 L') :
    ∀ (gs : List Cg) (os ns : List (VV U.D)) (A' : List Value), RVs U F w L2 ns A' → (∀ (i k : Nat) (o : VV U.D), gs[i]? = some (.keep k) → os[i]? = some o → RV U F' w0 L' o L2.kv) →
      RVs U F' w0 L' (restC n lent gs os ns) A'
  | [], os, ns, A', h, _ => by
    have e : restC n lent [] os ns = ns.map (YtikbkgenadkbdaaGreatV.cln n lent) := by cases os <;> rfl
    rw [e]
    refine ⟨by simpa using h.1, fun i c v hc hv => ?_⟩
    rw [List.getElem?_map, Option.map_eq_some_iff] at hc
    obtain ⟨c', hc', rfl⟩ := hc
    exact (h.2 i c' v hc' hv).cln hF hL
  | g :: gs, [], ns, A', h, _ => by
    have e : restC n lent (g :: gs) [] ns = ns.map (YtikbkgenadkbdaaGreatV.cln n lent) := by cases g <;> rfl
    rw [e]
    refine ⟨by simpa using h.1, fun i c v hc hv => ?_⟩
    rw [List.getElem?_map, Option.map_eq_some_iff] at hc
    obtain ⟨c', hc', rfl⟩ := hc
    exact (h.2 i c' v hc' hv).cln hF hL
  | g :: gs, o :: os, [], A', h, _ => by
    have e : restC n lent (g :: gs) (o :: os) [] = [] := by cases g <;> rfl
    rw [e]; exact ⟨h.1, fun i c v hc => by simp at hc⟩
  | g :: gs, o :: os, x :: ns, A', h, hk => by
    obtain ⟨v, vs, rfl, h1, h2⟩ := h.uncons
    have ih := restC_rv hF hL gs os ns vs h2 (fun i k o' hg ho => hk (i + 1) k o' (by simpa using hg) (by simpa using ho))
    have plain : restC n lent (g :: gs) (o :: os) (x :: ns) = YtikbkgenadkbdaaGreatV.cln n lent x :: restC n lent gs os ns → RVs U F' w0 L' (restC n lent (g :: gs) (o :: os) (x :: ns)) (v :: vs) := by
      intro e; rw [e]; exact RVs.cons (h1.cln hF hL) ih
    cases g with
    | keep k =>
      cases x with
      | ktree k' xs =>
        have hv : v = L2.kv := by
          cases h1 with
          | leaf h => cases h with
            | bool hb => simp [boolOf] at hb
          | ktree => rfl
        subst hv
        exact RVs.cons (hk 0 k o rfl rfl) ih
      | _ => exact plain rfl
    | _ => exact plain rfl
end Go.Proofs.YtikbkgenadkbdaaGreatV
/- Memory behind a call. -/
namespace Go.Proofs.YtikbkgenadkbdaaGreatV
open Go
set_option linter.unusedVariables false
set_option linter.unusedSimpArgs false
variable {U : Uni} {P : Program} {R : Type}
section
variable {C : Fr} {L : Lc} {m : Mem U.D} {w : World}
theorem nKpC_zero : ∀ (gs : List Cg), nKpC gs = 0 → ∀ (i k : Nat), gs[i]? ≠ some (.keep k)
  | [], _, i, k, h => by simp at h
  | g :: gs, h, i, k, hi => by
    cases g with
    | keep k' => simp [nKpC] at h
    | _ =>
      cases i with
      | zero => simp at hi
      | succ i => exact nKpC_zero gs (by simpa [nKpC] using h) i k (by simpa using hi)
theorem nKpC_one : ∀ (gs : List Cg), nKpC gs ≤ 1 → ∀ (i j k l : Nat), gs[i]? = some (.keep k) → gs[j]? = some (.keep l) → i = j
  | [], _, i, j, k, l, h, _ => by simp at h
  | g :: gs, h, i, j, k, l, hi, hj => by
    have z : ∀ k', g = .keep k' → nKpC gs = 0 := fun k' e => by subst e; simp only [nKpC] at h; omega
    have le : nKpC gs ≤ 1 := by cases g <;> simp only [nKpC] at h <;> omega
    cases i with
    | zero =>
      cases j with
      | zero => rfl
      | succ j => simp at hi; exact absurd (by simpa using hj) (nKpC_zero gs (z k hi) j l)
    | succ i =>
      cases j with
      | zero => simp at hj; exact absurd (by simpa using hi) (nKpC_zero gs (z l hj) i k)
      | succ j => rw [nKpC_one gs le i j k l (by simpa using hi) (by simpa using hj)]
theorem keep_zero (L L' : Lc) (w : World) : ∀ (ss : List Sg) (cs : List (VV U.D)), nKp ss = 0 → KeepOks U L L' w ss cs
  | [], cs, _ => .nil _
  | _ :: _, [], _ => .no _
  | s :: ss, c :: cs, h => by
    have hs : nKp ss = 0 := by cases s <;> simp only [nKp] at h <;> omega
    refine .cons ?_ (keep_zero L L' w ss cs hs)
    cases s <;> try (exact trivial)
    case box t gs =>
      cases c <;> try (exact trivial)
      intro A t' lay _ i k v hg _
      exact absurd hg (nKpC_zero gs (by simp only [nKp] at h; omega) i k)
open Classical in
theorem keep_ex (L : Lc) (w : World) : ∀ (ss : List Sg) (cs : List (VV U.D)), nKp ss ≤ 1 → ∃ kv, ∀ L' : Lc, L'.kv = kv → KeepOks U L L' w ss cs
  | [], cs, _ => ⟨undef, fun _ _ => .nil _⟩
  | _ :: _, [], _ => ⟨undef, fun _ _ => .no _⟩
  | s :: ss, c :: cs, h => by
    have hs : nKp ss ≤ 1 := by cases s <;> simp only [nKp] at h <;> omega
    have triv_ : (∀ L' : Lc, KeepOk L L' w s c) → ∃ kv, ∀ L' : Lc, L'.kv = kv → KeepOks U L L' w (s :: ss) (c :: cs) := by
      intro ht
      obtain ⟨kv, hkv⟩ := keep_ex L w ss cs hs
      exact ⟨kv, fun L' hL => .cons (ht L') (hkv L' hL)⟩
    cases s <;> try (exact triv_ (fun _ => trivial))
    case box t gs =>
      cases c <;> try (exact triv_ (fun _ => trivial))
      case ptr κ j =>
        by_cases hz : nKpC gs = 0
        · refine triv_ (fun L' A t' lay _ i k v hg _ => absurd hg (nKpC_zero gs hz i k))
        · have h0 : nKp ss = 0 := by simp only [nKp] at h; omega
          have h1 : nKpC gs ≤ 1 := by simp only [nKp] at h; omega
          by_cases hh : ∃ (A : Array Value) (t' : Nat) (lay : Nat × Nat), w.heap[L.bg κ]? = some (Obj.cells A t' lay) ∧ ∃ (i k : Nat) (v : Value), gs[i]? = some (Cg.keep k) ∧ A[i]? = some v
          · obtain ⟨A, t', lay, hA, i, k, v, hi, hv⟩ := hh
            refine ⟨v, fun L' hL => .cons (fun A' t'' lay' hA' i' k' v' hg' hv' => ?_) (keep_zero L L' w ss cs h0)⟩
            rw [hA] at hA'
            cases hA'
            have := nKpC_one gs h1 i i' k k' hi hg'
            subst this
            rw [hv] at hv'; cases hv'; exact hL.symm
          · refine ⟨undef, fun L' hL => .cons (fun A' t'' lay' hA' i' k' v' hg' hv' => absurd ⟨A', t'', lay', hA', i', k', v', hg', hv'⟩ hh) (keep_zero L L' w ss cs h0)⟩
theorem ioRVs {F : Nat → Prop} {w0 : World} : ∀ (ss : List Sg) (cs : List (VV U.D)) (vs : List Value), RVs U F w0 L cs vs → RVs U F w0 L (ioV ss cs) (ioU ss vs)
  | [], cs, vs, _ => by cases cs <;> cases vs <;> exact RVs.nil
  | s :: ss, [], vs, h => by
    have : vs = [] := List.eq_nil_of_length_eq_zero h.1.symm
    subst this
    have e : ioV (s :: ss) ([] : List (VV U.D)) = [] := by cases s <;> (try rfl) <;> rename_i g <;> cases g <;> rfl
    have e2 : ioU (s :: ss) [] = [] := by cases s <;> (try rfl) <;> rename_i g <;> cases g <;> rfl
    rw [e, e2]; exact RVs.nil
  | s :: ss, c :: cs, vs, h => by
    obtain ⟨v, vs', rfl, h1, h2⟩ := h.uncons
    have ih := ioRVs ss cs vs' h2
    cases s with
    | c g => cases g <;> first | exact ih | exact RVs.cons h1 ih
    | box t gs => exact RVs.cons h1 ih
    | abox t n k => exact RVs.cons h1 ih
    | _ => exact ih
theorem ioKeep {L' : Lc} : ∀ (ss : List Sg) (cs : List (VV U.D)), KeepOks U L L' w ss cs → KeepOks U L L' w (ioS ss) (ioV ss cs)
  | [], cs, _ => .nil _
  | s :: ss, [], h0 => by
    clear h0
    have e : ioV (s :: ss) ([] : List (VV U.D)) = [] := by cases s <;> (try rfl) <;> rename_i g <;> cases g <;> rfl
    rw [e]; exact .no _
  | s :: ss, c :: cs, h => by
    cases h with
    | cons h1 h2 =>
      have ih := ioKeep ss cs h2
      cases s with
      | c g => cases g <;> first | exact ih | exact .cons h1 ih
      | box t gs => exact .cons h1 ih
      | abox t n k => exact .cons h1 ih
      | _ => exact ih
theorem mupd_app (m : Mem U.D) (u u' : Upd U.D) : mupd m (u ++ u') = mupd (mupd m u) u' := by
  induction u generalizing m with
  | nil => rfl
  | cons x xs ih =>
    obtain ⟨q, b⟩ := x
    cases b <;> exact ih _
theorem mget_dels (m : Mem U.D) (ks : List Nat) (q : Nat) : mget (mupd m (ks.map (fun q => (q, none)))) q = if q ∈ ks then none else mget m q := by
  induction ks generalizing m with
  | nil => simp [mupd]
  | cons x xs ih =>
    simp only [List.map_cons, mupd, ih, mget_mdel, List.mem_cons]
    by_cases h1 : q ∈ xs
    · simp [h1]
    · by_cases h2 : q = x
      · subst h2; simp
      · simp [h1, h2, Ne.symm h2]
theorem mget_puts (m n : Mem U.D) (f : Blk U.D → Blk U.D) (q : Nat) : mget (mupd m (n.reverse.map (fun p => (p.1, some (f p.2))))) q = match mget n q with
    | some b => some (f b)
    | none => mget m q := by
  induction n with
  | nil => rfl
  | cons x xs ih =>
    obtain ⟨p, b⟩ := x
    simp only [List.reverse_cons, List.map_append, List.map_cons, List.map_nil, mupd_app, mupd, mget_mput, mget]
    by_cases h : p = q
    · subst h; simp
    · have hb : Nat.beq p q = false := by
        cases hb : Nat.beq p q with
        | false => rfl
        | true => exact absurd (Nat.eq_of_beq_eq_true hb) h
      simp only [hb, cond_false, ih]
      simp [h, Ne.symm h]
end
end Go.Proofs.YtikbkgenadkbdaaGreatV
/- Memory behind a call, joined. -/
namespace Go.Proofs.YtikbkgenadkbdaaGreatV
open Go
set_option linter.unusedVariables false
set_option linter.unusedSimpArgs false
variable {U : Uni} {P : Program} {R : Type}
def mrgF (L L2 : Lc) (m2 : Mem U.D) (f : Nat → Nat) : Lc where
  bg q := if inM m2 q = true then L2.bg q else L.bg q
  bo q := if inM m2 q = true then L2.bo q else L.bo q
  bs q := if inM m2 q = true then L2.bs q else L.bs q
  bn q := if inM m2 q = true then L2.bn q else L.bn q
  rv q := if inM m2 q = true then L2.rv q else L.rv q
  cl := f
  kv := L.kv
def mcl (L L2 : Lc) (ks : List Nat) (b : Nat) : Nat := match L2.cl b with
  | q + 1 => q + 1
  | 0 => match L.cl b with
    | 0 => 0
    | p + 1 => if p ∈ ks then 0 else p + 1
section
variable {C : Fr} {L L2 : Lc} {s : St U.D} {w w' : World} {m2 : Mem U.D} {ks : List Nat} {F' G' : Nat → Prop} {X : Nat → Option Value} {lent : Bool}
theorem inM_iff {m : Mem U.D} {q : Nat} : inM m q = true ↔ ∃ b, mget m q = some b := by
  unfold inM
  cases mget m q with
  | none => simp
  | some b => simp
theorem mrg_same (f : Nat → Nat) : Same m2 L2 (mrgF L L2 m2 f) := fun q hq => by simp [EqAt, mrgF, hq]
theorem mrg_old (f : Nat → Nat) {q : Nat} (h : ¬ inM m2 q = true) : EqAt L (mrgF L L2 m2 f) q := by simp [EqAt, mrgF, h]
theorem mrg_rvo (h1 : ∀ κ, (L.rv κ).oneCell' = true) (h2 : ∀ κ, (L2.rv κ).oneCell' = true) (f : Nat → Nat) (q : Nat) : ((mrgF L L2 m2 f).rv q).oneCell' = true := by
  simp only [mrgF]
  split
  · exact h2 q
  · exact h1 q
theorem call_mrel (hM : MRel U C L s.m w) (hM2 : MRel U ⟨F', G', w, X⟩ L2 m2 w') (hG : ∀ b, b < w.heap.size → (∀ q, L.cl b = q + 1 → q ∉ ks) → G' b)
    (hF : lent = false → ∀ {c : VV U.D} {v : Value}, RC U F' w c v → RC U C.F C.w0 c v)
    (hnew : ∀ q b, mget m2 q = some b → mget s.m q = none ∧ q ∉ menL s.t ∧ q ∉ menM s.m) :
    MRel U C (mrgF L L2 m2 (mcl L L2 ks)) (mupd s.m (ks.map (fun q => (q, none)) ++ m2.reverse.map (fun p => (p.1, some (clnB m2 lent p.2))))) w' := by
  have hold : ∀ q b, mget s.m q = some b → ¬ inM m2 q = true := by
    intro q b hb hi
    obtain ⟨b', hb'⟩ := inM_iff.1 hi
    rw [(hnew q b' hb').1] at hb; cases hb
  have hmen : ∀ q, q ∈ menM s.m → ¬ inM m2 q = true := by
    intro q hq hi
    obtain ⟨b', hb'⟩ := inM_iff.1 hi
    exact (hnew q b' hb').2.2 hq
  have hkeep : ∀ x, x < w.heap.size → (∀ q, L.cl x = q + 1 → q ∉ ks) → L2.cl x = 0 ∧ w'.heap[x]? = w.heap[x]? := fun x h1 h2 => by
    obtain ⟨-, h3, h4⟩ := hM2.g0 x (hG x h1 h2)
    exact ⟨h3, h4⟩
  refine hM.step (fun q b hq => ?_) (fun b hb => ?_) (fun b hb => ?_) (mrg_rvo hM.rvo hM2.rvo _) hM2.hs hM2.os hM2.tp hM2.ou
  · rw [mupd_app, mget_puts] at hq
    cases hq2 : mget m2 q with
    | some b2 =>
      rw [hq2] at hq; cases hq
      right
      exact (hM2.me q b2 hq2).clnB hF (mrg_same _) (inM_iff.2 ⟨b2, hq2⟩) (fun x hx => by simp only [mrgF, mcl, hx])
    | none =>
      rw [hq2] at hq
      simp only [mget_dels] at hq
      by_cases hk : q ∈ ks
      · rw [if_pos hk] at hq; cases hq
      · rw [if_neg hk] at hq
        refine .inl ⟨hq, mrg_old _ (hold q b hq), fun p hp => mrg_old _ (hmen p (menM_mem hq hp)), fun x hx => ?_⟩
        obtain ⟨h1, h2⟩ := hkeep x (hM.hl x (by rw [hx]; exact Nat.succ_ne_zero q)) (fun q' hq' => by
          rw [hx] at hq'
          have e : q = q' := by omega
          rw [← e]; exact hk)
        exact ⟨by simp only [mrgF, mcl, h1, hx, if_neg hk], h2⟩
  · obtain ⟨h1, h2, h3⟩ := hM.g0 b hb
    obtain ⟨h4, h5⟩ := hkeep b (Nat.lt_of_lt_of_le h1 hM.hs) (fun q hq => by omega)
    exact ⟨by simp only [mrgF, mcl, h4, h2], h5⟩
  · by_cases h2 : L2.cl b = 0
    · have h1 : L.cl b ≠ 0 := fun h1 => hb (by simp only [mrgF, mcl, h2, h1])
      exact Nat.lt_of_lt_of_le (hM.hl b h1) hM2.hs
    · exact hM2.hl b h2
theorem RO.len_eq {w w' : World} {ok ok' : Nat → Prop} {k k' : Nat} {xs : List (U.D k)} {ys : List (U.D k')} {v : Value} (h : RO U w ok (.tree k xs) v) (h' : RO U w' ok' (.tree k' ys) v) : xs.length = ys.length := by
  cases h with
  | bool h => simp [boolOf] at h
  | tree0 =>
    cases h' with
    | tree0 => rfl
  | tree f hg hh hc hs hr =>
    generalize he : xs.length = n at h'
    cases h' with
    | tree => rfl
def fren (f : Nat → Nat) (κ κ' : Nat) (x : Nat) : Nat := if f x = κ' + 1 then κ + 1 else if f x = κ + 1 then 0 else f x
theorem rename {f : Nat → Nat} {m0 : Mem U.D} (hcur : MRel U C (mrgF L L2 m2 f) m0 w') {κ κ' : Nat} {b' : Blk U.D} (hb : BR U C.F C.w0 w' (mrgF L L2 m2 (fren f κ κ')) κ b') :
    MRel U C (mrgF L L2 m2 (fren f κ κ')) (mdel (mput m0 κ b') κ') w' := by
  refine hcur.step (fun q b hq => ?_) (fun b hb => ?_) (fun b hb => ?_) hcur.rvo (Nat.le_refl _) rfl rfl rfl
  · rw [mget_mdel, mget_mput] at hq
    by_cases h1 : q = κ'
    · rw [if_pos h1] at hq; cases hq
    · rw [if_neg h1] at hq
      by_cases h2 : q = κ
      · subst h2; rw [if_pos rfl] at hq; cases hq; exact .inr hb
      · rw [if_neg h2] at hq
        refine .inl ⟨hq, ⟨rfl, rfl, rfl, rfl, rfl, rfl⟩, fun _ _ => ⟨rfl, rfl, rfl, rfl, rfl, rfl⟩, fun x hx => ⟨?_, rfl⟩⟩
        simp only [mrgF] at hx ⊢
        simp only [fren, hx]
        rw [if_neg (by omega), if_neg (by omega)]
  · obtain ⟨-, h2, -⟩ := hcur.g0 b hb
    refine ⟨?_, rfl⟩
    simp only [mrgF] at h2 ⊢
    simp [fren, h2]
  · refine hcur.hl b (fun h => hb ?_)
    simp only [mrgF] at h ⊢
    simp [fren, h]
theorem back_mrel (hM : MRel U C L s.m w) (hM2 : MRel U ⟨F', G', w, X⟩ L2 m2 w') (hF : lent = false → ∀ {c : VV U.D} {v : Value}, RC U F' w c v → RC U C.F C.w0 c v)
    (hnew : ∀ q b, mget m2 q = some b → mget s.m q = none ∧ q ∉ menL s.t ∧ q ∉ menM s.m) {L1 : Lc} (hkv : L1.kv = L2.kv) :
    ∀ (ss : List Sg) (vs ns : List (VV U.D)) (us : List Value) (f : Nat → Nat) (m0 : Mem U.D), MRel U C (mrgF L L2 m2 f) m0 w' → RVs U C.F C.w0 L vs us → RVs U F' w L2 ns us → KeepOks U L L1 w ss vs →
      (∀ κ' ∈ topK ns, inM m2 κ' = true → ∀ x, L2.cl x = κ' + 1 → f x = κ' + 1) → ∃ f', MRel U C (mrgF L L2 m2 f') (mupd m0 (back lent s.m m2 ss vs ns)) w'
  | s0 :: ss, v0 :: vs, n0 :: ns, us, f, m0, hcur, hv, hn, hk, hc => by
    obtain ⟨u, us', rfl, hv1, hv2⟩ := hv.uncons
    obtain ⟨u', us'', e, hn1, hn2⟩ := hn.uncons
    cases e
    have hold : ∀ q b, mget s.m q = some b → ¬ inM m2 q = true := by
      intro q b hb hi
      obtain ⟨b', hb'⟩ := inM_iff.1 hi
      rw [(hnew q b' hb').1] at hb; cases hb
    have hmen : ∀ q, q ∈ menM s.m → ¬ inM m2 q = true := by
      intro q hq hi
      obtain ⟨b', hb'⟩ := inM_iff.1 hi
      exact (hnew q b' hb').2.2 hq
    have stop : back lent s.m m2 (s0 :: ss) (v0 :: vs) (n0 :: ns) = [] → ∃ f', MRel U C (mrgF L L2 m2 f') (mupd m0 (back lent s.m m2 (s0 :: ss) (v0 :: vs) (n0 :: ns))) w' := by
      intro e; rw [e]; exact ⟨f, hcur⟩
    have go : ∀ κ κ' b', inM m2 κ' = true → ¬ inM m2 κ = true → hasK κ' (topK ns) = false → topK (n0 :: ns) = κ' :: topK ns → back lent s.m m2 (s0 :: ss) (v0 :: vs) (n0 :: ns) = (κ, some b') :: (κ', none) :: back lent s.m m2 ss vs ns →
        BR U C.F C.w0 w' (mrgF L L2 m2 (fren f κ κ')) κ b' → ∃ f', MRel U C (mrgF L L2 m2 f') (mupd m0 (back lent s.m m2 (s0 :: ss) (v0 :: vs) (n0 :: ns))) w' := by
      intro κ κ' b' h1 h2 h3 h4 h5 h6
      rw [h5]
      simp only [mupd]
      have hk2 : KeepOks U L L1 w ss vs := by cases hk with
        | cons a b => exact b
      refine back_mrel hM hM2 hF hnew hkv ss vs ns us' _ _ (rename hcur h6) hv2 hn2 hk2 (fun q hq hi x hx => ?_)
      have := hc q (by rw [h4]; exact List.mem_cons_of_mem _ hq) hi x hx
      have hqk : q ≠ κ' := fun e => by subst e; rw [hasK_iff.2 hq] at h3; cases h3
      have hqk2 : q ≠ κ := fun e => h2 (e ▸ hi)
      simp only [fren, this]
      rw [if_neg (by omega), if_neg (by omega)]
    have stop_ := stop
    cases s0 with
    | box t0 gs =>
      cases v0 <;> try (exact stop rfl)
      case ptr κ j =>
        cases n0 <;> try (exact stop rfl)
        case ptr κ' j' =>
          cases hm : mget s.m κ with
          | none => exact stop (by simp only [back, hm])
          | some b =>
            cases hm2 : mget m2 κ' with
            | none => exact stop (by simp only [back, hm, hm2])
            | some b2 =>
              cases b with
              | row _ _ => exact stop (by simp only [back, hm, hm2])
              | arr _ _ _ _ => exact stop (by simp only [back, hm, hm2])
              | box t cs =>
                cases b2 with
                | row _ _ => exact stop (by simp only [back, hm, hm2])
                | arr _ _ _ _ => exact stop (by simp only [back, hm, hm2])
                | box t' ds =>
                  cases hb : (Nat.beq t t' && !hasK κ' (topK ns)) with
                  | false => exact stop (by simp only [back, hm, hm2, hb, cond_false])
                  | true =>
                    simp only [Bool.and_eq_true, Bool.not_eq_true'] at hb
                    have := Nat.eq_of_beq_eq_true hb.1; subst this
                    have hi : inM m2 κ' = true := inM_iff.2 ⟨_, hm2⟩
                    have hno := hold κ _ hm
                    refine go κ κ' (.box t (restC m2 lent gs cs ds)) hi hno hb.2 rfl (by simp only [back, hm, hm2, hb.2, Nat.beq_refl, Bool.not_false, Bool.and_true, cond_true]) ?_
                    obtain ⟨a1, A, a2, a3, a4⟩ := hM.me κ _ hm
                    obtain ⟨b1, A', b2, b3, b4⟩ := hM2.me κ' _ hm2
                    have hg : L.bg κ = L2.bg κ' := by
                      have h1 := hv1.ptr_inv
                      rw [hn1.ptr_inv] at h1
                      simp only [Value.pointer.injEq, Option.some.injEq, Addr.mk.injEq] at h1
                      exact h1.1.symm
                    have hbg : ∀ f, (mrgF L L2 m2 f).bg κ = L2.bg κ' := fun f => by simp only [mrgF, if_neg hno, hg]
                    have hrs : RVs U C.F C.w0 (mrgF L L2 m2 (fren f κ κ')) (restC m2 lent gs cs ds) A'.toList := by
                      refine restC_rv hF (mrg_same _) gs cs ds A'.toList ⟨by simpa using b3, fun i c v hc hv => (b4 i c v hc (by rw [← Array.getElem?_toList]; exact hv)).1⟩ (fun i k o hg ho => ?_)
                      have hi : i < A.size := by rw [← a3]; exact idx_lt ho
                      have hA := Array.getElem?_eq_getElem hi
                      have hk1 : KeepOk L L1 w (.box t0 gs) (VV.ptr (D := U.D) κ j) := by cases hk with
                        | cons a b => exact a
                      have : A[i] = L2.kv := (hk1 A t (0, 0) a2 i k _ hg hA).trans hkv
                      rw [← this]
                      exact (a4 i o _ ho hA).1.ext rfl (fun q hq => mrg_old _ (hmen q (menM_mem hm (by rw [menB]; exact menL_mem ho hq))))
                    refine ⟨?_, A', by rw [hbg]; exact b2, by simpa using hrs.1, fun i c v hc hv => ⟨hrs.2 i c v hc (by rw [Array.getElem?_toList]; exact hv), ?_⟩⟩
                    · rw [hbg]; simp only [mrgF, fren]
                      rw [hc κ' (by simp [topK]) hi _ b1, if_pos rfl]
                    · have hi : i < ds.length := by rw [b3]; exact (Array.getElem?_eq_some_iff.1 hv).1
                      exact (b4 i _ v (List.getElem?_eq_getElem hi) hv).2
    | c g =>
      cases v0 <;> try (exact stop rfl)
      case ref κ =>
        cases n0 <;> try (exact stop rfl)
        case ref κ' =>
          cases hm : mget s.m κ with
          | none => exact stop (by simp only [back, hm])
          | some b =>
            cases hm2 : mget m2 κ' with
            | none => exact stop (by simp only [back, hm, hm2])
            | some b2 =>
              cases b with
              | box _ _ => exact stop (by simp only [back, hm, hm2])
              | arr _ _ _ _ => exact stop (by simp only [back, hm, hm2])
              | row k xs =>
                cases b2 with
                | box _ _ => exact stop (by simp only [back, hm, hm2])
                | arr _ _ _ _ => exact stop (by simp only [back, hm, hm2])
                | row k' ys =>
                  cases hb : (Nat.beq k k' && !hasK κ' (topK ns)) with
                  | false => exact stop (by simp only [back, hm, hm2, hb, cond_false])
                  | true =>
                    simp only [Bool.and_eq_true, Bool.not_eq_true'] at hb
                    have := Nat.eq_of_beq_eq_true hb.1; subst this
                    have hi : inM m2 κ' = true := inM_iff.2 ⟨_, hm2⟩
                    have hno := hold κ _ hm
                    refine go κ κ' (.row k ys) hi hno hb.2 rfl (by simp only [back, hm, hm2, hb.2, Nat.beq_refl, Bool.not_false, Bool.and_true, cond_true]) ?_
                    obtain ⟨a1, a2, a3⟩ := hM.me κ _ hm
                    obtain ⟨b1, b2, b3⟩ := hM2.me κ' _ hm2
                    have hg : L.rv κ = L2.rv κ' := by
                      have h1 := hv1.ref_inv
                      rw [hn1.ref_inv] at h1
                      exact h1.symm
                    obtain ⟨e1, e2, e3, e4, e5, e6⟩ := mrg_old (L := L) (L2 := L2) (fren f κ κ') hno
                    refine ⟨?_, ?_, ?_⟩
                    · rw [e5, hg]
                      exact b1.mono (fun b hb => by simp only [mrgF, fren]; rw [hc κ' (by simp [topK]) hi _ hb, if_pos rfl])
                    · rw [e4, a2]; rw [hg] at a1; exact RO.len_eq a1 b1
                    · rw [e5, e1, e2, e3]; exact a3
    | _ => exact stop (by cases v0 <;> rfl)
  | [], vs, ns, us, f, m0, hcur, hv, hn, hk, hc => ⟨f, by cases vs <;> cases ns <;> exact hcur⟩
  | s0 :: ss, [], ns, us, f, m0, hcur, hv, hn, hk, hc => ⟨f, by cases s0 <;> cases ns <;> exact hcur⟩
  | s0 :: ss, v0 :: vs, [], us, f, m0, hcur, hv, hn, hk, hc => ⟨f, by cases s0 <;> cases v0 <;> exact hcur⟩
end
end Go.Proofs.YtikbkgenadkbdaaGreatV
/- A call. -/
namespace Go.Proofs.YtikbkgenadkbdaaGreatV
open Go
set_option linter.unusedVariables false
set_option linter.unusedSimpArgs false
variable {U : Uni} {P : Program} {R : Type}
theorem absent_inv {m : Mem U.D} : ∀ (n κ : Nat), absent m κ n = true → ∀ q, κ ≤ q → q < κ + n → mget m q = none
  | 0, κ, _, q, h1, h2 => by omega
  | n + 1, κ, h, q, h1, h2 => by
    simp only [absent, Bool.and_eq_true] at h
    by_cases e : κ = q
    · subst e
      cases hm : mget m κ with
      | none => rfl
      | some b => rw [hm] at h; exact absurd h.1 (by simp)
    · exact absent_inv n (κ + 1) h.2 q (by omega) (by omega)
theorem disj_inv : ∀ (a b : List Nat), disj a b = true → ∀ q ∈ a, q ∉ b
  | [], b, _, q, h => by simp at h
  | x :: xs, b, h, q, hq => by
    simp only [disj, Bool.and_eq_true, Bool.not_eq_true'] at h
    rcases List.mem_cons.1 hq with rfl | hq
    · intro hb
      rw [hasK_iff.2 hb] at h; cases h.1
    · exact disj_inv xs b h.2 q hq
theorem mget_mem {m : Mem U.D} {q : Nat} {b : Blk U.D} (h : mget m q = some b) : (q, b) ∈ m := by
  induction m with
  | nil => cases h
  | cons x xs ih =>
    obtain ⟨p, c⟩ := x
    simp only [mget] at h
    cases hb : Nat.beq p q with
    | true =>
      have := Nat.eq_of_beq_eq_true hb; subst this
      rw [hb] at h; cases h; exact List.mem_cons_self
    | false => rw [hb] at h; exact List.mem_cons_of_mem _ (ih h)
theorem RV.pack {F : Nat → Prop} {w0 : World} {L : Lc} {cs : List (VV U.D)} {vs : List Value} (h : RVs U F w0 L cs vs) : RV U F w0 L (packR cs) (packU vs) := by
  have tup_ : RV U F w0 L (.tup cs) (.tuple vs.toArray) := .tup (by simpa using h.1) (fun i c v hc hv => h.2 i c v hc (by simpa using hv))
  have hl := h.1
  match cs, vs, h, hl, tup_ with
  | [], [], _, _, t => exact t
  | [c], [v], h, _, _ => exact h.2 0 c v rfl rfl
  | _ :: _ :: _, _ :: _ :: _, _, _, t => exact t
theorem RVs.app {F : Nat → Prop} {w0 : World} {L : Lc} {as bs : List (VV U.D)} {vs us : List Value} (h : RVs U F w0 L as vs) (h2 : RVs U F w0 L bs us) : RVs U F w0 L (as ++ bs) (vs ++ us) := by
  induction as generalizing vs with
  | nil =>
    have : vs = [] := List.eq_nil_of_length_eq_zero h.1.symm
    subst this; exact h2
  | cons x xs ih =>
    obtain ⟨v, vs', rfl, h3, h4⟩ := h.uncons
    exact RVs.cons h3 (ih h4)
theorem RVs.unapp {F : Nat → Prop} {w0 : World} {L : Lc} : ∀ (n : Nat) {cs : List (VV U.D)} {vs us : List Value}, RVs U F w0 L cs (vs ++ us) → vs.length = n → RVs U F w0 L (cs.take n) vs ∧ RVs U F w0 L (cs.drop n) us
  | 0, cs, vs, us, h, hn => by
    have : vs = [] := List.eq_nil_of_length_eq_zero hn
    subst this; exact ⟨RVs.nil, h⟩
  | n + 1, [], vs, us, h, hn => by have := h.1; simp at this; omega
  | n + 1, c :: cs, [], us, h, hn => by cases hn
  | n + 1, c :: cs, v :: vs, us, h, hn => by
    obtain ⟨v', vs', e, h1, h2⟩ := h.uncons
    cases e
    obtain ⟨h3, h4⟩ := RVs.unapp n h2 (by simpa using hn)
    exact ⟨RVs.cons h1 h3, h4⟩
section
variable {C : Fr} {L : Lc} {s : St U.D} {m : Mem U.D} {a : Act} {w : World} {E : Nat → List (Con U)} {d : Nat} {K : VV U.D → Upd U.D → Option R} {r : R} {o : Oper}
theorem kfc (PL : Ulaw U) (hM : MRel U C L m w) {F' : Nat → Prop} {w0' : World} {bl : List Nat} (hT : Tgt U C L w F' w0' bl) {kv : Value} : ∀ (gs : List Cg) (cs ls ls' : List (VV U.D)) (vs : List Value), decCL true m gs cs = some ls → LQs ls' ls → RVs U C.F C.w0 L cs vs → (∀ (i k : Nat) (v : Value), gs[i]? = some (.keep k) → vs[i]? = some v → v = kv) → KFc U F' w0' kv gs ls'
  | [], [], ls, ls', vs, hd, hl, hv, hk => trivial
  | [], _ :: _, ls, ls', vs, hd, _, _, _ => by cases hd
  | _ :: _, [], ls, ls', vs, hd, _, _, _ => by cases hd
  | g :: gs, c :: cs, ls, ls', vs, hd, hl, hv, hk => by
    simp only [decCL] at hd
    cases h1 : decC true m g c with
    | none => rw [h1] at hd; cases hd
    | some a =>
      cases h2 : decCL true m gs cs with
      | none => rw [h1, h2] at hd; cases hd
      | some b =>
        rw [h1, h2] at hd
        cases hd
        obtain ⟨a', b', rfl, hl1, hl2⟩ := hl.inv
        obtain ⟨v, vs', rfl, hv1, hv2⟩ := hv.uncons
        refine ⟨fun k0 hg => ?_, kfc PL hM hT gs cs b b' vs' h2 hl2 hv2 (fun i k v hg hv => hk (i + 1) k v (by simpa using hg) (by simpa using hv))⟩
        subst hg
        have e := hk 0 k0 v rfl rfl
        subst e
        cases c <;> simp only [decC] at h1 <;> try (cases h1)
        all_goals
          cases hl1 with
          | tree => first | exact ⟨_, _, rfl, hT.tr hv1.tree_inv⟩ | exact ⟨_, _, rfl, hT.tr (RV.tree_inv hv1.unk)⟩
          | bool h => simp [boolOf] at h
theorem dec_len1 {bor : Bool} {g : Cg} {c : VV U.D} {ls : List (VV U.D)} (h : dec bor m (.c g) c = some ls) : ls.length = 1 := by
  cases g <;> simp only [dec] at h <;> first | (cases h; done) | (split at h <;> cases h; rfl)
theorem kf (PL : Ulaw U) (hM : MRel U C L m w) {F' : Nat → Prop} {w0' : World} {bl : List Nat} (hT : Tgt U C L w F' w0' bl) {L' : Lc} : ∀ (ss : List Sg) (cs ls ls' : List (VV U.D)) (vs : List Value), decL true m ss cs = some ls → LQs ls' ls → RVs U C.F C.w0 L cs vs → KeepOks U L L' w ss cs → (∀ s c ls, dec true m s c = some ls → ls.length = s.lvs.length) → KF U F' w0' L'.kv ss ls'
  | [], cs, ls, ls', vs, hd, hl, hv, hk, hln => trivial
  | _ :: _, [], ls, ls', vs, hd, _, _, _, _ => by cases hd
  | s :: ss, c :: cs, ls, ls', vs, hd, hl, hv, hk, hln => by
    simp only [decL] at hd
    cases h1 : dec true m s c with
    | none => rw [h1] at hd; cases hd
    | some a =>
      cases h2 : decL true m ss cs with
      | none => rw [h1, h2] at hd; cases hd
      | some b =>
        rw [h1, h2] at hd
        cases hd
        have hlen := hln s c a h1
        obtain ⟨a', b', rfl, hl1, hl2⟩ := hl.split
        obtain ⟨v, vs', rfl, hv1, hv2⟩ := hv.uncons
        cases hk with
        | cons hk1 hk2 =>
          have ih := kf PL hM hT ss cs b b' vs' h2 hl2 hv2 hk2 hln
          have hla : a'.length = s.lvs.length := hl1.1.trans hlen
          cases s with
          | box t gs =>
            have hg : a'.length = gs.length := by simpa [Sg.lvs] using hla
            refine ⟨?_, ?_⟩
            · rw [← hg, List.take_left]
              cases c with
              | ptr κ j =>
                cases j with
                | succ j => simp only [dec] at h1; cases h1
                | zero =>
                  simp only [dec] at h1
                  cases hm : mget m κ with
                  | none => rw [hm] at h1; cases h1
                  | some bb =>
                    rw [hm] at h1
                    cases bb with
                    | box t' cs0 =>
                      simp only at h1
                      cases ht : Nat.beq t t' with
                      | false => rw [ht] at h1; cases h1
                      | true =>
                        simp only [ht, cond_true] at h1
                        obtain ⟨-, A, hA, hn, hAl⟩ := hM.me κ _ hm
                        exact kfc PL hM hT gs cs0 a a' A.toList h1 hl1 ⟨by simpa using hn, fun i c v hc hv => (hAl i c v hc (by rw [← Array.getElem?_toList]; exact hv)).1⟩ (fun i k v hg hv => hk1 A t' (0, 0) hA i k v hg (by rw [← Array.getElem?_toList]; exact hv))
                    | _ => cases h1
              | _ => simp only [dec] at h1; cases h1
            · rw [← hg, List.drop_left]; exact ih
          | c g =>
            have hg : a'.length = 1 := by simpa [Sg.lvs] using hla
            refine ⟨by simp; omega, ?_⟩
            rw [← hg, List.drop_left]; exact ih
          | arr n k => show KF U F' w0' L'.kv ss ((a' ++ b').drop _); rw [← hla, List.drop_left]; exact ih
          | agg gs => show KF U F' w0' L'.kv ss ((a' ++ b').drop _); rw [← hla, List.drop_left]; exact ih
          | abox t n k => show KF U F' w0' L'.kv ss ((a' ++ b').drop _); rw [← hla, List.drop_left]; exact ih
          | pbox t gs => show KF U F' w0' L'.kv ss ((a' ++ b').drop _); rw [← hla, List.drop_left]; exact ih
          | fn f ps => show KF U F' w0' L'.kv ss ((a' ++ b').drop _); rw [← hla, List.drop_left]; exact ih
theorem decCL_len : ∀ (bor : Bool) (gs : List Cg) (cs b : List (VV U.D)), decCL bor m gs cs = some b → b.length = gs.length
  | bor, [], [], b, hd => by cases hd; rfl
  | bor, [], _ :: _, b, hd => by cases hd
  | bor, _ :: _, [], b, hd => by cases hd
  | bor, g :: gs, c :: cs, b, hd => by
    simp only [decCL] at hd
    cases h1 : decC bor m g c with
    | none => rw [h1] at hd; cases hd
    | some x =>
      cases h2 : decCL bor m gs cs with
      | none => rw [h1, h2] at hd; cases hd
      | some b' =>
        rw [h1, h2] at hd
        cases hd
        simp [decCL_len bor gs cs b' h2]
theorem decP_len : ∀ (bor : Bool) (ps : List (Nat × List Cg)) (cs b : List (VV U.D)), decP bor m ps cs = some b → b.length = (lvsP ps).length
  | bor, [], [], b, hd => by cases hd; rfl
  | bor, [], _ :: _, b, hd => by cases hd
  | bor, (t, gs) :: ps, [], b, hd => by cases hd
  | bor, (t, gs) :: ps, c :: cs, b, hd => by
    have fin : ∀ bb ds x z, decCL bb m gs ds = some x → decP bor m ps cs = some z → b = x ++ z → b.length = (lvsP ((t, gs) :: ps)).length := by
      intro bb ds x z h1 h2 e
      subst e
      simp [lvsP, decCL_len bb gs ds x h1, decP_len bor ps cs z h2]
    cases c with
    | ptr κ j =>
      cases j with
      | succ j => cases hd
      | zero =>
        simp only [decP] at hd
        cases hbg : (bor && leafG gs) with
        | false => rw [hbg] at hd; cases hd
        | true =>
          simp only [hbg, cond_true] at hd
          cases hm : mget m κ with
          | none => rw [hm] at hd; cases hd
          | some bb =>
            rw [hm] at hd
            cases bb with
            | box t' cs0 =>
              simp only at hd
              cases ht : Nat.beq t t' with
              | false => rw [ht] at hd; cases hd
              | true =>
                simp only [ht, cond_true] at hd
                cases h1 : decCL true m gs cs0 with
                | none => rw [h1] at hd; cases hd
                | some x =>
                  cases h2 : decP bor m ps cs with
                  | none => rw [h1, h2] at hd; cases hd
                  | some z => rw [h1, h2] at hd; cases hd; exact fin _ _ _ _ h1 h2 rfl
            | _ => cases hd
    | pbox t' cs0 j =>
      cases j with
      | succ j => cases hd
      | zero =>
        simp only [decP] at hd
        cases hbg : (leafG gs && Nat.beq t t') with
        | false => rw [hbg] at hd; cases hd
        | true =>
          simp only [hbg, cond_true] at hd
          cases h1 : decCL false m gs cs0 with
          | none => rw [h1] at hd; cases hd
          | some x =>
            cases h2 : decP bor m ps cs with
            | none => rw [h1, h2] at hd; cases hd
            | some z => rw [h1, h2] at hd; cases hd; exact fin _ _ _ _ h1 h2 rfl
    | _ => cases hd
theorem box_inv {bor : Bool} {t : Nat} {gs : List Cg} {c : VV U.D} {ls : List (VV U.D)} (hd : dec bor m (.box t gs) c = some ls) : ∃ cs, decCL bor m gs cs = some ls := by
  cases c with
  | ptr κ j =>
    cases j with
    | succ j => simp only [dec] at hd; cases hd
    | zero =>
      simp only [dec] at hd
      cases hm : mget m κ with
      | none => rw [hm] at hd; cases hd
      | some b =>
        rw [hm] at hd
        cases b with
        | box t' cs =>
          simp only at hd
          cases ht : Nat.beq t t' with
          | false => rw [ht] at hd; cases hd
          | true => simp only [ht, cond_true] at hd; exact ⟨cs, hd⟩
        | _ => cases hd
  | _ => simp only [dec] at hd; cases hd
theorem dec_len {bor : Bool} {s : Sg} {c : VV U.D} {ls : List (VV U.D)} (h : dec bor m s c = some ls) : ls.length = s.lvs.length := by
  cases s with
  | c g => exact dec_len1 h
  | arr n k =>
    simp only [dec] at h
    split at h
    · cases h; rfl
    · cases h
  | abox t n k => cases c <;> simp only [dec] at h <;> cases h
  | box t gs => obtain ⟨cs, h⟩ := box_inv h; simpa [Sg.lvs] using decCL_len _ _ _ _ h
  | agg gs =>
    cases c <;> simp only [dec] at h <;> try (cases h)
    case agg cs =>
      cases hn : noKeep gs with
      | false => rw [hn] at h; cases h
      | true => rw [hn] at h; simp only [cond_true] at h; simpa [Sg.lvs] using decCL_len _ _ _ _ h
  | pbox t gs =>
    have h' : decP bor m [(t, gs)] [c] = some ls := by cases c <;> exact h
    have := decP_len _ _ _ _ h'
    simpa [Sg.lvs, lvsP] using this
  | fn f ps =>
    cases c <;> simp only [dec] at h <;> try (cases h)
    case fn f' cs =>
      cases hn : Nat.beq f f' with
      | false => rw [hn] at h; cases h
      | true => rw [hn] at h; simp only [cond_true] at h; simpa [Sg.lvs] using decP_len _ _ _ _ h
theorem call_one (PL : Ulaw U) (hM : MRel U C L s.m w) {g : Nat} {args : List (VV U.D)} {vals : List Value} (hv : RVs U C.F C.w0 L args vals) {c : Con U} (hc : SoundC P U g c)
    {lv : List (VV U.D)} (hd : decL true s.m c.A args = some lv) {x : TL U.D (lvsL c.A)} (hx : tyd (lvsL c.A) lv = some x) (hf : fair s.m c args = true) (ha : absent s.m (64 * d) 64 = true) {y : TL U.D (lvsL c.R ++ outsL c.A)} (hy : c.f x = some y)
    {vs : List (VV U.D)} {m2 : Mem U.D} {κ' : Nat} {r' : List (VV U.D)} (he : encL (c.R ++ ioS c.A) (64 * d) ((unty (lvsL c.R ++ outsL c.A) y).take (lvsL c.R).length ++ mergeL c.A (unty (lvsL c.A) x) ((unty (lvsL c.R ++ outsL c.A) y).drop (lvsL c.R).length)) = (vs, m2, κ', r')) (hk : Nat.ble κ' (64 * d + 64) = true)
    {lent : Bool} (hlent : lent = isLent (bors s.m c.A args))
    {u : Upd U.D} (hu : u = (somes (kys s.m c.A args)).map (fun q => (q, none)) ++ (m2.reverse.map fun p => (p.1, some (clnB m2 lent p.2))) ++ back lent s.m m2 (ioS c.A) (ioV c.A args) (vs.drop c.R.length))
    (hn : newOk s u = true) {Post : Value → World → Prop} (hp : ∀ L' w' v, MRel U C L' (mupd s.m u) w' → RV U C.F C.w0 L' (packR ((vs.take c.R.length).map (clnV m2 lent))) v → L'.kv = L.kv → (∀ κ, (κ ∈ menL s.t ∨ κ ∈ menM s.m) → EqAt L L' κ) → Post v w') :
    Calls P g vals.toArray w (fun e w' => match e with
      | .returned v => Post v w'
      | _ => False) := by
  simp only [fair, Bool.and_eq_true] at hf
  obtain ⟨⟨hnd, hdj⟩, hkp⟩ := hf
  obtain ⟨kv, hkv⟩ := keep_ex (U := U) L w c.A args (Nat.le_of_ble_eq_true hkp)
  have hdj' := disj_inv _ _ hdj
  let L1 := ren L 100000 (kys s.m c.A args) kv
  let F' : Nat → Prop := fun b => C.F b ∨ ∃ q ∈ bors s.m c.A args, L.cl b = q + 1
  let G' : Nat → Prop := fun b => b < w.heap.size ∧ L1.cl b = 0
  have hcl : ∀ b, (∀ q, L.cl b = q + 1 → q ∉ somes (kys s.m c.A args)) → L1.cl b = 0 := by
    intro b hb
    cases e : L1.cl b with
    | zero => rfl
    | succ q =>
      obtain ⟨i, p, h1, h2, -⟩ := ren_cl e
      exact absurd (somes_mem h1) (hb p h2)
  have hT : Tgt U C L w F' w (bors s.m c.A args) := ⟨fun b hb => .inl hb, fun b hb => (hM.g0 b (hM.fg b hb)).2.2, fun q hq b hb => ⟨.inr ⟨q, hq, hb⟩, rfl⟩⟩
  obtain ⟨cs1, m1, e1, hv1, hb1⟩ := rkL (L' := L1) PL hM hT [] c.A args (unty _ x) vals 100000 (LLs.of c.A args lv _ hd (tyd_lq _ hx)) hv (hkv L1 rfl) (fun _ q hq => hq) (ren_ok hnd)
  rw [List.append_nil] at e1
  have hM1 : MRel U ⟨F', G', w, fun _ => none⟩ L1 m1 w := by
    refine ren_mrel hM hb1 (fun b hb => ?_) (fun b hb => ⟨hb.1, hb.2, rfl⟩) (Nat.le_refl _) hM.os hM.tp hM.ou _
    rcases hb with hb | ⟨q, hq, hb⟩
    · obtain ⟨h1, h2, -⟩ := hM.g0 b (hM.fg b hb)
      exact ⟨Nat.lt_of_lt_of_le h1 hM.hs, hcl b (fun q hq => by omega)⟩
    · refine ⟨hM.hl b (by omega), hcl b (fun p hp hpk => ?_)⟩
      have e : p = q := by omega
      exact hdj' p hpk (e ▸ hq)
  refine Calls.mono (hc (64 * d) x y hy F' G' L1 w vals cs1 m1 _ e1 hv1 hM1 (kf (L' := L1) PL hM hT c.A args lv _ vals hd (tyd_lq _ hx) hv (hkv L1 rfl) (fun s c ls h => dec_len h))) (fun e w' h => ?_)
  cases e with
  | returned v =>
    obtain ⟨L2, cs2, m2', κ2, rs, e2, rfl, hrs, hrv, hM2, hkv2, hrange⟩ := h
    rw [he] at e2
    cases e2
    have hF : lent = false → ∀ {c : VV U.D} {v : Value}, RC U F' w c v → RC U C.F C.w0 c v := by
      intro hl c' v' h
      have hb : bors s.m c.A args = [] := by
        rw [hl] at hlent
        cases hb : bors s.m c.A args with
        | nil => rfl
        | cons q qs => rw [hb] at hlent; cases hlent
      refine (h.mono (fun b hb' => ?_)).stay (fun b hb' => (hM.g0 b (hM.fg b hb')).2.2.symm)
      rcases hb' with hb' | ⟨q, hq, -⟩
      · exact hb'
      · rw [hb] at hq; simp at hq
    have hnew : ∀ q b, mget m2 q = some b → mget s.m q = none ∧ q ∉ menL s.t ∧ q ∉ menM s.m := by
      intro q b hb
      obtain ⟨h1, h2⟩ := hrange q b hb
      have h3 := absent_inv _ _ ha q h1 (Nat.lt_of_lt_of_le h2 (Nat.le_of_ble_eq_true hk))
      have hmem : (q, some (clnB m2 lent b)) ∈ u := by
        rw [hu]
        refine List.mem_append_left _ (List.mem_append_right _ ?_)
        exact List.mem_map.2 ⟨(q, b), List.mem_reverse.2 (mget_mem hb), rfl⟩
      rcases newOk_inv hn hmem with ⟨b', hb'⟩ | h
      · rw [h3] at hb'; cases hb'
      · exact ⟨h3, h⟩
    obtain ⟨hr1, hr2⟩ := RVs.unapp _ hrv hrs
    have hs1 := call_mrel (ks := somes (kys s.m c.A args)) hM hM2 (fun b h1 h2 => ⟨h1, hcl b h2⟩) hF hnew
    obtain ⟨f', hs2⟩ := back_mrel hM hM2 hF hnew (L1 := L1) hkv2.symm (ioS c.A) (ioV c.A args) (vs.drop c.R.length) (ioU c.A vals) _ _ hs1 (ioRVs _ _ _ hv) hr2 (ioKeep _ _ (hkv L1 rfl)) (fun κ' _ _ x hx => by simp only [mcl, hx])
    refine hp (mrgF L L2 m2 f') w' _ (by rw [hu, mupd_app]; exact hs2) (RV.pack ⟨by simpa using hr1.1, fun i c v hc hv => ?_⟩) rfl (fun κ hκ => mrg_old _ (fun hi => ?_))
    · rw [List.getElem?_map, Option.map_eq_some_iff] at hc
      obtain ⟨c', hc', rfl⟩ := hc
      exact (hr1.2 i c' v hc' hv).clnV hF (mrg_same _)
    · obtain ⟨b, hb⟩ := inM_iff.1 hi
      obtain ⟨-, h1, h2⟩ := hnew κ b hb
      exact hκ.elim h1 h2
  | _ => exact h.elim
theorem p_callC (PL : Ulaw U) (hM : MRel U C L s.m w) {g : Nat} {args : List (VV U.D)} {vals : List Value} (hv : RVs U C.F C.w0 L args vals) : ∀ (cs : List (Con U)), (∀ c ∈ cs, SoundC P U g c) → callC s.m d args K cs = some r →
    ∃ c u, K c u = some r ∧ (newOk s u = true → ∀ Post : Value → World → Prop, (∀ L' w' v, MRel U C L' (mupd s.m u) w' → RV U C.F C.w0 L' c v → L'.kv = L.kv → (∀ κ, (κ ∈ menL s.t ∨ κ ∈ menM s.m) → EqAt L L' κ) → Post v w') →
      Calls P g vals.toArray w (fun e w' => match e with
        | .returned v => Post v w'
        | _ => False))
  | [], _, h => by cases h
  | c :: cs, hc, h => by
    have ih := p_callC PL hM hv cs (fun c hc' => hc c (List.mem_cons_of_mem _ hc'))
    simp only [callC] at h
    cases hsh : shpL c.A args with
    | false => rw [hsh] at h; exact ih h
    | true =>
      simp only [hsh, cond_true] at h
      cases hd : decL true s.m c.A args with
      | none => rw [hd] at h; cases h
      | some lv =>
        rw [hd] at h
        simp only at h
        cases hx : tyd (lvsL c.A) lv with
        | none => rw [hx] at h; exact ih h
        | some x =>
          rw [hx] at h
          simp only at h
          cases hf : (fair s.m c args && absent s.m (64 * d) 64) with
          | false => rw [hf] at h; cases h
          | true =>
            simp only [hf, cond_true] at h
            simp only [Bool.and_eq_true] at hf
            cases hy : c.f x with
            | none => rw [hy] at h; cases h
            | some y =>
              rw [hy] at h
              simp only [Option.bind_some] at h
              generalize he : encL (c.R ++ ioS c.A) (64 * d) _ = q at h
              obtain ⟨vs, m2, κ', r'⟩ := q
              simp only at h
              cases hk : Nat.ble κ' (64 * d + 64) with
              | false => rw [hk] at h; cases h
              | true =>
                rw [hk] at h
                exact ⟨_, _, h, fun hn Post hp => call_one PL hM hv (hc c List.mem_cons_self) hd hx hf.1 hf.2 hy he hk rfl rfl hn hp⟩
end
end Go.Proofs.YtikbkgenadkbdaaGreatV
/- Every operation. -/
namespace Go.Proofs.YtikbkgenadkbdaaGreatV
open Go
set_option linter.unusedVariables false
set_option linter.unusedSimpArgs false
variable {U : Uni} {P : Program} {R : Type}
theorem part_run {F : Nat → Prop} {w0 w : World} {L : Lc} {t : Nat} {T : TY} (ht : TYok P t T) {A : Array Value} {cs : List (VV U.D)} {j : Nat} {c : VV U.D} (hn : cs.length = A.size) (h : ∀ (i : Nat) (c : VV U.D) (v : Value), cs[i]? = some c → A[i]? = some v → RV U F w0 L c v)
    (h1 : ∀ (i : Nat) (v : Value), A[i]? = some v → v.oneCell' = true) (hc : cut T cs j = some c) : ∃ v, (part t A j).run P w = .ok v w ∧ RV U F w0 L c v := by
  obtain ⟨i, z, hi, hs, -, -, -⟩ := ht.inf
  have hd := ht.d
  unfold cut at hc
  cases hb : Nat.ble (j + T.sz) cs.length with
  | false => simp [hb] at hc
  | true =>
    have hle : j + T.sz ≤ cs.length := Nat.le_of_ble_eq_true hb
    simp only [hb, cond_true] at hc
    have agg : ∀ d, P.underlying t = some d → (match d with | .struct _ | .array _ _ => true | _ => false) = true → c = .agg (((cs.drop j).take T.sz).map YtikbkgenadkbdaaGreatV.unk) →
        ∃ v, (part t A j).run P w = .ok v w ∧ RV U F w0 L c v := by
      intro d hu hag hcc
      subst hcc
      refine ⟨.agg (A.extract j (j + T.sz)), ?_, .agg (by simp; omega) (fun q c v hc hv => ?_) (fun q v hv => ?_)⟩
      · cases d <;> simp at hag <;> simp [part, isAgg, run_underlying hu, sizeOf, typeInfo, hi, hs, Sem.run]
      · have hq : q < T.sz := by
          have := idx_lt hc
          simp at this; omega
        rw [List.getElem?_map, List.getElem?_take, if_pos hq, List.getElem?_drop] at hc
        obtain ⟨c0, hc0, rfl⟩ := Option.map_eq_some_iff.1 hc
        rw [Array.getElem?_extract, if_pos (by omega)] at hv
        exact (h (j + q) c0 v hc0 hv).unk
      · by_cases hq : q < min (j + T.sz) A.size - j
        · rw [Array.getElem?_extract, if_pos hq] at hv
          exact h1 _ v hv
        · rw [Array.getElem?_extract, if_neg hq] at hv; cases hv
    have one : ∀ d, P.underlying t = some d → (match d with | .struct _ | .array _ _ => true | _ => false) = false → c = YtikbkgenadkbdaaGreatV.unk (lget cs j) → j < cs.length →
        ∃ v, (part t A j).run P w = .ok v w ∧ RV U F w0 L c v := by
      intro d hu hag hcc hlt
      have hlt' : j < A.size := by omega
      refine ⟨A[j], ?_, ?_⟩
      · cases d <;> simp at hag <;> simp [part, isAgg, run_underlying hu, Sem.run, hlt']
      · rw [hcc]; unfold lget
        rw [List.getD_eq_getElem?_getD, List.getElem?_eq_getElem hlt]
        exact RV.unk (h j _ _ (List.getElem?_eq_getElem hlt) (Array.getElem?_eq_getElem hlt'))
    have hz := ht.on
    cases hT : T.d with
    | str fs =>
      rw [hT] at hc hd
      obtain ⟨fields, hu, -⟩ := hd
      exact agg _ hu rfl (by simpa using hc.symm)
    | ar n e => rw [hT] at hc hd; exact agg _ hd rfl (by simpa using hc.symm)
    | oth => rw [hT] at hc; simp at hc
    | int k => rw [hT] at hc hd hz; exact one _ hd rfl (by simpa using hc.symm) (by simp at hz; omega)
    | bool => rw [hT] at hc hd hz; exact one _ hd rfl (by simpa using hc.symm) (by simp at hz; omega)
    | sl e => rw [hT] at hc hd hz; exact one _ hd rfl (by simpa using hc.symm) (by simp at hz; omega)
section
variable {C : Fr} {L : Lc} {s : St U.D} {a : Act} {w : World} {E : Nat → List (Con U)} {d : Nat} {K : VV U.D → Upd U.D → Option R} {r : R} {o : Oper}
theorem p_field (PL : Plaw P U) (hR : Rel U C L s a w) {t f : Nat} {x : Operand} (ho : o.op = .field t x f) (hx : opOk x = true) (h : Vop U E (.field t x f) d (ev s.t) s.m K = some r) :
    ∃ c, K c [] = some r ∧ Gives P U C L o a w c := by
  have hv := hR.ev x hx
  simp only [Vop] at h
  cases hT : U.ti t with
  | none => rw [hT] at h; cases h
  | some T =>
    have hd := (PL.ty t T hT).d
    rw [hT] at h
    simp only at h
    cases hTd : T.d <;> rw [hTd] at h hd <;> try (cases h)
    case str fs =>
      simp only at h
      obtain ⟨fields, hu, hmap, hsz⟩ := hd
      cases hf : fs[f]? with
      | none => rw [hf] at h; cases h
      | some of =>
        obtain ⟨off, ft⟩ := of
        rw [hf] at h
        simp only at h
        cases hF : U.ti ft with
        | none => rw [hF] at h; cases h
        | some TF =>
          rw [hF] at h
          simp only at h
          rw [← hmap, List.getElem?_map] at hf
          obtain ⟨fd, hfd, he⟩ := Option.map_eq_some_iff.1 hf
          have hfd' : fields[f]? = some fd := by rw [← Array.getElem?_toList]; exact hfd
          simp only [Prod.mk.injEq] at he
          generalize YtikbkgenadkbdaaGreatV.ev s.t x = c at h hv
          cases c <;> try (cases h)
          case agg cs =>
            obtain ⟨c, hc, hK⟩ := cutOf (K := fun v => K v []) h
            obtain ⟨A, e, h1, h2, h3⟩ := hv.agg_inv
            obtain ⟨v, h4, h5⟩ := part_run (w := w) (PL.ty ft TF hF) h1 h2 h3 hc
            exact ⟨c, hK, v, by simp [execOp, ho, Sem.run_bind, e, Instr.field, run_underlying hu, hfd', asAgg, he.1, he.2, h4], h5⟩
theorem p_store (PL : Plaw P U) (hR : Rel U C L s a w) {t : Nat} {x y : Operand} (ho : o.op = .store t x y) (hx : opOk x = true) (hy : opOk y = true) (h : Vop U E (.store t x y) d (ev s.t) s.m K = some r) :
    ∃ c u, K c u = some r ∧ (newOk s u = true → Does P U C L s o a w c u) := by
  simp only [Vop] at h
  cases hT : U.ti t with
  | none => rw [hT] at h; cases h
  | some T =>
    cases hvs : flO (YtikbkgenadkbdaaGreatV.ev s.t y) with
    | none => rw [hT, hvs] at h; cases h
    | some vs =>
      rw [hT, hvs] at h
      simp only at h
      cases hl : Nat.beq vs.length T.sz with
      | false => rw [hl] at h; cases h
      | true =>
        have hlen := Nat.eq_of_beq_eq_true hl
        simp only [hl, cond_true] at h
        cases hp : YtikbkgenadkbdaaGreatV.ev s.t x <;> rw [hp] at h <;> try (cases h)
        case ptr κ j =>
          simp only at h
          cases hm : mget s.m κ with
          | none => rw [hm] at h; cases h
          | some b =>
            rw [hm] at h
            cases b with
            | box t0 cs =>
              simp only at h
              cases hfit : Nat.ble (j + vs.length) cs.length with
              | false => rw [hfit] at h; cases h
              | true =>
                simp only [hfit, cond_true] at h
                exact ⟨_, _, h, fun _ => d_store_box PL hR ho hT hx hy hvs hlen hp hm (Nat.le_of_ble_eq_true hfit)⟩
            | row k xs => cases h
            | arr t n k xs => cases h
        case oel κ i j =>
          simp only at h
          cases hm : mget s.m κ with
          | none => rw [hm] at h; cases h
          | some b =>
            rw [hm] at h
            cases b with
            | box t0 cs => cases h
            | arr t n k xs => cases h
            | row k xs =>
              simp only at h
              cases hfit : (Nat.ble (j + vs.length) (U.sz k) && ndp (keysOf vs) && !hasK κ (keysOf vs) && Nat.ble 1 vs.length) with
              | false => rw [hfit] at h; cases h
              | true =>
                simp only [hfit, cond_true] at h
                simp only [Bool.and_eq_true, Bool.not_eq_true'] at hfit
                cases hms : mvdL s.m vs with
                | none => rw [hms] at h; cases h
                | some ms =>
                  rw [hms] at h
                  simp only at h
                  cases hmk : U.mkE k (setl (U.cells k (rdE U k xs i)) j ms) with
                  | none => rw [hmk] at h; cases h
                  | some y' =>
                    rw [hmk] at h
                    simp only at h
                    refine ⟨_, _, h, fun _ => d_store_elt PL hR ho hT hx hy hvs hlen hp hm (Nat.le_of_ble_eq_true hfit.1.1.1) hfit.1.1.2 (fun hk => ?_) hms hmk ?_⟩
                    · rw [hasK_iff.2 hk] at hfit; cases hfit.1.2
                    · have := Nat.le_of_ble_eq_true hfit.2; omega
def EnvOk (P : Program) (U : Uni) (E : Nat → List (Con U)) : Prop := ∀ g c, c ∈ E g → Enters P g ∧ SoundC P U g c
theorem p_callv (PL : Ulaw U) (hE : EnvOk P U E) (hR : Rel U C L s a w) {c : Call} {f : Operand} (ho : o.op = .call c) (hcal : c.callee = .value f) (hf : opOk f = true) (hx : ∀ x ∈ c.args, opOk x = true) (h : Vop U E (.call c) d (ev s.t) s.m K = some r) :
    ∃ v u, K v u = some r ∧ (newOk s u = true → Goes P U C L s o a w v u) := by
  have hvf := hR.ev f hf
  simp only [Vop, hcal] at h
  generalize YtikbkgenadkbdaaGreatV.ev s.t f = cf at h hvf
  cases cf <;> try (cases h)
  case fn g cs =>
    simp only at h
    obtain ⟨A, e, hn, hA⟩ := hvf.fn_inv
    have hv : RVs U C.F C.w0 L (c.args.toList.map (YtikbkgenadkbdaaGreatV.ev s.t) ++ cs) ((c.args.map a.eval).toList ++ A.toList) := by
      refine RVs.app ⟨by simp, fun i x v hx' hv' => ?_⟩ ⟨by simpa using hn, fun i x v hx' hv' => hA i x v hx' (by rw [← Array.getElem?_toList]; exact hv')⟩
      rw [List.getElem?_map, Array.getElem?_toList] at hx'
      rw [Array.getElem?_toList, Array.getElem?_map] at hv'
      cases hi : c.args[i]? with
      | none => rw [hi] at hx'; cases hx'
      | some z =>
        rw [hi] at hx' hv'
        cases hx'; cases hv'
        exact hR.ev z (hx z (Array.mem_of_getElem? hi))
    have hEn : ∃ c', c' ∈ E g := by
      cases hEg : E g with
      | nil => rw [hEg] at h; cases h
      | cons c' _ => exact ⟨c', List.mem_cons_self⟩
    obtain ⟨c', hc'⟩ := hEn
    have hent := (hE g c' hc').1
    obtain ⟨v, u, hK, hgo⟩ := p_callC PL hR.toMRel hv (E g) (fun c'' hc'' => (hE g c'' hc'').2) h
    refine ⟨v, u, hK, fun hnw next Q hnext => ?_⟩
    unfold Oper.wp
    have hrun : (execOp a.eval o).run P w = .ok (.enter g ((c.args.map a.eval).toList ++ A.toList).toArray) w := by
      have e2 : ((c.args.map a.eval).toList ++ A.toList).toArray = c.args.map a.eval ++ A := by simp
      rw [e2]
      simp [execOp, ho, resolve, hcal, Deferred.ofValue, e, Sem.run_bind, invoke]
      exact hent _ w
    rw [hrun]
    rw [Oper.upon_enter]
    refine Calls.mono (hgo hnw (fun v w' => next (a.put o.dst v) w') hnext) (fun e w' he => ?_)
    cases e with
    | returned v => exact he
    | _ => exact he.elim
end
end Go.Proofs.YtikbkgenadkbdaaGreatV
/- A region in its own order. -/
namespace Go.Proofs.YtikbkgenadkbdaaGreatV
open Go
set_option linter.unusedVariables false
set_option linter.unusedSimpArgs false
variable {U : Uni} {P : Program} {R : Type}
def biOk : Builtin → List Operand → Bool
  | .len, [_] => true
  | .min, [_, _] => true
  | .max, [_, _] => true
  | .append, [_, _] => true
  | _, _ => false
def opsOk (o : Op) : Bool := o.operands.toList.all opOk && (match o with
  | .makeFunc _ fs _ => fs.toList.isEmpty
  | .call c => (match c.callee with
    | .builtin b => biOk b c.args.toList
    | _ => true)
  | _ => true)
def okOp (fx : List Nat) (o : Oper) : Bool := opsOk o.op && (match o.dst with
  | some d => !hasK d fx
  | none => true)
section
variable {C : Fr} {L : Lc} {s : St U.D} {a : Act} {w : World} {E : Nat → List (Con U)} {d : Nat} {K : VV U.D → Upd U.D → Option R} {r : R} {o : Oper}
theorem p_op (PL : Plaw P U) (hE : EnvOk P U E) (hR : Rel U C L s a w) (hx : opsOk o.op = true) (h : Vop U E o.op d (ev s.t) s.m K = some r) : ∃ v u, K v u = some r ∧ (newOk s u = true → Goes P U C L s o a w v u) := by
  simp only [opsOk, Bool.and_eq_true, List.all_eq_true] at hx
  obtain ⟨hx, hx2⟩ := hx
  have gv : (∃ c, K c [] = some r ∧ Gives P U C L o a w c) → ∃ v u, K v u = some r ∧ (newOk s u = true → Goes P U C L s o a w v u) := fun ⟨c, h1, h2⟩ => ⟨c, [], h1, fun _ => h2.goes hR.toMRel⟩
  have ds : (∃ c u, K c u = some r ∧ (newOk s u = true → Does P U C L s o a w c u)) → ∃ v u, K v u = some r ∧ (newOk s u = true → Goes P U C L s o a w v u) := fun ⟨c, u, h1, h2⟩ => ⟨c, u, h1, fun hn => (h2 hn).goes⟩
  cases ho : o.op <;> rw [ho] at h hx hx2
  case move x => exact gv ⟨_, h, p_move hR (.inl ho) (hx x (by simp [Op.operands]))⟩
  case assign x => exact gv ⟨_, h, p_move hR (.inr ho) (hx x (by simp [Op.operands]))⟩
  case pick x y z => exact gv (p_pick hR ho (hx x (by simp [Op.operands])) (hx y (by simp [Op.operands])) (hx z (by simp [Op.operands])) h)
  case alloc e => exact ds (d_alloc PL hR ho h)
  case box e x => exact ds (d_boxop PL hR ho (hx x (by simp [Op.operands])) h)
  case build t ps => exact gv (p_build PL hR ho (fun p hp => hx p.2 (by simp [Op.operands]; exact ⟨p.1, by simpa using hp⟩)) h)
  case buildSlice t n ps => exact ds (d_buildSlice PL hR ho (fun p hp => hx p.2 (by simp [Op.operands]; exact ⟨p.1, by simpa using hp⟩)) h)
  case load t x => exact gv (p_load PL hR ho (hx x (by simp [Op.operands])) h)
  case store t x y => exact ds (p_store PL hR ho (hx x (by simp [Op.operands])) (hx y (by simp [Op.operands])) h)
  case nilCheck x => exact gv (p_nilCheck hR ho (hx x (by simp [Op.operands])) h)
  case binOp op t x y t' => exact gv (p_binOp PL hR ho (hx x (by simp [Op.operands])) (hx y (by simp [Op.operands])) h)
  case unOp op t x => exact gv (p_unOp hR ho (hx x (by simp [Op.operands])) h)
  case convert t0 t x => exact gv (p_convert PL hR ho (hx x (by simp [Op.operands])) h)
  case makeSlice t x y => exact ds (d_makeSlice PL hR ho (hx x (by simp [Op.operands])) (hx y (by simp [Op.operands])) h)
  case slice t x lo hi mx => exact ds (d_slice PL hR ho (hx x (by simp [Op.operands])) (fun y hy => hx y (by simp [Op.operands, hy])) h)
  case fieldAddr t x f => exact gv (p_fieldAddr PL hR ho (hx x (by simp [Op.operands])) h)
  case field t x f => exact gv (p_field PL hR ho (hx x (by simp [Op.operands])) h)
  case indexAddr t x y => exact gv (p_indexAddr PL hR ho (hx x (by simp [Op.operands])) (hx y (by simp [Op.operands])) h)
  case index t x y => exact gv (p_index PL hR ho (hx x (by simp [Op.operands])) (hx y (by simp [Op.operands])) h)
  case extract x i => exact gv (p_extract hR ho (hx x (by simp [Op.operands])) h)
  case makeFunc f fs cs =>
    cases f <;> try (simp only [Vop] at h; cases h)
    case func f =>
      have hfs : fs = #[] := by
        cases fs with
        | mk l => cases l with
          | nil => rfl
          | cons x xs => simp at hx2
      exact gv (p_makeFunc hR ho hfs (fun x hx' => hx x (by simp [Op.operands]; exact .inr hx')) h)
  case call c =>
    have hargs : ∀ x ∈ c.args, opOk x = true := fun x hx' => hx x (by simp [Op.operands, Call.operands]; cases c.callee <;> simp [hx'])
    cases hcal : c.callee with
    | value f => exact p_callv PL.toUlaw hE hR ho hcal (hx f (by simp [Op.operands, Call.operands, hcal])) hargs h
    | invoke x n => simp only [Vop, hcal] at h; cases h
    | builtin b =>
      simp only [hcal] at hx2
      cases hal : c.args.toList with
      | nil => rw [hal] at hx2; cases b <;> cases hx2
      | cons x xs =>
        have hx1 : opOk x = true := hargs x (by rw [← Array.mem_toList_iff, hal]; exact List.mem_cons_self)
        cases xs with
        | nil =>
          cases b <;> first | exact gv (p_len PL hR ho hcal hal hx1 h) | (rw [hal] at hx2; cases hx2)
        | cons y ys =>
          have hy1 : opOk y = true := hargs y (by rw [← Array.mem_toList_iff, hal]; exact List.mem_cons_of_mem _ List.mem_cons_self)
          cases ys with
          | nil =>
            cases b <;> first
              | exact ds (p_append PL hR ho hcal (by cases hc2 : c.args; simp_all) hx1 hy1 h)
              | exact gv (p_min hR ho (.inl hcal) hal hx1 hy1 h)
              | exact gv (p_min hR ho (.inr hcal) hal hx1 hy1 h)
              | (rw [hal] at hx2; cases hx2)
          | cons z zs => rw [hal] at hx2; cases b <;> cases hx2
  all_goals (simp only [Vop] at h; cases h)
end
end Go.Proofs.YtikbkgenadkbdaaGreatV
/- Regions in their own order. -/
namespace Go.Proofs.YtikbkgenadkbdaaGreatV
open Go
set_option linter.unusedVariables false
set_option linter.unusedSimpArgs false
variable {U : Uni} {P : Program} {R : Type}
section
variable {C : Fr} {L : Lc} {s : St U.D} {a : Act} {w : World} {E : Nat → List (Con U)} {r : R}
theorem put_get (s : St U.D) (dst : Option Nat) (c : VV U.D) (i : Nat) : (s.put dst c).t[i]? = if dst = some i ∧ i < s.t.length then some c else s.t[i]? := by
  cases dst with
  | none => simp [St.put]
  | some d =>
    simp only [St.put, List.getElem?_set, Option.some.injEq]
    by_cases h : d = i
    · subst h
      by_cases h2 : d < s.t.length
      · simp [h2]
      · simp [h2]
    · simp [h]
theorem Rel.put (hR : Rel U C L s a w) {L' : Lc} {m' : Mem U.D} {w' : World} {dst : Option Nat} {c : VV U.D} {v : Value} (hM : MRel U C L' m' w') (hv : RV U C.F C.w0 L' c v) (hk : L'.kv = L.kv) (he : ∀ κ, (κ ∈ menL s.t ∨ κ ∈ menM s.m) → EqAt L L' κ)
    (hX : ∀ i, dst = some i → C.X i = none) : Rel U C L' (({ s with m := m' } : St U.D).put dst c) (a.put dst v) w' where
  toMRel := by cases dst <;> exact hM
  sz := by cases dst <;> simp [St.put, Act.put, hR.sz]
  tm i x u hx hu := by
    rw [put_get] at hx
    by_cases h : dst = some i ∧ i < s.t.length
    · rw [if_pos h] at hx
      cases hx
      obtain ⟨rfl, hi⟩ := h
      have hi' : i < a.tmps.size := by rw [hR.sz]; exact hi
      simp only [Act.put, Array.setIfInBounds, dif_pos hi', Array.getElem?_set_self] at hu
      cases hu; exact hv
    · rw [if_neg h] at hx
      have hu' : a.tmps[i]? = some u := by
        cases dst with
        | none => exact hu
        | some d =>
          have hd : d ≠ i := fun e => h ⟨by rw [e], idx_lt hx⟩
          simpa [Act.put, Array.getElem?_setIfInBounds, hd] using hu
      exact (hR.tm i x u hx hu').ext hk (fun κ hκ => he κ (.inl (menL_mem hx hκ)))
  df := by cases dst <;> exact hR.df
  fx i v' hi := by
    have := hR.fx i v' hi
    cases dst with
    | none => exact this
    | some d =>
      have hd : d ≠ i := fun e => by have := hX d rfl; rw [e, hi] at this; cases this
      simpa [Act.put, Array.getElem?_setIfInBounds, hd] using this
theorem Rel.putv (hR : Rel U C L s a w) {dst : Option Nat} {c : VV U.D} {v : Value} (hv : RV U C.F C.w0 L c v) (hX : ∀ i, dst = some i → C.X i = none) : Rel U C L (s.put dst c) (a.put dst v) w :=
  hR.put hR.toMRel hv rfl (fun κ _ => ⟨rfl, rfl, rfl, rfl, rfl, rfl⟩) hX
theorem Rel.know (hR : Rel U C L s a w) {i : Nat} {c : VV U.D} (hv : RV U C.F C.w0 L c (a.tmps.getD i undef)) : Rel U C L (s.put (some i) c) a w where
  toMRel := hR.toMRel
  sz := by simp [St.put, hR.sz]
  tm j x u hx hu := by
    rw [put_get] at hx
    by_cases h : some i = some j ∧ j < s.t.length
    · rw [if_pos h] at hx
      cases hx
      obtain ⟨e, hi⟩ := h
      cases e
      have : a.tmps.getD i undef = u := by simp [Array.getD_eq_getD_getElem?, hu]
      rw [← this]; exact hv
    · rw [if_neg h] at hx; exact hR.tm j x u hx hu
  df := hR.df
  fx := hR.fx
def Free (C : Fr) (o : Oper) : Prop := ∀ i, o.dst = some i → C.X i = none
theorem put_len (s : St U.D) (d : Option Nat) (c : VV U.D) : (s.put d c).t.length = s.t.length := by cases d <;> simp [St.put]
theorem isUnd_inv {F : Nat → Prop} {w0 : World} {c : VV U.D} {v : Value} (h : isUnd c = true) (hv : RV U F w0 L c v) : v = undef := by
  cases c <;> try (cases h)
  case tup cs =>
    cases cs with
    | cons x xs => cases h
    | nil =>
      cases hv with
      | leaf h => cases h with
        | bool hb => simp [boolOf] at hb
      | @tup _ vs hn _ =>
        have : vs = #[] := by apply Array.eq_empty_of_size_eq_zero; simpa using hn.symm
        subst this; rfl
theorem RV.und {F : Nat → Prop} {w0 : World} : RV U F w0 L (.tup []) undef := .tup rfl (fun i c v h => by simp at h)
theorem Vrg_sound {kv : Value} {N : Nat} (PL : Plaw P U) (hE : EnvOk P U E) {ops : Array Oper} {Q : Exit → Act → World → Prop} {K : St U.D → Option R} (hops : ∀ o ∈ ops, opsOk o.op = true ∧ Free C o)
    (hK : ∀ s L a w, L.kv = kv → s.t.length = N → Rel U C L s a w → K s = some r → Q .normal a w) : ∀ (os : List Oper) (i : Nat) (s : St U.D) (L : Lc) (a : Act) (w : World), ops.toList.drop i = os → L.kv = kv → s.t.length = N → Rel U C L s a w → Vrg U E ops K os s = some r → wpOps P ops Q (List.range' i os.length) a w
  | [], i, s, L, a, w, hd, hkv, hN, hR, h => hK s L a w hkv hN hR h
  | o :: os, i, s, L, a, w, hd, hkv, hN, hR, h => by
    have hi : ops[i]? = some o := by
      have := congrArg (fun l => l[0]?) hd
      simpa using this
    have hd' : ops.toList.drop (i + 1) = os := by
      rw [← List.drop_drop, hd]; rfl
    obtain ⟨hok, hfree⟩ := hops o (Array.mem_of_getElem? hi)
    have ih := Vrg_sound PL hE hops hK os (i + 1)
    have hrg : List.range' i (os.length + 1) = i :: List.range' (i + 1) os.length := by simp [List.range'_succ]
    rw [List.length_cons, hrg]
    simp only [wpOps, hi]
    have go : ∀ (s : St U.D) (L : Lc), L.kv = kv → s.t.length = N → Rel U C L s a w → (Vop U E o.op (o.dst.getD 1000) (ev s.t) s.m fun v u => bif newOk s u then Vrg U E ops K os ({ s with m := mupd s.m u }.put o.dst v) else none) = some r → o.wp P a w (wpOps P ops Q (List.range' (i + 1) os.length)) Q := by
      intro s L hkv hN hR h
      obtain ⟨v, u, hK', hg⟩ := p_op PL hE hR hok h
      cases hn : newOk s u with
      | false => rw [hn] at hK'; cases hK'
      | true =>
        rw [hn] at hK'; simp only [cond_true] at hK'
        exact hg hn _ Q (fun L' w' v' hM hv hk he => ih _ L' _ w' hd' (hk.trans hkv) (by rw [put_len]; exact hN) (hR.put hM hv hk he hfree) hK')
    simp only [Vrg] at h
    cases hg : o.guard with
    | none =>
      rw [hg] at h
      have hw : Region.wanted o (yielded ops a.tmps) = true := by simp [Region.wanted, hg]
      rw [if_pos hw]
      exact .inl (go s L hkv hN hR h)
    | some jw =>
      obtain ⟨j, want⟩ := jw
      rw [hg] at h
      simp only at h
      cases hj : (ops[j]?).bind (·.dst) with
      | none => rw [hj] at h; cases h
      | some t =>
        rw [hj] at h
        simp only at h
        cases hu : isUnd (lget s.t t) with
        | true =>
          rw [hu] at h
          simp only [cond_true] at h
          have hv := isUnd_inv hu (hR.get t)
          have hy : yielded ops a.tmps j = none := by
            unfold yielded
            rw [hj, Option.bind_some]
            cases ht : a.tmps[t]? with
            | none => rfl
            | some x => simp [Array.getD_eq_getD_getElem?, ht] at hv; subst hv; rfl
          have hw : Region.wanted o (yielded ops a.tmps) = false := by simp only [Region.wanted, hg, hy]; rfl
          rw [hw]
          exact ih _ L _ w hd' hkv (by rw [put_len]; exact hN) (hR.putv .und hfree) h
        | false =>
        rw [hu] at h
        simp only [cond_false] at h
        obtain ⟨b, hb, h⟩ := vcond_inv h
        have hv := (hR.get t).bool_inv hb
        have hy : yielded ops a.tmps j = some b := by
          unfold yielded
          rw [hj, Option.bind_some]
          cases ht : a.tmps[t]? with
          | none => simp [Array.getD_eq_getD_getElem?, ht, undef] at hv
          | some x => simp [Array.getD_eq_getD_getElem?, ht] at hv; subst hv; rfl
        have hR' : Rel U C L (s.put (some t) (.lit b)) a w := hR.know (by rw [hv]; exact .leaf (.bool rfl))
        have hw : Region.wanted o (yielded ops a.tmps) = (b == want) := by simp only [Region.wanted, hg, hy]; cases b <;> cases want <;> rfl
        rw [hw]
        have h2 : (if b == want then (Vop U E o.op (o.dst.getD 1000) (ev (s.put (some t) (.lit b)).t) (s.put (some t) (.lit b)).m fun v u => bif newOk (s.put (some t) (.lit b)) u then Vrg U E ops K os ({ (s.put (some t) (.lit b)) with m := mupd (s.put (some t) (.lit b)).m u }.put o.dst v) else none) else Vrg U E ops K os ((s.put (some t) (.lit b)).put o.dst (.tup []))) = some r := by
          cases b <;> simpa using h
        cases hbw : (b == want) with
        | true =>
          rw [hbw] at h2
          exact .inl (go _ L hkv (by rw [put_len]; exact hN) hR' h2)
        | false =>
          rw [hbw] at h2
          exact ih _ L _ w hd' hkv (by rw [put_len, put_len]; exact hN) (hR'.putv .und hfree) h2
end
end Go.Proofs.YtikbkgenadkbdaaGreatV
/- Where the reading is cut. -/
namespace Go.Proofs.YtikbkgenadkbdaaGreatV
open Go
set_option linter.unusedVariables false
set_option linter.unusedSimpArgs false
variable {U : Uni} {P : Program} {R : Type}
section
variable {C : Fr} {L L' : Lc} {s : St U.D} {m : Mem U.D} {a : Act} {w : World} {r : R}
theorem keepC_false : ∀ (gs : List Cg) (cs ls : List (VV U.D)), decCL false m gs cs = some ls → ∀ (i k0 : Nat), gs[i]? = some (.keep k0) → ∃ k xs, cs[i]? = some (.ktree k xs)
  | [], cs, ls, hd, i, k0, h => by simp at h
  | _ :: _, [], ls, hd, i, k0, h => by cases hd
  | g :: gs, c :: cs, ls, hd, i, k0, h => by
    simp only [decCL] at hd
    cases h1 : decC false m g c with
    | none => rw [h1] at hd; cases hd
    | some x =>
      cases h2 : decCL false m gs cs with
      | none => rw [h1, h2] at hd; cases hd
      | some b =>
        cases i with
        | zero =>
          simp at h; subst h
          cases c <;> simp only [decC] at h1 <;> try (cases h1)
          all_goals exact ⟨_, _, rfl⟩
        | succ i => exact keepC_false gs cs b h2 i k0 (by simpa using h)
theorem keepOk_false (hM : MRel U C L m w) (hkv : L'.kv = L.kv) {g : Sg} {c : VV U.D} {ls : List (VV U.D)} (hd : dec false m g c = some ls) : KeepOk L L' w g c := by
  cases g <;> try (exact trivial)
  case box t gs =>
    cases c <;> try (exact trivial)
    case ptr κ j =>
      cases j with
      | succ j => simp only [dec] at hd; cases hd
      | zero =>
        simp only [dec] at hd
        cases hm : mget m κ with
        | none => rw [hm] at hd; cases hd
        | some b =>
          rw [hm] at hd
          cases b with
          | box t' cs =>
            simp only at hd
            cases ht : Nat.beq t t' with
            | false => rw [ht] at hd; cases hd
            | true =>
              simp only [ht, cond_true] at hd
              intro A t2 lay hA i k v hg hv
              obtain ⟨k', xs, hc⟩ := keepC_false gs cs ls hd i k hg
              obtain ⟨-, A', hA', -, hAl⟩ := hM.me κ _ hm
              rw [hA] at hA'
              cases hA'
              have hrv := (hAl i _ v hc hv).1
              rw [hkv]
              cases hrv with
              | leaf h => cases h with
                | bool hb => simp [boolOf] at hb
              | ktree => rfl
          | _ => cases hd
theorem keepOks_false (hM : MRel U C L m w) (hkv : L'.kv = L.kv) : ∀ (ss : List Sg) (cs ls : List (VV U.D)), decL false m ss cs = some ls → KeepOks U L L' w ss cs
  | [], cs, ls, _ => .nil _
  | _ :: _, [], ls, _ => .no _
  | g :: ss, c :: cs, ls, hd => by
    simp only [decL] at hd
    cases h1 : dec false m g c with
    | none => rw [h1] at hd; cases hd
    | some x =>
      cases h2 : decL false m ss cs with
      | none => rw [h1, h2] at hd; cases hd
      | some b => exact .cons (keepOk_false hM hkv h1) (keepOks_false hM hkv ss cs b h2)
theorem setT_get : ∀ (ts : List Nat) (t vs : List (VV U.D)) (i : Nat) (c : VV U.D), (setT t ts vs)[i]? = some c → t[i]? = some c ∨ ∃ p : Nat, ts[p]? = some i ∧ vs[p]? = some c
  | [], t, vs, i, c, h => .inl (by cases vs <;> exact h)
  | j :: ts, t, [], i, c, h => .inl h
  | j :: ts, t, v :: vs, i, c, h => by
    simp only [setT] at h
    rcases setT_get ts _ vs i c h with h | ⟨p, h1, h2⟩
    · rw [List.getElem?_set] at h
      by_cases e : j = i
      · subst e
        rw [if_pos rfl] at h
        by_cases hl : j < t.length
        · rw [if_pos hl] at h
          exact .inr ⟨0, rfl, by simpa using h⟩
        · rw [if_neg hl] at h; cases h
      · rw [if_neg e] at h; exact .inl h
    · exact .inr ⟨p + 1, by simpa using h1, by simpa using h2⟩
theorem setT_len : ∀ (ts : List Nat) (t vs : List (VV U.D)), (setT t ts vs).length = t.length
  | [], t, vs => by cases vs <;> rfl
  | j :: ts, t, [] => rfl
  | j :: ts, t, v :: vs => by simp only [setT]; rw [setT_len ts]; simp
theorem tsL_rvs (hR : Rel U C L s a w) : ∀ (ts : List Nat), RVs U C.F C.w0 L (tsL s.t ts) (ts.map fun i => a.tmps.getD i undef)
  | [] => RVs.nil
  | i :: ts => RVs.cons (hR.get i) (tsL_rvs hR ts)
theorem tgt0 (hM : MRel U C L m w) (bl : List Nat) (hb : bl = []) : Tgt U C L w C.F C.w0 bl := ⟨fun b hb => hb, fun b hb => rfl, fun q hq => by subst hb; simp at hq⟩
theorem hand (PL : Ulaw U) (hM : MRel U C L m w) {ss : List Sg} {cs ls' : List (VV U.D)} {vs : List Value} (κ0 : Nat) (hl : LLs U false m C.F C.w0 L.kv ss cs ls') (hv : RVs U C.F C.w0 L cs vs) (hko : ∀ L' : Lc, L'.kv = L.kv → KeepOks U L L' w ss cs) (hn : ndp (somes (kys m ss cs)) = true) :
    ∃ L' cs' m', L'.kv = L.kv ∧ encL ss κ0 ls' = (cs', m', κ0 + (kys m ss cs).length, []) ∧ RVs U C.F C.w0 L' cs' vs ∧ MRel U C L' m' w ∧ (∀ q b, mget m' q = some b → κ0 ≤ q ∧ q < κ0 + (kys m ss cs).length) := by
  obtain ⟨cs', m', e, h1, h2⟩ := rkL (L' := ren L κ0 (kys m ss cs) L.kv) PL hM (tgt0 hM [] rfl) [] ss cs ls' vs κ0 hl hv (hko (ren L κ0 (kys m ss cs) L.kv) rfl) (fun h => by cases h) (ren_ok hn)
  rw [List.append_nil] at e
  refine ⟨ren L κ0 (kys m ss cs) L.kv, cs', m', rfl, e, h1, ?_, fun q b hb => ⟨(h2 q b hb).1, (h2 q b hb).2.1⟩⟩
  exact ren_mrel (w0' := C.w0) (G' := C.G) hM h2 hM.fg (fun b hb => by
    obtain ⟨g1, g2, g3⟩ := hM.g0 b hb
    exact ⟨g1, by simp only [ren, g2], g3⟩) hM.hs rfl rfl rfl C.X
theorem slot_rel (PL : Ulaw U) (hR : Rel U C L s a w) {S : Slot} {x : TL U.D (lvsL S.ss)} (h : proj S s = some x) : ∃ L', L'.kv = L.kv ∧ Rel U C L' (slot s.t.length S x) a w := by
  unfold proj at h
  cases hd : decL false s.m S.ss (tsL s.t S.ts) with
  | none => rw [hd] at h; cases h
  | some lv =>
    rw [hd] at h
    simp only at h
    cases hn : ndp (somes (kys s.m S.ss (tsL s.t S.ts))) with
    | false => rw [hn] at h; cases h
    | true =>
      simp only [hn, cond_true] at h
      obtain ⟨L', cs', m', hk, e, h1, h2, -⟩ := hand PL hR.toMRel 200000 (LLs.of S.ss _ lv (unty _ x) hd (tyd_lq _ h)) (tsL_rvs hR S.ts) (fun L' hk => keepOks_false hR.toMRel hk _ _ lv hd) hn
      refine ⟨L', hk, ?_⟩
      have es : slot s.t.length S x = { t := setT (List.replicate s.t.length .junk) S.ts cs', m := m' } := by
        unfold slot; rw [e]
      rw [es]
      refine { toMRel := h2, sz := by simp [setT_len, hR.sz], tm := fun i c v hc hv => ?_, df := hR.df, fx := hR.fx }
      rcases setT_get _ _ _ _ _ hc with hc | ⟨p, hp1, hp2⟩
      · rw [List.getElem?_replicate] at hc
        by_cases hi : i < s.t.length
        · rw [if_pos hi] at hc; cases hc; exact .junk _
        · rw [if_neg hi] at hc; cases hc
      · refine h1.2 p c v hp2 ?_
        rw [List.getElem?_map, hp1]
        simp only [Option.map_some, Array.getD_eq_getD_getElem?, hv, Option.getD_some]
end
end Go.Proofs.YtikbkgenadkbdaaGreatV
/- Code. -/
namespace Go.Proofs.YtikbkgenadkbdaaGreatV
open Go
set_option linter.unusedVariables false
set_option linter.unusedSimpArgs false
variable {U : Uni} {P : Program} {R : Type}
def okC (fx : List Nat) : Code → Bool
  | .region _ ops _ => ops.toList.all (okOp fx)
  | .seq a b => okC fx a && okC fx b
  | .cond c a b => opOk c && (okC fx a && okC fx b)
  | .block _ c => okC fx c
  | .loop c => okC fx c
  | _ => true
def Ends (U : Uni) (C : Fr) (kv : Value) (K : Ex → St U.D → Option R) (r : R) (N : Nat) (Q : Exit → Act → World → Prop) : Prop :=
  ∀ (e : Ex) (s : St U.D) (L : Lc) (a : Act) (w : World), L.kv = kv → s.t.length = N → Rel U C L s a w → K e s = some r → Q (match e with
    | .normal => .normal
    | .exit i => .exit i
    | .ret => .ret) a w
theorem rounds_mono {c : Code} {Q : Exit → Act → World → Prop} : ∀ (n : Nat) (a : Act) (w : World), Code.rounds P c Q n a w → Code.rounds P c Q (n + 1) a w
  | 0, a, w, h => h.elim
  | n + 1, a, w, h => wp_mono h (fun e a w he => by
    cases e with
    | normal => exact rounds_mono n a w he
    | _ => exact he)
theorem rounds_le {c : Code} {Q : Exit → Act → World → Prop} {n m : Nat} (h : n ≤ m) {a : Act} {w : World} (hr : Code.rounds P c Q n a w) : Code.rounds P c Q m a w := by
  induction h with
  | refl => exact hr
  | step _ ih => exact rounds_mono _ _ _ ih
section
variable {C : Fr} {kv : Value} {r : R} {N : Nat} {J : List Nat}
def RegOk (P : Program) (U : Uni) (C : Fr) (kv : Value) (r : R) (N : Nat) (E : Nat → List (Con U)) (ops : Array Oper) (dr : Bool) : Prop :=
  (∀ o ∈ ops, opsOk o.op = true ∧ Free C o) → ∀ (id : Nat) (K : St U.D → Option R) (Q : Exit → Act → World → Prop) (s : St U.D) (L : Lc) (a : Act) (w : World), (∀ s L a w, L.kv = kv → s.t.length = N → Rel U C L s a w → K s = some r → Q .normal a w) →
    L.kv = kv → s.t.length = N → Rel U C L s a w → (bif dr then Vdr U E ops K (menL s.t ++ menM s.m) [] 0 ops.toList s else Vrg U E ops K ops.toList s) = some r → (Code.region id ops dr).wp P Q a w
def draws : Code → List (Array Oper)
  | .region _ ops true => [ops]
  | .seq a b => draws a ++ draws b
  | .cond _ a b => draws a ++ draws b
  | .block _ c => draws c
  | .loop c => draws c
  | _ => []
theorem Vc_sound {N0 : List Nat} {n0 : Nat} (PL : Plaw P U) {E : Nat → Nat → List (Con U)} (hE : ∀ k, k ≤ n0 → EnvOk P U (E k)) {F : Nat → Nat → St U.D → Option R} (hF0 : ∀ id s, F 0 id s = none) (hX : ∀ i, i ∉ N0 → C.X i = none) :
    ∀ (c : Code) (K : Nat → Ex → St U.D → Option R) (Q : Exit → Act → World → Prop) (n : Nat), n ≤ n0 → okC N0 c = true → (∀ k, k ≤ n0 → ∀ ops ∈ draws c, RegOk P U C kv r N (E k) ops true) → (∀ k, k ≤ n → Ends U C kv (K k) r N Q) →
      (∀ k id g, (id, g) ∈ Vcuts U (E k) J (F k) c (K k) → ∀ s : St U.D, s.t.length = N → F (k + 1) id s = some r → ∃ (S : Slot) (x : TL U.D (lvsL S.ss)), proj S s = some x ∧ g (slot N S x) = some r) →
      ∀ k, k ≤ n → ∀ (s : St U.D) (L : Lc) (a : Act) (w : World), L.kv = kv → s.t.length = N → Rel U C L s a w → Vc U (E k) J (F k) c (K k) s = some r → c.wp P Q a w := by
  have slotLen : ∀ (S : Slot) (x : TL U.D (lvsL S.ss)), (slot N S x).t.length = N := by
    intro S x
    unfold slot
    simp only [setT_len, List.length_replicate]
  have cut_ : ∀ {s : St U.D} {L : Lc} {a : Act} {w : World} {S : Slot} {x : TL U.D (lvsL S.ss)}, L.kv = kv → s.t.length = N → Rel U C L s a w → proj S s = some x → ∃ L', L'.kv = kv ∧ (slot N S x).t.length = N ∧ Rel U C L' (slot N S x) a w := by
    intro s L a w S x hkv hN hR hp
    obtain ⟨L', h1, h2⟩ := slot_rel PL.toUlaw hR hp
    rw [hN] at h2
    exact ⟨L', h1.trans hkv, slotLen S x, h2⟩
  intro c
  induction c with
  | skip =>
    intro K Q n hn hok hdr hK hcut k hk s L a w hkv hN hR h
    exact wp_skip (hK k hk .normal s L a w hkv hN hR h)
  | region id ops dr =>
    intro K Q n hn hok hdr hK hcut k hk s L a w hkv hN hR h
    simp only [Vc] at h
    have hall : ∀ o ∈ ops, opsOk o.op = true ∧ Free C o := by
      intro o ho
      simp only [okC, List.all_eq_true] at hok
      have := hok o (by simpa using ho)
      simp only [okOp, Bool.and_eq_true] at this
      refine ⟨this.1, fun i hi => hX i ?_⟩
      rw [hi] at this
      intro hm
      have h2 := this.2
      simp only [hasK_iff.2 hm] at h2
      cases h2
    cases dr with
    | true => exact hdr k (Nat.le_trans hk hn) ops List.mem_cons_self hall id (K k .normal) Q s L a w (fun s L a w h1 h2 h3 h4 => hK k hk .normal s L a w h1 h2 h3 h4) hkv hN hR h
    | false =>
      refine wp_region ?_
      have := Vrg_sound (kv := kv) PL (hE k (Nat.le_trans hk hn)) hall (Q := Q) (K := K k .normal) (r := r) (fun s L a w h1 h2 h3 h4 => hK k hk .normal s L a w h1 h2 h3 h4) ops.toList 0 s L a w rfl hkv hN hR h
      simpa [List.range_eq_range'] using this
  | seq x y ihx ihy =>
    intro K Q n hn hok hdr hK hcut k hk s L a w hkv hN hR h
    simp only [okC, Bool.and_eq_true] at hok
    refine wp_seq (ihx (fun k e s => match e with
      | .normal => if J.contains (rid y) then F k (rid y) s else Vc U (E k) J (F k) y (K k) s
      | e => K k e s) _ n hn hok.1 (fun k hkn ops ho => hdr k hkn ops (by simp only [draws]; exact List.mem_append_left _ ho)) (fun k hk e s L a w hkv hN hR h => ?_)
      (fun k id g hg => hcut k id g (by simp only [Vcuts]; exact List.mem_append_left _ (List.mem_append_left _ hg))) k hk s L a w hkv hN hR h)
    cases e with
    | exit i => exact hK k hk (.exit i) s L a w hkv hN hR h
    | ret => exact hK k hk .ret s L a w hkv hN hR h
    | normal =>
      have hy := ihy K Q n hn hok.2 (fun k hkn ops ho => hdr k hkn ops (by simp only [draws]; exact List.mem_append_right _ ho)) hK (fun k id g hg => hcut k id g (by simp only [Vcuts]; exact List.mem_append_right _ hg))
      simp only at h
      cases hj : J.contains (rid y) with
      | false => rw [hj] at h; exact hy k hk s L a w hkv hN hR h
      | true =>
        rw [hj] at h
        simp only [if_true] at h
        cases k with
        | zero => rw [hF0] at h; cases h
        | succ k =>
          obtain ⟨S, z, hp, hg⟩ := hcut k (rid y) (Vc U (E k) J (F k) y (K k)) (by simp only [Vcuts]; exact List.mem_append_left _ (List.mem_append_right _ (by rw [if_pos hj]; exact List.mem_cons_self))) s hN h
          obtain ⟨L', h1, h2, h3⟩ := cut_ hkv hN hR hp
          exact hy k (by omega) _ L' a w h1 h2 h3 hg
  | cond c x y ihx ihy =>
    intro K Q n hn hok hdr hK hcut k hk s L a w hkv hN hR h
    simp only [okC, Bool.and_eq_true] at hok
    simp only [Vc] at h
    obtain ⟨b, hb, h⟩ := vcond_inv h
    have hv := (hR.ev c hok.1).bool_inv hb
    refine wp_cond hv ?_
    cases b with
    | true => exact ihx K Q n hn hok.2.1 (fun k hkn ops ho => hdr k hkn ops (by simp only [draws]; exact List.mem_append_left _ ho)) hK (fun k id g hg => hcut k id g (by simp only [Vcuts]; exact List.mem_append_left _ hg)) k hk s L a w hkv hN hR (by simpa using h)
    | false => exact ihy K Q n hn hok.2.2 (fun k hkn ops ho => hdr k hkn ops (by simp only [draws]; exact List.mem_append_right _ ho)) hK (fun k id g hg => hcut k id g (by simp only [Vcuts]; exact List.mem_append_right _ hg)) k hk s L a w hkv hN hR (by simpa using h)
  | block i c ih =>
    intro K Q n hn hok hdr hK hcut k hk s L a w hkv hN hR h
    refine wp_block (ih _ _ n hn hok hdr (fun k hk e s L a w hkv hN hR h => ?_) hcut k hk s L a w hkv hN hR h)
    cases e with
    | normal => exact hK k hk .normal s L a w hkv hN hR h
    | ret => exact hK k hk .ret s L a w hkv hN hR h
    | exit j =>
      simp only at h
      by_cases e : j = i
      · subst e
        simp only [beq_self_eq_true, if_true] at h
        simp only [Exit.inBlock, if_true]
        exact hK k hk .normal s L a w hkv hN hR h
      · have hb : (j == i) = false := by simpa using e
        rw [hb] at h
        simp only [Exit.inBlock, if_neg e]
        exact hK k hk (.exit j) s L a w hkv hN hR h
  | loop c ih =>
    intro K Q n hn hok hdr hK hcut k hk s L a w hkv hN hR h
    simp only [Vc] at h
    refine wp_loop_rounds k ?_
    have key : ∀ k, k ≤ n → ∀ (s : St U.D) (L : Lc) (a : Act) (w : World), L.kv = kv → s.t.length = N → Rel U C L s a w → F k (rid c) s = some r → Code.rounds P c Q k a w := by
      intro k
      induction k using Nat.strongRecOn with
      | _ k ihk =>
        intro hk s L a w hkv hN hR h
        cases k with
        | zero => rw [hF0] at h; cases h
        | succ k =>
          obtain ⟨S, z, hp, hg⟩ := hcut k (rid c) _ (by simp only [Vcuts]; exact List.mem_cons_self) s hN h
          obtain ⟨L', h1, h2, h3⟩ := cut_ hkv hN hR hp
          rw [rounds_succ]
          refine ih (fun k e s => match e with
            | .normal => F k (rid c) s
            | e => K k e s) _ k (by omega) hok hdr (fun k' hk' e s L a w hkv hN hR h => ?_) (fun k id g hg => hcut k id g (by simp only [Vcuts]; exact List.mem_cons_of_mem _ hg)) k (Nat.le_refl _) _ L' a w h1 h2 h3 hg
          cases e with
          | normal => exact rounds_le hk' (ihk k' (by omega) (by omega) s L a w hkv hN hR h)
          | exit i => exact hK k' (by omega) (.exit i) s L a w hkv hN hR h
          | ret => exact hK k' (by omega) .ret s L a w hkv hN hR h
    exact key k hk s L a w hkv hN hR h
  | exit i =>
    intro K Q n hn hok hdr hK hcut k hk s L a w hkv hN hR h
    exact wp_exit (hK k hk (.exit i) s L a w hkv hN hR h)
  | ret =>
    intro K Q n hn hok hdr hK hcut k hk s L a w hkv hN hR h
    exact wp_ret (hK k hk .ret s L a w hkv hN hR h)
  | _ =>
    intro K Q n hn hok hdr hK hcut k hk s L a w hkv hN hR h
    cases h
end
end Go.Proofs.YtikbkgenadkbdaaGreatV
/- What a frame hands back. -/
namespace Go.Proofs.YtikbkgenadkbdaaGreatV
open Go
set_option linter.unusedVariables false
set_option linter.unusedSimpArgs false
variable {U : Uni} {P : Program} {R : Type}
section
variable {C : Fr} {L L' : Lc} {s : St U.D} {m : Mem U.D} {a : Act} {w : World} {r : R} {kv : Value} {F' : Nat → Prop} {w0' : World}
theorem LQs.app_inv {ys a b : List (VV U.D)} (h : LQs ys (a ++ b)) : LQs (ys.take a.length) a ∧ LQs (ys.drop a.length) b := by
  obtain ⟨a', b', rfl, h1, h2⟩ := h.split
  have := h1.1
  rw [← this, List.take_left, List.drop_left]
  exact ⟨h1, h2⟩
theorem mergeC_ok : ∀ (gs : List Cg) (cs b os ys rest : List (VV U.D)), decCL false m gs cs = some b → KFc U F' w0' kv gs os → LQs ys (outD gs b ++ rest) → ∃ a r', mergeC gs os ys = (a, r') ∧ LK U F' w0' kv gs a b ∧ LQs r' rest
  | [], [], b, os, ys, rest, hd, hk, hl => by
    cases hd
    exact ⟨[], ys, by cases os <;> rfl, .nil, hl⟩
  | [], _ :: _, b, os, ys, rest, hd, _, _ => by cases hd
  | _ :: _, [], b, os, ys, rest, hd, _, _ => by cases hd
  | g :: gs, c :: cs, b, [], ys, rest, hd, hk, hl => hk.elim
  | g :: gs, c :: cs, b, o :: os, ys, rest, hd, hk, hl => by
    simp only [decCL] at hd
    cases h1 : decC false m g c with
    | none => rw [h1] at hd; cases hd
    | some x =>
      cases h2 : decCL false m gs cs with
      | none => rw [h1, h2] at hd; cases hd
      | some b' =>
        rw [h1, h2] at hd
        cases hd
        have plain : outD (g :: gs) (x :: b') = x :: outD gs b' → (∀ y r, mergeC (g :: gs) (o :: os) (y :: r) = (y :: (mergeC gs os r).1, (mergeC gs os r).2)) → ∃ a r', mergeC (g :: gs) (o :: os) ys = (a, r') ∧ LK U F' w0' kv (g :: gs) a (x :: b') ∧ LQs r' rest := by
          intro e1 e2
          rw [e1] at hl
          obtain ⟨y, r, rfl, hy, hr⟩ := LQs.inv (l := outD gs b' ++ rest) hl
          obtain ⟨a, r', h3, h4, h5⟩ := mergeC_ok gs cs b' os r rest h2 hk.2 hr
          exact ⟨y :: a, r', by rw [e2, h3], .cons (.inl hy) h4, h5⟩
        cases g with
        | keep k0 =>
          obtain ⟨k, xs, rfl, hrc⟩ := hk.1 k0 rfl
          obtain ⟨a, r', h3, h4, h5⟩ := mergeC_ok gs cs b' os ys rest h2 hk.2 hl
          exact ⟨.tree k xs :: a, r', by simp only [mergeC, h3], .cons (.inr ⟨k0, k, xs, rfl, rfl, hrc⟩) h4, h5⟩
        | _ => exact plain rfl (fun _ _ => rfl)
theorem ioV_nil (ss : List Sg) : ioV ss ([] : List (VV U.D)) = [] := by
  cases ss with
  | nil => rfl
  | cons s ss => cases s <;> (try rfl) <;> rename_i g <;> cases g <;> rfl
theorem mergeL_ok : ∀ (A : List Sg) (t ov xl ys : List (VV U.D)), decL false m (ioS A) (ioV A t) = some ov → KF U F' w0' kv A xl → LQs ys (outM (ioS A) ov) → LLs U false m F' w0' kv (ioS A) (ioV A t) (mergeL A xl ys)
  | [], t, ov, xl, ys, hd, hk, hl => by
    have e : ioV [] t = ([] : List (VV U.D)) := by cases t <;> rfl
    rw [e]
    exact .nil
  | s :: A, [], ov, xl, ys, hd, hk, hl => by
    rw [ioV_nil] at hd ⊢
    have skip : ioS (s :: A) = ioS A → (∃ n, mergeL (s :: A) xl ys = mergeL A (xl.drop n) ys ∧ KF U F' w0' kv A (xl.drop n)) → LLs U false m F' w0' kv (ioS (s :: A)) [] (mergeL (s :: A) xl ys) := by
      intro e ⟨n, e2, e3⟩
      rw [e] at hd hl ⊢
      rw [e2]
      have ih := mergeL_ok A [] ov (xl.drop n) ys (by rw [ioV_nil]; exact hd) e3 hl
      rw [ioV_nil] at ih
      exact ih
    cases s with
    | c g => cases g <;> first | (simp only [ioS, decL] at hd; cases hd; done) | exact skip rfl ⟨1, rfl, hk.2⟩
    | box t gs => simp only [ioS, decL] at hd; cases hd
    | abox t n k => simp only [ioS, decL] at hd; cases hd
    | arr n k => exact skip rfl ⟨_, rfl, hk⟩
    | agg gs => exact skip rfl ⟨_, rfl, hk⟩
    | pbox t gs => exact skip rfl ⟨_, rfl, hk⟩
    | fn f ps => exact skip rfl ⟨_, rfl, hk⟩
  | s :: A, v :: t, ov, xl, ys, hd, hk, hl => by
    have skip : ioS (s :: A) = ioS A → ioV (s :: A) (v :: t) = ioV A t → (∃ n, mergeL (s :: A) xl ys = mergeL A (xl.drop n) ys ∧ KF U F' w0' kv A (xl.drop n)) → LLs U false m F' w0' kv (ioS (s :: A)) (ioV (s :: A) (v :: t)) (mergeL (s :: A) xl ys) := by
      intro e e1 ⟨n, e2, e3⟩
      rw [e, e1] at hd
      rw [e] at hl
      rw [e, e1, e2]
      exact mergeL_ok A t ov (xl.drop n) ys hd e3 hl
    cases s with
    | arr n k => exact skip rfl rfl ⟨_, rfl, hk⟩
    | agg gs => exact skip rfl rfl ⟨_, rfl, hk⟩
    | pbox t gs => exact skip rfl rfl ⟨_, rfl, hk⟩
    | fn f ps => exact skip rfl rfl ⟨_, rfl, hk⟩
    | abox t' n k =>
      simp only [ioS, ioV, decL] at hd
      cases h1 : dec false m (.abox t' n k) v with
      | none => rw [h1] at hd; cases hd
      | some x => cases v <;> simp only [dec] at h1 <;> cases h1
    | c g =>
      cases g with
      | own k =>
        simp only [ioS, ioV, decL] at hd ⊢
        cases h1 : dec false m (.c (.own k)) v with
        | none => rw [h1] at hd; cases hd
        | some x =>
          cases h2 : decL false m (ioS A) (ioV A t) with
          | none => rw [h1, h2] at hd; cases hd
          | some b =>
            rw [h1, h2] at hd
            cases hd
            have hx : ∃ z, x = [z] := by
              simp only [dec] at h1
              split at h1
              · cases h1; exact ⟨_, rfl⟩
              · cases h1
            obtain ⟨z, rfl⟩ := hx
            have hl' : LQs ys (z :: outM (ioS A) b) := hl
            obtain ⟨y, r, rfl, hy, hr⟩ := hl'.inv
            obtain ⟨hx1, hx2⟩ := hk
            cases xl with
            | nil => simp at hx1
            | cons x0 xl =>
              have ih := mergeL_ok A t b xl r h2 hx2 hr
              exact LLs.cons (a' := [y]) h1 (LQs.cons hy LQs.nil_) ih
      | _ => exact skip rfl rfl ⟨1, rfl, hk.2⟩
    | box t' gs =>
      simp only [ioS, ioV, decL] at hd ⊢
      cases h1 : dec false m (.box t' gs) v with
      | none => rw [h1] at hd; cases hd
      | some x =>
        cases h2 : decL false m (ioS A) (ioV A t) with
        | none => rw [h1, h2] at hd; cases hd
        | some b =>
          rw [h1, h2] at hd
          cases hd
          obtain ⟨cs, h3⟩ := box_inv h1
          have hlen := decCL_len false gs cs x h3
          have hl' : LQs ys (outD gs x ++ outM (ioS A) b) := by
            have : outM (.box t' gs :: ioS A) (x ++ b) = outD gs x ++ outM (ioS A) b := by simp only [outM, ← hlen, List.take_left, List.drop_left]
            rw [← this]; exact hl
          obtain ⟨a', r', h4, h5, h6⟩ := mergeC_ok gs cs x (xl.take gs.length) ys (outM (ioS A) b) h3 hk.1 hl'
          have ih := mergeL_ok A t b (xl.drop gs.length) r' h2 hk.2 h6
          have e : mergeL (.box t' gs :: A) xl ys = a' ++ mergeL A (xl.drop gs.length) r' := by simp only [mergeL, h4]
          rw [e]
          exact LLs.cons h1 h5 ih
theorem LLs.app {bor : Bool} {ss ss' : List Sg} {cs cs' ls ls' : List (VV U.D)} (h : LLs U bor m F' w0' kv ss cs ls) (h' : LLs U bor m F' w0' kv ss' cs' ls') : LLs U bor m F' w0' kv (ss ++ ss') (cs ++ cs') (ls ++ ls') := by
  induction h with
  | nil => exact h'
  | cons hd h hs ih => rw [List.append_assoc]; exact .cons hd h ih
end
end Go.Proofs.YtikbkgenadkbdaaGreatV
/- A function. -/
namespace Go.Proofs.YtikbkgenadkbdaaGreatV
open Go
set_option linter.unusedVariables false
set_option linter.unusedSimpArgs false
variable {U : Uni} {P : Program} {R : Type}
section
variable {C : Fr} {L L' : Lc} {s : St U.D} {m : Mem U.D} {a : Act} {w : World} {r : R} {kv : Value} {F' : Nat → Prop} {w0' : World}
theorem decL_lens {bor : Bool} : ∀ (ss : List Sg) (cs ls : List (VV U.D)), decL bor m ss cs = some ls → cs.length = ss.length ∧ ls.length = (lvsL ss).length
  | [], [], ls, hd => by cases hd; exact ⟨rfl, rfl⟩
  | [], _ :: _, ls, hd => by cases hd
  | _ :: _, [], ls, hd => by cases hd
  | s :: ss, c :: cs, ls, hd => by
    simp only [decL] at hd
    cases h1 : dec bor m s c with
    | none => rw [h1] at hd; cases hd
    | some x =>
      cases h2 : decL bor m ss cs with
      | none => rw [h1, h2] at hd; cases hd
      | some b =>
        rw [h1, h2] at hd
        cases hd
        obtain ⟨e1, e2⟩ := decL_lens ss cs b h2
        simp [e1, e2, lvsL, dec_len h1]
theorem encL_len : ∀ (ss : List Sg) (κ : Nat) (r : List (VV U.D)), (encL ss κ r).1.length = ss.length
  | [], κ, r => rfl
  | s :: ss, κ, r => by
    simp only [encL]
    generalize enc s κ r = q
    obtain ⟨v, m, κ', r'⟩ := q
    have ih := encL_len ss κ' r'
    generalize hq : encL ss κ' r' = p at ih
    obtain ⟨vs, m', κ'', r''⟩ := p
    simp only [List.length_cons] at ih ⊢
    rw [ih]
theorem ioV_take : ∀ (ss : List Sg) (t : List (VV U.D)), ioV ss t = ioV ss (t.take ss.length)
  | [], t => by cases t <;> rfl
  | s :: ss, [] => by simp
  | s :: ss, c :: t => by
    have ih := ioV_take ss t
    simp only [List.length_cons, List.take_succ_cons]
    cases s with
    | c g => cases g <;> simp only [ioV] <;> rw [ih]
    | _ => simp only [ioV]; rw [ih]
theorem ioRVs' {F : Nat → Prop} {w0 : World} {L : Lc} : ∀ (ss : List Sg) (j : Nat) (cs : List (VV U.D)) (vs : List Value), cs.length = vs.length → (∀ (i : Nat) (c : VV U.D) (v : Value), i + j ∈ ioIx j ss → cs[i]? = some c → vs[i]? = some v → RV U F w0 L c v) → RVs U F w0 L (ioV ss cs) (ioU ss vs)
  | [], j, cs, vs, _, _ => by cases cs <;> cases vs <;> exact RVs.nil
  | s :: ss, j, [], vs, hn, h => by
    have : vs = [] := List.eq_nil_of_length_eq_zero hn.symm
    subst this
    have e : ioV (s :: ss) ([] : List (VV U.D)) = [] := by cases s <;> (try rfl) <;> rename_i g <;> cases g <;> rfl
    have e2 : ioU (s :: ss) [] = [] := by cases s <;> (try rfl) <;> rename_i g <;> cases g <;> rfl
    rw [e, e2]; exact RVs.nil
  | s :: ss, j, c :: cs, [], hn, h => by simp at hn
  | s :: ss, j, c :: cs, v :: vs, hn, h => by
    have hsub : ∀ i, i ∈ ioIx (j + 1) ss → i ∈ ioIx j (s :: ss) := by
      intro i hi
      cases s with
      | c g => cases g <;> simp only [ioIx] <;> first | exact hi | exact List.mem_cons_of_mem _ hi
      | box t gs => simp only [ioIx]; exact List.mem_cons_of_mem _ hi
      | abox t n k => simp only [ioIx]; exact List.mem_cons_of_mem _ hi
      | _ => simp only [ioIx]; exact hi
    have ih := ioRVs' ss (j + 1) cs vs (by simpa using hn) (fun i c v hi hc hv => h (i + 1) c v (by rw [show i + 1 + j = i + (j + 1) by omega]; exact hsub _ hi) (by simpa using hc) (by simpa using hv))
    cases s with
    | c g => cases g <;> first | exact ih | exact RVs.cons (h 0 c v (by simp [ioIx]) rfl rfl) ih
    | box t gs => exact RVs.cons (h 0 c v (by simp [ioIx]) rfl rfl) ih
    | abox t n k => exact RVs.cons (h 0 c v (by simp [ioIx]) rfl rfl) ih
    | _ => exact ih
def resRun (tmps : Array Value) : ResultVar → Sem Value
  | .tmp t => pure (tmps.getD t undef)
  | .cell a t => do loadVar t (← asAddr (tmps.getD a undef))
theorem res_list (PL : Plaw P U) (hR : Rel U C L s a w) : ∀ (rs : List ResultVar) (vs : List (VV U.D)), resL s rs = some vs → ∃ us, (rs.mapM (resRun a.tmps)).run P w = .ok us w ∧ RVs U C.F C.w0 L vs us
  | [], vs, h => by cases h; exact ⟨[], by simp [Sem.run], RVs.nil⟩
  | rv :: rs, vs, h => by
    simp only [resL] at h
    cases h1 : resV s rv with
    | none => rw [h1] at h; cases h
    | some c =>
      cases h2 : resL s rs with
      | none => rw [h1, h2] at h; cases h
      | some vs' =>
        rw [h1, h2] at h
        cases h
        obtain ⟨us, hr, hv⟩ := res_list PL hR rs vs' h2
        have one : ∃ u, (resRun a.tmps rv).run P w = .ok u w ∧ RV U C.F C.w0 L c u := by
          cases rv with
          | tmp t => simp only [resV] at h1; cases h1; exact ⟨_, rfl, hR.get t⟩
          | cell i t =>
            simp only [resV] at h1
            have hvi := hR.get i
            generalize lget s.t i = ci at h1 hvi
            cases ci <;> try (cases h1)
            case ptr κ j =>
              cases j with
              | succ j => cases h1
              | zero =>
                cases hT : U.ti t with
                | none => rw [hT] at h1; cases h1
                | some T =>
                  rw [hT] at h1
                  simp only at h1
                  cases hm : mget s.m κ with
                  | none => rw [hm] at h1; cases h1
                  | some b =>
                    rw [hm] at h1
                    cases b with
                    | box t' cs =>
                      simp only at h1
                      obtain ⟨e, hca⟩ := ptrCells hR.toMRel hvi hm
                      obtain ⟨u, h3, h4⟩ := load_run (PL.ty t T hT) hca h1
                      refine ⟨u, ?_, h4⟩
                      rw [← e] at h3
                      simp only [resRun, e]
                      rw [e] at h3
                      simpa [Instr.loadAt, Instr.sureAddr, asAddr] using h3
                    | _ => cases h1
        obtain ⟨u, hu, hcu⟩ := one
        refine ⟨u :: us, ?_, RVs.cons hcu hv⟩
        rw [List.mapM_cons]
        simp [Sem.run_bind, hu, hr, Result.andThen]
theorem res_run (PL : Plaw P U) (hR : Rel U C L s a w) {fn : Func} {vs : List (VV U.D)} (h : resL s fn.results.toList = some vs) : ∃ us, (results fn a.tmps).run P w = .ok (packU us) w ∧ RVs U C.F C.w0 L vs us := by
  obtain ⟨us, h1, h2⟩ := res_list PL hR _ vs h
  refine ⟨us, ?_, h2⟩
  have hm : (fn.results.mapM (resRun a.tmps)).run P w = .ok us.toArray w := by
    rw [Array.mapM_eq_mapM_toList]
    simp only [map_eq_pure_bind, Sem.run_bind, h1]
    rfl
  have e : results fn a.tmps = (fn.results.mapM (resRun a.tmps) >>= fun vs => pure (if h : vs.size = 1 then vs[0] else .tuple vs)) := by
    unfold results
    congr 1
  rw [e]
  simp only [Sem.run_bind, hm, Result.andThen]
  match us with
  | [] => rfl
  | [u] => rfl
  | x :: y :: z => simp [packU, Sem.run]
end
end Go.Proofs.YtikbkgenadkbdaaGreatV
/- A function's contract. -/
namespace Go.Proofs.YtikbkgenadkbdaaGreatV
open Go
set_option linter.unusedVariables false
set_option linter.unusedSimpArgs false
variable {U : Uni} {P : Program} {R : Type}
theorem fin_ok (PL : Plaw P U) {C : Fr} {L : Lc} {s : St U.D} {a : Act} {w : World} (hR : Rel U C L s a w) {fn : Func} {A R : List Sg} {y : TL U.D (lvsL R ++ outsL A)} (h : fin fn.results.toList A R s = some y) {vs : List Value} (hvl : vs.length = A.length) (hN : A.length ≤ s.t.length)
    (hfx : ∀ (i : Nat) (v : Value), i ∈ ioIx 0 A → vs[i]? = some v → a.tmps[i]? = some v) {xl : List (VV U.D)} (hk : KF U C.F C.w0 L.kv A xl) (κ0 : Nat) :
    ∃ us, (results fn a.tmps).run P w = .ok (packU us) w ∧ ∃ L2 cs2 m2 κ2, encL (R ++ ioS A) κ0 ((unty (lvsL R ++ outsL A) y).take (lvsL R).length ++ mergeL A xl ((unty (lvsL R ++ outsL A) y).drop (lvsL R).length)) = (cs2, m2, κ2, []) ∧
      us.length = R.length ∧ RVs U C.F C.w0 L2 cs2 (us ++ ioU A vs) ∧ MRel U C L2 m2 w ∧ L2.kv = L.kv ∧ (∀ q b, mget m2 q = some b → κ0 ≤ q ∧ q < κ2) := by
  unfold fin at h
  cases hr : resL s fn.results.toList with
  | none => rw [hr] at h; cases h
  | some rs =>
    rw [hr] at h
    simp only at h
    cases h1 : decL false s.m R rs with
    | none => rw [h1] at h; cases h
    | some lv =>
      cases h2 : decL false s.m (ioS A) (ioV A s.t) with
      | none => rw [h1, h2] at h; cases h
      | some ov =>
        rw [h1, h2] at h
        simp only at h
        cases hn : ndp (somes (kys s.m (R ++ ioS A) (rs ++ ioV A s.t))) with
        | false => rw [hn] at h; cases h
        | true =>
          simp only [hn, cond_true] at h
          obtain ⟨us, hrun, hus⟩ := res_run PL hR hr
          obtain ⟨e1, e2⟩ := decL_lens R rs lv h1
          have hlq := tyd_lq _ h
          obtain ⟨hl1, hl2⟩ := hlq.app_inv
          rw [e2] at hl1 hl2
          have hio : RVs U C.F C.w0 L (ioV A s.t) (ioU A vs) := by
            rw [ioV_take]
            refine ioRVs' A 0 _ vs (by simp [hvl]; omega) (fun i c v hio hc hv => ?_)
            rw [List.getElem?_take] at hc
            by_cases hi : i < A.length
            · rw [if_pos hi] at hc
              exact hR.tm i c v hc (hfx i v hio hv)
            · rw [if_neg hi] at hc; cases hc
          have hll := LLs.app (LLs.of (kv := L.kv) (F' := C.F) (w0' := C.w0) R rs lv _ h1 hl1) (mergeL_ok A s.t ov xl _ h2 hk hl2)
          have hko : ∀ L' : Lc, L'.kv = L.kv → KeepOks U L L' w (R ++ ioS A) (rs ++ ioV A s.t) := by
            intro L' hL
            have k1 := keepOks_false (L' := L') hR.toMRel hL R rs lv h1
            have k2 := keepOks_false (L' := L') hR.toMRel hL (ioS A) _ ov h2
            have app : ∀ (ss : List Sg) (cs : List (VV U.D)), cs.length = ss.length → KeepOks U L L' w ss cs → KeepOks U L L' w (ss ++ ioS A) (cs ++ ioV A s.t) := by
              intro ss
              induction ss with
              | nil =>
                intro cs hcs _
                have : cs = [] := List.eq_nil_of_length_eq_zero hcs
                subst this; exact k2
              | cons g ss ih =>
                intro cs hcs h
                cases h with
                | no => simp at hcs
                | cons a b => exact .cons a (ih _ (by simpa using hcs) b)
            exact app R rs e1 k1
          obtain ⟨L2, cs2, m2, hkv, he, hv2, hM2, hrg⟩ := hand PL.toUlaw hR.toMRel κ0 hll (RVs.app hus hio) hko hn
          exact ⟨us, hrun, L2, cs2, m2, _, he, by rw [← hus.1]; exact e1, hv2, hM2, hkv, hrg⟩
theorem sound_fn (PL : Plaw P U) {f : FuncId} {fn : Func} {body : Code} (hf : P.funcs[f]? = some fn) (hb : fn.body = some body) {A R : List Sg} {J : List Nat} {E : Nat → Nat → List (Con U)} {F : Nat → Nat → St U.D → Option (TL U.D (lvsL R ++ outsL A))} {g : Nat → TL U.D (lvsL A) → Option (TL U.D (lvsL R ++ outsL A))}
    {n0 : Nat} (hE : ∀ k, k ≤ n0 → EnvOk P U (E k)) (hF0 : ∀ id s, F 0 id s = none) (hok : okC (ioIx 0 A) body = true) (hlen : Nat.ble A.length fn.ntmps = true)
    (hdr : ∀ k, k ≤ n0 → ∀ ops ∈ draws body, ∀ C kv (r : TL U.D (lvsL R ++ outsL A)) N, RegOk P U C kv r N (E k) ops true)
    (htop : ∀ k x, Vc U (E k) J (F k) body (K0 fn.results.toList A R) (ini fn.ntmps A x) = g k x)
    (hcut : ∀ k id q, (id, q) ∈ Vcuts U (E k) J (F k) body (K0 fn.results.toList A R) → ∀ s : St U.D, ∀ r, F (k + 1) id s = some r → ∃ (S : Slot) (x : TL U.D (lvsL S.ss)), proj S s = some x ∧ q (slot fn.ntmps S x) = some r)
    (k : Nat) (hk : k ≤ n0) : SoundC P U f ⟨A, R, g k⟩ := by
  intro κ0 x y hy F0 G L w vs cs m κ he hv hM hKF
  have hAl : cs.length = A.length := by
    have := encL_len A 100000 (unty (lvsL A) x)
    rw [he] at this; exact this
  have hvl : vs.length = A.length := hv.1.symm.trans hAl
  have hle := Nat.le_of_ble_eq_true hlen
  refine calls_of_wp hf hb ?_
  have hM' : MRel U ⟨F0, G, w, fun i => if i ∈ ioIx 0 A then vs[i]? else none⟩ L m w := { me := hM.me, fg := hM.fg, g0 := hM.g0, hl := hM.hl, rvo := hM.rvo, hs := hM.hs, os := hM.os, tp := hM.tp, ou := hM.ou }
  have hini : ini fn.ntmps A x = { t := cs ++ List.replicate (fn.ntmps - cs.length) .junk, m := m } := by
    unfold ini; rw [he]
  have hR0 : Rel U ⟨F0, G, w, fun i => if i ∈ ioIx 0 A then vs[i]? else none⟩ L (ini fn.ntmps A x) { tmps := vs.toArray ++ Array.replicate (fn.ntmps - vs.toArray.size) undef, defers := [] } w := by
    rw [hini]
    refine { toMRel := hM', sz := by simp [hv.1], tm := fun i c v hc hu => ?_, df := rfl, fx := fun i v hi => ?_ }
    · by_cases hi : i < cs.length
      · rw [List.getElem?_append_left hi] at hc
        have hi' : i < vs.length := by rw [← hv.1]; exact hi
        have hu' : vs[i]? = some v := by
          rw [Array.getElem?_append_left (by simpa using hi')] at hu
          simpa using hu
        exact hv.2 i c v hc hu'
      · rw [List.getElem?_append_right (by omega), List.getElem?_replicate] at hc
        split at hc
        · cases hc; exact .junk _
        · cases hc
    · simp only at hi
      have hi : vs[i]? = some v := by
        split at hi
        · exact hi
        · cases hi
      have hi' : i < vs.length := idx_lt hi
      simp only
      rw [Array.getElem?_append_left (by simpa using hi')]
      simpa using hi
  have hN0 : (ini fn.ntmps A x).t.length = fn.ntmps := by
    rw [hini]; simp [hAl]; omega
  refine Vc_sound (N0 := ioIx 0 A) (J := J) PL hE hF0 (C := ⟨F0, G, w, fun i => if i ∈ ioIx 0 A then vs[i]? else none⟩) (kv := L.kv) (r := y) (N := fn.ntmps) (fun i hi => if_neg hi) body (fun _ => K0 fn.results.toList A R) _ k hk hok (fun k hkn ops ho => hdr k hkn ops ho _ _ _ _)
    (fun k' _ e s L' a w' hkv hN hR h => ?_) (fun k id q hq s hN h => hcut k id q hq s y h) k (Nat.le_refl _) _ L _ w rfl hN0 hR0 ((htop k x).trans hy)
  have fin_ : fin fn.results.toList A R s = some y → a.defers = [] ∧ ∃ v, (results fn a.tmps).run P w' = .ok v w' ∧ Ret U ⟨A, R, g k⟩ ⟨F0, G, w, fun _ => none⟩ L.kv κ0 x y vs (.returned v) w' := by
    intro h
    obtain ⟨us, h1, L2, cs2, m2, κ2, h2, h3, h4, h5, h6, h7⟩ := fin_ok PL hR h hvl (by omega) (fun i v hio hi => hR.fx i v (by simp only; rw [if_pos hio]; exact hi)) (xl := unty (lvsL A) x) (by rw [hkv]; exact hKF) κ0
    exact ⟨hR.df, _, h1, L2, cs2, m2, κ2, us, h2, rfl, h3, h4, { me := h5.me, fg := h5.fg, g0 := h5.g0, hl := h5.hl, rvo := h5.rvo, hs := h5.hs, os := h5.os, tp := h5.tp, ou := h5.ou }, h6.trans hkv, h7⟩
  cases e with
  | normal => exact fin_ h
  | ret => exact fin_ h
  | exit i => cases h
end Go.Proofs.YtikbkgenadkbdaaGreatV
/- What is read of an operation goes on where more is known. -/
namespace Go.Proofs.YtikbkgenadkbdaaGreatV
open Go
set_option linter.unusedVariables false
set_option linter.unusedSimpArgs false
variable {U : Uni} {P : Program} {R : Type}
section
variable {m m' : Mem U.D} {d : Nat} {r : R}
def More (m m' : Mem U.D) : Prop := ∀ κ b, mget m κ = some b → mget m' κ = some b
def Fresh (m' : Mem U.D) (d : Nat) : Prop := ∀ q, 64 * d ≤ q → q < 64 * d + 64 → mget m' q = none
theorem nw_mono {K : Option R} (hf : Fresh m' d) (h : nw m (64 * d) K = some r) : nw m' (64 * d) K = some r := by
  unfold nw at h ⊢
  rw [hf (64 * d) (Nat.le_refl _) (by omega)]
  split at h
  · exact h
  · cases h
theorem decC_mono (hm : More m m') {bor : Bool} {g : Cg} {c l : VV U.D} (h : decC bor m g c = some l) : decC bor m' g c = some l := by
  cases g with
  | tree k =>
    cases c <;> simp only [decC] at h ⊢ <;> try (exact h)
    case ref κ =>
      cases bor with
      | false => cases h
      | true =>
        simp only [cond_true] at h ⊢
        cases hk : mget m κ with
        | none => rw [hk] at h; cases h
        | some b => rw [hk] at h; rw [hm κ b hk]; exact h
  | own k =>
    cases c <;> simp only [decC] at h ⊢ <;> try (exact h)
    case ref κ =>
      cases hk : mget m κ with
      | none => rw [hk] at h; cases h
      | some b => rw [hk] at h; rw [hm κ b hk]; exact h
  | int k => cases c <;> exact h
  | bool => cases c <;> exact h
  | keep k => cases c <;> exact h
theorem decCL_mono (hm : More m m') {bor : Bool} : ∀ (gs : List Cg) (cs ls : List (VV U.D)), decCL bor m gs cs = some ls → decCL bor m' gs cs = some ls
  | [], [], ls, h => h
  | [], _ :: _, ls, h => h
  | _ :: _, [], ls, h => h
  | g :: gs, c :: cs, ls, h => by
    simp only [decCL] at h ⊢
    cases h1 : decC bor m g c with
    | none => rw [h1] at h; cases h
    | some a =>
      cases h2 : decCL bor m gs cs with
      | none => rw [h1, h2] at h; cases h
      | some b => rw [h1, h2] at h; rw [decC_mono hm h1, decCL_mono hm gs cs b h2]; exact h
theorem decP_mono (hm : More m m') {bor : Bool} : ∀ (ps : List (Nat × List Cg)) (cs ls : List (VV U.D)), decP bor m ps cs = some ls → decP bor m' ps cs = some ls ∧ borP m' ps cs = borP m ps cs
  | [], [], ls, h => ⟨h, rfl⟩
  | [], _ :: _, ls, h => by cases h
  | (t, gs) :: ps, [], ls, h => by cases h
  | (t, gs) :: ps, c :: cs, ls, h => by
    cases c with
    | ptr κ j =>
      cases j with
      | succ j => cases h
      | zero =>
        simp only [decP] at h ⊢
        cases hbg : (bor && leafG gs) with
        | false => rw [hbg] at h; cases h
        | true =>
          simp only [hbg, cond_true] at h ⊢
          cases hk : mget m κ with
          | none => rw [hk] at h; cases h
          | some b =>
            rw [hk] at h
            rw [hm κ b hk]
            cases b with
            | box t' cs0 =>
              simp only at h ⊢
              cases ht : Nat.beq t t' with
              | false => rw [ht] at h; cases h
              | true =>
                simp only [ht, cond_true] at h ⊢
                cases h1 : decCL true m gs cs0 with
                | none => rw [h1] at h; cases h
                | some x =>
                  cases h2 : decP bor m ps cs with
                  | none => rw [h1, h2] at h; cases h
                  | some z =>
                    obtain ⟨h3, h4⟩ := decP_mono hm ps cs z h2
                    rw [h1, h2] at h
                    rw [decCL_mono hm gs cs0 x h1, h3]
                    exact ⟨h, by simp only [borP, hk, hm κ _ hk, h4]⟩
            | _ => cases h
    | pbox t' cs0 j =>
      cases j with
      | succ j => cases h
      | zero =>
        simp only [decP] at h ⊢
        cases hbg : (leafG gs && Nat.beq t t') with
        | false => rw [hbg] at h; cases h
        | true =>
          simp only [hbg, cond_true] at h ⊢
          cases h1 : decCL false m gs cs0 with
          | none => rw [h1] at h; cases h
          | some x =>
            cases h2 : decP bor m ps cs with
            | none => rw [h1, h2] at h; cases h
            | some z =>
              obtain ⟨h3, h4⟩ := decP_mono hm ps cs z h2
              rw [h1, h2] at h
              rw [decCL_mono hm gs cs0 x h1, h3]
              exact ⟨h, by simp only [borP, h4]⟩
    | _ => cases h
theorem dec_mono (hm : More m m') {bor : Bool} {s : Sg} {c : VV U.D} {ls : List (VV U.D)} (h : dec bor m s c = some ls) : dec bor m' s c = some ls ∧ kys m' [s] [c] = kys m [s] [c] ∧ bors m' [s] [c] = bors m [s] [c] := by
  cases s with
  | c g =>
    have triv : kys m' [.c g] [c] = kys m [.c g] [c] ∧ bors m' [.c g] [c] = bors m [.c g] [c] := by simp [kys, bors]
    refine ⟨?_, triv⟩
    cases g with
    | keep k => cases c <;> exact h
    | _ =>
      simp only [dec] at h ⊢
      split at h
      · rename_i a ha
        rw [decC_mono hm ha]; exact h
      · cases h
  | arr n k =>
    refine ⟨?_, by simp [kys], by cases c <;> simp [bors]⟩
    simp only [dec] at h ⊢
    split at h
    · rename_i a ha
      rw [decC_mono hm ha]; exact h
    · cases h
  | abox t n k => cases c <;> simp only [dec] at h <;> cases h
  | agg gs =>
    cases c <;> simp only [dec] at h <;> try (cases h)
    case agg cs =>
      refine ⟨?_, by simp [kys], by simp [bors]⟩
      simp only [dec]
      cases hn : noKeep gs with
      | false => rw [hn] at h; cases h
      | true => rw [hn] at h; simp only [cond_true] at h ⊢; exact decCL_mono hm gs cs ls h
  | box t gs =>
    cases c <;> simp only [dec] at h <;> try (cases h)
    case ptr κ j =>
      cases j with
      | succ j => simp only [dec] at h; cases h
      | zero =>
        simp only [dec] at h ⊢
        cases hk : mget m κ with
        | none => rw [hk] at h; cases h
        | some b =>
          rw [hk] at h
          rw [hm κ b hk]
          cases b with
          | box t' cs =>
            simp only at h ⊢
            cases ht : Nat.beq t t' with
            | false => rw [ht] at h; cases h
            | true =>
              simp only [ht, cond_true] at h ⊢
              exact ⟨decCL_mono hm gs cs ls h, by simp [kys, hk, hm κ _ hk], by simp [bors, hk, hm κ _ hk]⟩
          | _ => cases h
  | pbox t gs =>
    have h' : decP bor m [(t, gs)] [c] = some ls := by cases c <;> exact h
    obtain ⟨h1, h2⟩ := decP_mono hm _ _ _ h'
    refine ⟨by cases c <;> exact h1, by cases c <;> rfl, ?_⟩
    have e : ∀ m : Mem U.D, bors m [.pbox t gs] [c] = borP m [(t, gs)] [c] := fun m => by cases c <;> simp [bors]
    rw [e, e, h2]
  | fn f ps =>
    cases c <;> simp only [dec] at h <;> try (cases h)
    case fn f' cs =>
      simp only [dec]
      cases hn : Nat.beq f f' with
      | false => rw [hn] at h; cases h
      | true =>
        rw [hn] at h; simp only [cond_true] at h ⊢
        obtain ⟨h1, h2⟩ := decP_mono hm _ _ _ h
        exact ⟨h1, rfl, by simp only [bors, h2]⟩
theorem decL_mono (hm : More m m') {bor : Bool} : ∀ (ss : List Sg) (cs ls : List (VV U.D)), decL bor m ss cs = some ls → decL bor m' ss cs = some ls ∧ kys m' ss cs = kys m ss cs ∧ bors m' ss cs = bors m ss cs
  | [], [], ls, h => ⟨h, rfl, rfl⟩
  | [], _ :: _, ls, h => by cases h
  | _ :: _, [], ls, h => by cases h
  | s :: ss, c :: cs, ls, h => by
    simp only [decL] at h ⊢
    cases h1 : dec bor m s c with
    | none => rw [h1] at h; cases h
    | some a =>
      cases h2 : decL bor m ss cs with
      | none => rw [h1, h2] at h; cases h
      | some b =>
        rw [h1, h2] at h
        obtain ⟨a1, a2, a3⟩ := dec_mono hm h1
        obtain ⟨b1, b2, b3⟩ := decL_mono hm ss cs b h2
        rw [a1, b1]
        exact ⟨h, by rw [kys_cons, kys_cons (m := m), a2, b2], by rw [bors_cons, bors_cons (m := m), a3, b3]⟩
end
end Go.Proofs.YtikbkgenadkbdaaGreatV
/- Every operation goes on where more is known. -/
namespace Go.Proofs.YtikbkgenadkbdaaGreatV
open Go
set_option linter.unusedVariables false
set_option linter.unusedSimpArgs false
variable {U : Uni} {P : Program} {R : Type}
section
variable {m m' : Mem U.D} {d : Nat} {r : R}
theorem back_mono (hm : More m m') {bor lent : Bool} {m2 : Mem U.D} : ∀ (A : List Sg) (args ls ns : List (VV U.D)), decL bor m A args = some ls → back lent m' m2 (ioS A) (ioV A args) ns = back lent m m2 (ioS A) (ioV A args) ns
  | [], args, ls, ns, h => by cases args <;> rfl
  | s :: ss, [], ls, ns, h => by cases h
  | s :: ss, c :: cs, ls, ns, h => by
    simp only [decL] at h
    cases h1 : dec bor m s c with
    | none => rw [h1] at h; cases h
    | some a =>
      cases h2 : decL bor m ss cs with
      | none => rw [h1, h2] at h; cases h
      | some b =>
        have ih := fun ns => back_mono hm (lent := lent) (m2 := m2) ss cs b ns h2
        cases s with
        | arr n k => exact ih ns
        | agg gs => exact ih ns
        | pbox t gs => exact ih ns
        | fn f ps => exact ih ns
        | abox t n k => cases c <;> simp only [dec] at h1 <;> cases h1
        | c g =>
          cases g with
          | own k =>
            cases c <;> try (simp only [ioS, ioV, back]; done)
            case ref κ =>
              simp only [dec, decC] at h1
              cases hk : mget m κ with
              | none => rw [hk] at h1; cases h1
              | some bb =>
                cases ns with
                | nil => rfl
                | cons n0 ns =>
                  cases n0 <;> try rfl
                  case ref κ' => simp only [ioS, ioV, back, hk, hm κ _ hk, ih]
          | _ => exact ih ns
        | box t gs =>
          cases c <;> try (simp only [ioS, ioV, back]; done)
          case ptr κ j =>
            cases j with
            | succ j => simp only [dec] at h1; cases h1
            | zero =>
              simp only [dec] at h1
              cases hk : mget m κ with
              | none => rw [hk] at h1; cases h1
              | some bb =>
                cases ns with
                | nil => rfl
                | cons n0 ns =>
                  cases n0 <;> try rfl
                  case ptr κ' j' => simp only [ioS, ioV, back, hk, hm κ _ hk, ih]
theorem absent_of (n κ : Nat) (h : ∀ q, κ ≤ q → q < κ + n → mget m' q = none) : absent m' κ n = true := by
  induction n generalizing κ with
  | zero => rfl
  | succ n ih =>
    simp only [absent, Bool.and_eq_true]
    refine ⟨by rw [h κ (Nat.le_refl _) (by omega)], ih (κ + 1) (fun q h1 h2 => h q (by omega) (by omega))⟩
theorem callC_mono (hm : More m m') (hf : Fresh m' d) {args : List (VV U.D)} {K : VV U.D → Upd U.D → Option R} : ∀ (cs : List (Con U)), callC m d args K cs = some r → callC m' d args K cs = some r
  | [], h => by cases h
  | c :: cs, h => by
    have ih := callC_mono hm hf (K := K) (args := args) cs
    simp only [callC] at h ⊢
    cases hsh : shpL c.A args with
    | false => rw [hsh] at h; exact ih h
    | true =>
      simp only [hsh, cond_true] at h ⊢
      cases hd : decL true m c.A args with
      | none => rw [hd] at h; cases h
      | some lv =>
        obtain ⟨e1, e2, e3⟩ := decL_mono hm c.A args lv hd
        rw [hd] at h
        rw [e1]
        simp only at h ⊢
        cases hx : tyd (lvsL c.A) lv with
        | none => rw [hx] at h; exact ih h
        | some x =>
          rw [hx] at h
          simp only at h ⊢
          have ef : fair m' c args = fair m c args := by simp only [fair, e2, e3]
          have ea : absent m' (64 * d) 64 = true := absent_of 64 (64 * d) hf
          rw [ef, ea, e2, e3]
          cases hfr : (fair m c args && absent m (64 * d) 64) with
          | false => rw [hfr] at h; cases h
          | true =>
            simp only [hfr, cond_true] at h
            simp only [Bool.and_eq_true] at hfr
            simp only [hfr.1, Bool.and_self, cond_true]
            cases hy : c.f x with
            | none => rw [hy] at h; cases h
            | some y =>
              rw [hy] at h
              simp only [Option.bind_some] at h ⊢
              generalize he : encL (c.R ++ ioS c.A) (64 * d) _ = q at h ⊢
              obtain ⟨vs, m2, κ', r'⟩ := q
              simp only at h ⊢
              rw [back_mono hm c.A args lv _ hd]
              exact h
theorem mvd_mono (hm : More m m') {c x : VV U.D} (h : mvd m c = some x) : mvd m' c = some x := by
  cases c <;> try (exact h)
  case ref κ =>
    simp only [mvd] at h ⊢
    cases hk : mget m κ with
    | none => rw [hk] at h; cases h
    | some b => rw [hk] at h; rw [hm κ b hk]; exact h
theorem mvdL_mono (hm : More m m') : ∀ (vs ms : List (VV U.D)), mvdL m vs = some ms → mvdL m' vs = some ms
  | [], ms, h => h
  | c :: cs, ms, h => by
    simp only [mvdL] at h ⊢
    cases h1 : mvd m c with
    | none => rw [h1] at h; cases h
    | some a =>
      cases h2 : mvdL m cs with
      | none => rw [h1, h2] at h; cases h
      | some b => rw [h1, h2] at h; rw [mvd_mono hm h1, mvdL_mono hm cs b h2]; exact h
theorem ite_mono {p : Prop} [Decidable p] {x x' : Option R} (h : (if p then x else none) = some r) (hx : x = some r → x' = some r) : (if p then x' else none) = some r := by
  split at h
  · rename_i hp; rw [if_pos hp]; exact hx h
  · cases h
theorem apK_mono {n k l : Nat} {x x' : Option R} (h : apK n k l x = some r) (hx : x = some r → x' = some r) : apK n k l x' = some r := ite_mono h hx
theorem mkS_mono {n n' : Int} {b : Nat} {x x' : Option R} (h : mkS n n' b x = some r) (hx : x = some r → x' = some r) : mkS n n' b x' = some r := by
  unfold mkS at h ⊢
  exact ite_mono h (fun h => ite_mono h (fun h => ite_mono h hx))
theorem Vop_mono (hm : More m m') (hf : Fresh m' d) {E : Nat → List (Con U)} {ρ : Operand → VV U.D} {K : VV U.D → Upd U.D → Option R} {o : Op} (h : Vop U E o d ρ m K = some r) : Vop U E o d ρ m' K = some r := by
  cases o <;> try (exact h)
  case makeFunc f fs cs => cases f <;> exact h
  case alloc e =>
    simp only [Vop] at h ⊢
    cases hT : U.ti e with
    | none => rw [hT] at h; cases h
    | some T =>
      rw [hT] at h
      simp only at h ⊢
      exact nw_mono hf h
  case box e x =>
    simp only [Vop] at h ⊢
    split at h
    · exact nw_mono hf h
    · cases h
  case load t x =>
    simp only [Vop] at h ⊢
    cases hT : U.ti t with
    | none => rw [hT] at h; cases h
    | some T =>
      rw [hT] at h
      simp only at h ⊢
      generalize ρ x = c at h ⊢
      cases c <;> try (exact h)
      case ptr κ j =>
        simp only at h ⊢
        cases hk : mget m κ with
        | none => rw [hk] at h; cases h
        | some b => rw [hk] at h; rw [hm κ b hk]; exact h
      case oel κ i j =>
        simp only at h ⊢
        cases hk : mget m κ with
        | none => rw [hk] at h; cases h
        | some b => rw [hk] at h; rw [hm κ b hk]; exact h
  case store t x y =>
    simp only [Vop] at h ⊢
    cases hT : U.ti t with
    | none => rw [hT] at h; cases h
    | some T =>
      cases hv : flO (ρ y) with
      | none => rw [hT, hv] at h; cases h
      | some vs =>
        rw [hT, hv] at h
        simp only at h ⊢
        cases hl : Nat.beq vs.length T.sz with
        | false => rw [hl] at h; cases h
        | true =>
          simp only [hl, cond_true] at h ⊢
          generalize ρ x = c at h ⊢
          cases c <;> try (exact h)
          case ptr κ j =>
            simp only at h ⊢
            cases hk : mget m κ with
            | none => rw [hk] at h; cases h
            | some b => rw [hk] at h; rw [hm κ b hk]; exact h
          case oel κ i j =>
            simp only at h ⊢
            cases hk : mget m κ with
            | none => rw [hk] at h; cases h
            | some b =>
              rw [hk] at h; rw [hm κ b hk]
              cases b <;> try (exact h)
              case row k xs =>
                simp only at h ⊢
                cases hc : (Nat.ble (j + vs.length) (U.sz k) && ndp (keysOf vs) && !hasK κ (keysOf vs) && Nat.ble 1 vs.length) with
                | false => rw [hc] at h; cases h
                | true =>
                  simp only [hc, cond_true] at h ⊢
                  cases hms : mvdL m vs with
                  | none => rw [hms] at h; cases h
                  | some ms => rw [hms] at h; rw [mvdL_mono hm vs ms hms]; exact h
  case buildSlice t n ps =>
    simp only [Vop] at h ⊢
    cases hT : U.ti t with
    | none => rw [hT] at h; cases h
    | some T =>
      rw [hT] at h
      simp only at h ⊢
      cases hd : T.d <;> rw [hd] at h <;> try (exact h)
      case sl e =>
        simp only at h ⊢
        cases hc : (slK U t e && idxOk (ps.toList.map fun p => p.1) 0 n && Nat.ble (n * U.sz e) 16777216) with
        | false => rw [hc] at h; cases h
        | true =>
          simp only [hc, cond_true] at h ⊢
          cases hfl : flAll (U.sz e) (ps.toList.map fun p => ρ p.2) with
          | none => rw [hfl] at h; cases h
          | some cs =>
            rw [hfl] at h
            simp only at h ⊢
            cases hn : ndp (keysOf cs) with
            | false => rw [hn] at h; cases h
            | true =>
              simp only [hn, cond_true] at h ⊢
              cases hms : mvdL m cs with
              | none => rw [hms] at h; cases h
              | some ms =>
                rw [hms] at h; rw [mvdL_mono hm cs ms hms]
                simp only at h ⊢
                cases hmk : mkAll U e (U.sz e) n ms with
                | none => rw [hmk] at h; cases h
                | some xs => rw [hmk] at h; simp only at h ⊢; exact nw_mono hf h
  case makeSlice t l c =>
    simp only [Vop] at h ⊢
    cases hT : U.ti t with
    | none => rw [hT] at h; cases h
    | some T =>
      rw [hT] at h
      simp only at h ⊢
      cases hd : T.d <;> rw [hd] at h <;> try (exact h)
      case sl e =>
        simp only at h ⊢
        cases hs : slK U t e with
        | false => rw [hs] at h; cases h
        | true =>
          simp only [hs, cond_true] at h ⊢
          cases hTe : U.ti e with
          | none => rw [hTe] at h; cases h
          | some Te =>
            rw [hTe] at h
            simp only at h ⊢
            cases h1 : asN (ρ l) with
            | none => rw [h1] at h; cases h
            | some n =>
              cases h2 : asN (ρ c) with
              | none => rw [h1, h2] at h; cases h
              | some n' =>
                rw [h1, h2] at h
                simp only at h ⊢
                cases h3 : U.mkE e (zcs Te) with
                | none => rw [h3] at h; cases h
                | some z => rw [h3] at h; simp only at h ⊢; exact mkS_mono h (nw_mono hf)
  case slice t x lo hi mx =>
    simp only [Vop] at h ⊢
    generalize ρ x = c at h ⊢
    cases c <;> try (exact h)
    case ref κ =>
      simp only at h ⊢
      cases hk : mget m κ with
      | none => rw [hk] at h; cases h
      | some b =>
        rw [hk] at h; rw [hm κ b hk]
        cases b <;> try (exact h)
        case row k xs =>
          simp only at h ⊢
          cases hs : slK U t k with
          | false => rw [hs] at h; cases h
          | true =>
            simp only [hs, cond_true] at h ⊢
            cases lo <;> cases hi <;> cases mx <;> try (exact h)
            case some.none.none l =>
              simp only at h ⊢
              cases h1 : asN (ρ l) with
              | none => rw [h1] at h; cases h
              | some n => rw [h1] at h; simp only at h ⊢; exact ite_mono h (fun h => ite_mono h (nw_mono hf))
  case indexAddr t x i =>
    simp only [Vop] at h ⊢
    cases h1 : asN (ρ i) with
    | none => rw [h1] at h; cases h
    | some n =>
      rw [h1] at h
      simp only at h ⊢
      generalize ρ x = c at h ⊢
      cases c <;> try (exact h)
      case ref κ =>
        simp only at h ⊢
        cases hk : mget m κ with
        | none => rw [hk] at h; cases h
        | some b => rw [hk] at h; rw [hm κ b hk]; exact h
      case ptr κ j =>
        cases j with
        | succ j => exact h
        | zero =>
          simp only at h ⊢
          cases hk : mget m κ with
          | none => rw [hk] at h; cases h
          | some b => rw [hk] at h; rw [hm κ b hk]; exact h
  case call c =>
    simp only [Vop] at h ⊢
    cases hcal : c.callee with
    | invoke x n => rw [hcal] at h; cases h
    | value f =>
      rw [hcal] at h
      simp only at h ⊢
      generalize ρ f = cf at h ⊢
      cases cf <;> try (exact h)
      case fn g cs => exact callC_mono hm hf _ h
    | builtin b =>
      rw [hcal] at h
      simp only at h ⊢
      generalize c.args.toList.map ρ = l at h ⊢
      cases b <;> try (exact h)
      case len =>
        match l, h with
        | [], h => exact h
        | [c], h =>
          cases c <;> try (exact h)
          case ref κ =>
            simp only at h ⊢
            cases hk : mget m κ with
            | none => rw [hk] at h; cases h
            | some b => rw [hk] at h; rw [hm κ b hk]; exact h
        | c :: c2 :: l, h => cases c <;> exact h
      case append =>
        match l, h with
        | [], h => exact h
        | [c], h => cases c <;> exact h
        | [c, c2], h =>
          cases c <;> try (exact h)
          case nil =>
            cases c2 <;> try (exact h)
            case ref κ' =>
              simp only at h ⊢
              cases hk : mget m κ' with
              | none => rw [hk] at h; cases h
              | some b =>
                rw [hk] at h; rw [hm κ' b hk]
                cases b <;> try (exact h)
                case row k ys =>
                  simp only at h ⊢
                  cases hs : slA U c.argTypes.toList k with
                  | false => rw [hs] at h; cases h
                  | true => simp only [hs, cond_true] at h ⊢; exact apK_mono h (nw_mono hf)
          case ref κ =>
            cases c2 <;> try (exact h)
            case ref κ' =>
              simp only at h ⊢
              cases hk : mget m κ with
              | none => rw [hk] at h; cases h
              | some b =>
                cases hk' : mget m κ' with
                | none => rw [hk, hk'] at h; cases b <;> cases h
                | some b' =>
                  rw [hk, hk'] at h; rw [hm κ b hk, hm κ' b' hk']
                  cases b <;> try (exact h)
                  case row k xs =>
                    cases b' <;> try (exact h)
                    case row k' ys =>
                      simp only at h ⊢
                      split at h
                      · exact apK_mono h (nw_mono hf)
                      · cases h
            case tree k' ys =>
              simp only at h ⊢
              cases hk : mget m κ with
              | none => rw [hk] at h; cases h
              | some b =>
                rw [hk] at h; rw [hm κ b hk]
                cases b <;> try (exact h)
                case row k xs =>
                  simp only at h ⊢
                  split at h
                  · exact apK_mono h (nw_mono hf)
                  · cases h
        | c :: c2 :: c3 :: l, h => cases c <;> first | exact h | (cases c2 <;> exact h)
      case min =>
        match l, h with
        | [], h => exact h
        | [c], h => cases c <;> exact h
        | [c, c2], h => cases c <;> first | exact h | (cases c2 <;> exact h)
        | c :: c2 :: c3 :: l, h => cases c <;> first | exact h | (cases c2 <;> exact h)
      case max =>
        match l, h with
        | [], h => exact h
        | [c], h => cases c <;> exact h
        | [c, c2], h => cases c <;> first | exact h | (cases c2 <;> exact h)
        | c :: c2 :: c3 :: l, h => cases c <;> first | exact h | (cases c2 <;> exact h)
end
end Go.Proofs.YtikbkgenadkbdaaGreatV
/- Regions whose order is drawn: what holds of a set of operations that are done. -/
namespace Go.Proofs.YtikbkgenadkbdaaGreatV
open Go
set_option linter.unusedVariables false
set_option linter.unusedSimpArgs false
variable {U : Uni} {P : Program} {R : Type}
section
variable {C : Fr} {L : Lc} {s s' : St U.D} {a : Act} {w : World} {m : Mem U.D}
theorem Rel.less (hR : Rel U C L s a w) (ht : s'.t.length = s.t.length) (h1 : ∀ (i : Nat) (c : VV U.D), s'.t[i]? = some c → c = .junk ∨ s.t[i]? = some c) (h2 : ∀ κ b, mget s'.m κ = some b → mget s.m κ = some b) : Rel U C L s' a w where
  me κ b hb := hR.me κ b (h2 κ b hb)
  fg := hR.fg
  g0 := hR.g0
  hl := hR.hl
  rvo := hR.rvo
  hs := hR.hs
  os := hR.os
  tp := hR.tp
  ou := hR.ou
  sz := hR.sz.trans ht.symm
  tm i c v hc hv := by
    rcases h1 i c hc with rfl | h
    · exact .junk _
    · exact hR.tm i c v h hv
  df := hR.df
  fx := hR.fx
theorem mget_restr (ks : List Nat) (κ : Nat) : mget (restr ks m) κ = if κ ∈ ks then mget m κ else none := by
  induction m with
  | nil => simp [restr, mget]
  | cons x xs ih =>
    obtain ⟨p, b⟩ := x
    simp only [restr]
    cases hk : hasK p ks with
    | true =>
      have hp := hasK_iff.1 hk
      simp only [cond_true, mget]
      cases hb : Nat.beq p κ with
      | true =>
        have := Nat.eq_of_beq_eq_true hb; subst this
        simp [hp]
      | false => simpa using ih
    | false =>
      simp only [cond_false, mget]
      cases hb : Nat.beq p κ with
      | true =>
        have := Nat.eq_of_beq_eq_true hb; subst this
        have hp : p ∉ ks := fun h => by rw [hasK_iff.2 h] at hk; cases hk
        rw [ih]; simp [hp]
      | false => simpa using ih
theorem restr_more (ks : List Nat) {m' : Mem U.D} (h : ∀ κ ∈ ks, mget m' κ = mget m κ) : More (restr ks m) m' := by
  intro κ b hb
  rw [mget_restr] at hb
  by_cases hk : κ ∈ ks
  · rw [if_pos hk] at hb; rw [h κ hk]; exact hb
  · rw [if_neg hk] at hb; cases hb
theorem mget_upd_other (u : Upd U.D) (m : Mem U.D) (κ : Nat) (h : κ ∉ keysU u) : mget (mupd m u) κ = mget m κ := by
  induction u generalizing m with
  | nil => rfl
  | cons x xs ih =>
    obtain ⟨q, b⟩ := x
    simp only [keysU, List.mem_cons, not_or] at h
    cases b with
    | none => simp only [mupd]; rw [ih _ h.2, mget_mdel, if_neg h.1]
    | some b => simp only [mupd]; rw [ih _ h.2, mget_mput, if_neg h.1]
theorem mget_upd_same (u : Upd U.D) (m m' : Mem U.D) (κ : Nat) (h : κ ∈ keysU u ∨ mget m' κ = mget m κ) : mget (mupd m' u) κ = mget (mupd m u) κ := by
  induction u generalizing m m' with
  | nil =>
    rcases h with h | h
    · simp [keysU] at h
    · exact h
  | cons x xs ih =>
    obtain ⟨q, b⟩ := x
    have step : ∀ (n n' : Mem U.D), (κ = q → mget n' κ = mget n κ) → (κ ≠ q → mget n' κ = mget m' κ ∧ mget n κ = mget m κ) → mget (mupd n' xs) κ = mget (mupd n xs) κ := by
      intro n n' h1 h2
      refine ih n n' ?_
      by_cases e : κ = q
      · exact .inr (h1 e)
      · obtain ⟨e1, e2⟩ := h2 e
        rcases h with h | h
        · simp only [keysU, List.mem_cons] at h
          exact .inl (h.resolve_left e)
        · exact .inr (by rw [e1, e2, h])
    cases b with
    | none => simp only [mupd]; exact step _ _ (fun e => by simp [mget_mdel, e]) (fun e => by simp [mget_mdel, e])
    | some b => simp only [mupd]; exact step _ _ (fun e => by simp [mget_mput, e]) (fun e => by simp [mget_mput, e])
end
end Go.Proofs.YtikbkgenadkbdaaGreatV
/- An operation asks its operands alone. -/
namespace Go.Proofs.YtikbkgenadkbdaaGreatV
open Go
set_option linter.unusedVariables false
set_option linter.unusedSimpArgs false
variable {U : Uni} {P : Program} {R : Type}
theorem Vop_rho {m : Mem U.D} {d : Nat} {E : Nat → List (Con U)} {ρ ρ' : Operand → VV U.D} {K : VV U.D → Upd U.D → Option R} {o : Op} (h : ∀ x ∈ o.operands.toList, ρ x = ρ' x) : Vop U E o d ρ m K = Vop U E o d ρ' m K := by
  cases o
  case build t ps =>
    have e : (ps.toList.map fun p => (p.1, ρ p.2)) = ps.toList.map fun p => (p.1, ρ' p.2) := List.map_congr_left (fun p hp => by rw [h p.2 (by simp [Op.operands]; exact ⟨p.1, by simpa using hp⟩)])
    simp only [Vop, e]
  case buildSlice t n ps =>
    have e : (ps.toList.map fun p => ρ p.2) = ps.toList.map fun p => ρ' p.2 := List.map_congr_left (fun p hp => by rw [h p.2 (by simp [Op.operands]; exact ⟨p.1, by simpa using hp⟩)])
    simp only [Vop, e]
  case makeFunc f fs cs =>
    cases f <;> try rfl
    case func f =>
      have e : cs.toList.map ρ = cs.toList.map ρ' := List.map_congr_left (fun p hp => h p (by simp [Op.operands]; exact .inr (by simpa using hp)))
      simp only [Vop, e]
  case call c =>
    have e : c.args.toList.map ρ = c.args.toList.map ρ' := List.map_congr_left (fun p hp => h p (by simp [Op.operands, Call.operands]; cases c.callee <;> simp <;> first | exact Array.mem_toList_iff.1 hp | exact .inr (Array.mem_toList_iff.1 hp)))
    cases hc : c.callee with
    | value f =>
      have ef : ρ f = ρ' f := h f (by simp [Op.operands, Call.operands, hc])
      simp only [Vop, hc, e, ef]
    | builtin b => simp only [Vop, hc, e]
    | invoke x n => simp only [Vop, hc]
  case slice t x lo hi mx =>
    have ex : ρ x = ρ' x := h x (by simp [Op.operands])
    cases lo with
    | none => simp only [Vop, ex]
    | some l =>
      have el : ρ l = ρ' l := h l (by simp [Op.operands])
      cases hi <;> cases mx <;> simp only [Vop, ex, el]
  all_goals first
    | rfl
    | (simp only [Op.operands, List.mem_cons, List.not_mem_nil, or_false, forall_eq_or_imp, forall_eq] at h
       simp only [Vop, h])
end Go.Proofs.YtikbkgenadkbdaaGreatV
