import Derived.Test.YtpdnnndedejlhaaGreatWV2
/- A reader of function bodies in plain values, part 3. -/
/- Lists of what is handed over, under other keys. -/
namespace Go.Proofs.YtpdnnndedejlhaaGreatV
open Go
set_option linter.unusedVariables false
set_option linter.unusedSimpArgs false
variable {U : Uni} {P : Program} {R : Type}
section
variable {C : Fr} {L L' : Lc} {m : Mem U.D} {w w0' : World} {F' : Nat → Prop} {bor : Bool} {bl : List Nat}
theorem kysC_cons (g : Cg) (gs : List Cg) (c : VV U.D) (cs : List (VV U.D)) : kysC (g :: gs) (c :: cs) = kysC [g] [c] ++ kysC gs cs := by
  cases g <;> first | rfl | (cases c <;> rfl)
theorem borC_cons (g : Cg) (gs : List Cg) (c : VV U.D) (cs : List (VV U.D)) : borC (g :: gs) (c :: cs) = borC [g] [c] ++ borC gs cs := by
  cases g <;> first | rfl | (cases c <;> rfl)
def RVs (U : Uni) (F : Nat → Prop) (w0 : World) (L : Lc) (cs : List (VV U.D)) (vs : List Value) : Prop :=
  cs.length = vs.length ∧ ∀ (i : Nat) (c : VV U.D) (v : Value), cs[i]? = some c → vs[i]? = some v → RV U F w0 L c v
theorem RVs.nil {F : Nat → Prop} {w0 : World} {L : Lc} : RVs U F w0 L [] [] := ⟨rfl, fun i c v h => by simp at h⟩
theorem RVs.cons {F : Nat → Prop} {w0 : World} {L : Lc} {c : VV U.D} {v : Value} {cs : List (VV U.D)} {vs : List Value} (h : RV U F w0 L c v) (hs : RVs U F w0 L cs vs) : RVs U F w0 L (c :: cs) (v :: vs) := by
  refine ⟨by simp [hs.1], fun i c' v' h1 h2 => ?_⟩
  cases i with
  | zero => simp at h1 h2; subst h1; subst h2; exact h
  | succ i => exact hs.2 i c' v' (by simpa using h1) (by simpa using h2)
theorem RVs.uncons {F : Nat → Prop} {w0 : World} {L : Lc} {c : VV U.D} {cs : List (VV U.D)} {vs : List Value} (h : RVs U F w0 L (c :: cs) vs) : ∃ v vs', vs = v :: vs' ∧ RV U F w0 L c v ∧ RVs U F w0 L cs vs' := by
  cases vs with
  | nil => have := h.1; simp at this
  | cons v vs => exact ⟨v, vs, rfl, h.2 0 c v rfl rfl, by have := h.1; simpa using this, fun i c' v' h1 h2 => h.2 (i + 1) c' v' (by simpa using h1) (by simpa using h2)⟩
theorem encCL_cons {g : Cg} {gs : List Cg} {κ κ' κ'' : Nat} {l c : VV U.D} {ls r cs : List (VV U.D)} {m m' : Mem U.D} (h1 : encC κ g l = (c, m, κ')) (h2 : encCL gs κ' ls = (cs, m', κ'', r)) : encCL (g :: gs) κ (l :: ls) = (c :: cs, m ++ m', κ'', r) := by
  simp only [encCL, h1, h2]
def LC (U : Uni) (F' : Nat → Prop) (w0' : World) (kv : Value) (g : Cg) (a b : VV U.D) : Prop := LQ a b ∨ ∃ k0 k xs, g = .keep k0 ∧ a = .tree k xs ∧ RC U F' w0' (.tree k xs) kv
inductive LK (U : Uni) (F' : Nat → Prop) (w0' : World) (kv : Value) : List Cg → List (VV U.D) → List (VV U.D) → Prop where
  | nil : LK U F' w0' kv [] [] []
  | cons {g : Cg} {gs : List Cg} {a b : VV U.D} {as bs : List (VV U.D)} (h : LC U F' w0' kv g a b) (hs : LK U F' w0' kv gs as bs) : LK U F' w0' kv (g :: gs) (a :: as) (b :: bs)
theorem LK.of {kv : Value} : ∀ (gs : List Cg) (cs ls ls' : List (VV U.D)), decCL bor m gs cs = some ls → LQs ls' ls → LK U F' w0' kv gs ls' ls
  | [], [], ls, ls', hd, hl => by
    cases hd
    have e : ls' = [] := List.eq_nil_of_length_eq_zero hl.1
    subst e; exact .nil
  | [], _ :: _, ls, ls', hd, _ => by cases hd
  | _ :: _, [], ls, ls', hd, _ => by cases hd
  | g :: gs, c :: cs, ls, ls', hd, hl => by
    simp only [decCL] at hd
    cases h1 : decC bor m g c with
    | none => rw [h1] at hd; cases hd
    | some a =>
      cases h2 : decCL bor m gs cs with
      | none => rw [h1, h2] at hd; cases hd
      | some b =>
        rw [h1, h2] at hd
        cases hd
        obtain ⟨a', b', rfl, hl1, hl2⟩ := hl.inv
        exact .cons (.inl hl1) (LK.of gs cs b b' h2 hl2)
theorem rkC' (PL : Ulaw U) (hM : MRel U C L m w) (hT : Tgt U C L w F' w0' bl) (hW : Wd C w w0' bor) {g : Cg} {c l l' : VV U.D} {v : Value} {κ0 : Nat} (hd : decC bor m g c = some l) (hl : LC U F' w0' L'.kv g l' l) (hv : RV U C.F C.w0 L c v) (hk : ∀ k, g = .keep k → v = L'.kv)
    (hb : bor = true → ∀ q ∈ borC [g] [c], q ∈ bl) (hr : Ren L L' κ0 (kysC [g] [c])) :
    ∃ c' m', encC κ0 g l' = (c', m', κ0 + (kysC [g] [c]).length) ∧ RV U F' w0' L' c' v ∧ BRs U F' w0' w L' m' κ0 (κ0 + (kysC [g] [c]).length) := by
  rcases hl with hl | ⟨k0, k, xs, rfl, rfl, hrc⟩
  · exact rkC PL hM hT (fun _ _ => hW) hd hl hv hk hb hr
  · have e := hk k0 rfl
    subst e
    exact ⟨.ktree k xs, [], rfl, .ktree hrc, fun q b hb => by cases hb⟩
theorem rkCL (PL : Ulaw U) (hM : MRel U C L m w) (hT : Tgt U C L w F' w0' bl) (hW : Wd C w w0' bor) (r : List (VV U.D)) : ∀ (gs : List Cg) (cs ls ls' : List (VV U.D)) (vs : List Value) (κ0 : Nat), decCL bor m gs cs = some ls → LK U F' w0' L'.kv gs ls' ls → RVs U C.F C.w0 L cs vs →
    (∀ (i k : Nat) (v : Value), gs[i]? = some (.keep k) → vs[i]? = some v → v = L'.kv) → (bor = true → ∀ q ∈ borC gs cs, q ∈ bl) → Ren L L' κ0 (kysC gs cs) →
    ∃ cs' m', encCL gs κ0 (ls' ++ r) = (cs', m', κ0 + (kysC gs cs).length, r) ∧ RVs U F' w0' L' cs' vs ∧ BRs U F' w0' w L' m' κ0 (κ0 + (kysC gs cs).length)
  | [], [], ls, ls', vs, κ0, hd, hl, hv, hk, hb, hr => by
    cases hd
    have e : ls' = [] := by cases hl; rfl
    have e2 : vs = [] := List.eq_nil_of_length_eq_zero hv.1.symm
    subst e; subst e2
    exact ⟨[], [], rfl, RVs.nil, fun q b hb => by cases hb⟩
  | [], _ :: _, ls, ls', vs, κ0, hd, _, _, _, _, _ => by cases hd
  | _ :: _, [], ls, ls', vs, κ0, hd, _, _, _, _, _ => by cases hd
  | g :: gs, c :: cs, ls, ls', vs, κ0, hd, hl, hv, hk, hb, hr => by
    simp only [decCL] at hd
    cases h1 : decC bor m g c with
    | none => rw [h1] at hd; cases hd
    | some a =>
      cases h2 : decCL bor m gs cs with
      | none => rw [h1, h2] at hd; cases hd
      | some b =>
        rw [h1, h2] at hd
        cases hd
        obtain ⟨a', b', rfl, hl1, hl2⟩ : ∃ a' b', ls' = a' :: b' ∧ LC U F' w0' L'.kv g a' a ∧ LK U F' w0' L'.kv gs b' b := by
          cases hl with
          | cons h hs => exact ⟨_, _, rfl, h, hs⟩
        obtain ⟨v, vs', rfl, hv1, hv2⟩ := hv.uncons
        rw [kysC_cons] at hr ⊢
        rw [borC_cons] at hb
        obtain ⟨hr1, hr2⟩ := hr.app
        obtain ⟨c', m1, e1, hv1', hb1⟩ := rkC' PL hM hT hW h1 hl1 hv1 (fun k hg => hk 0 k v (by rw [hg]; rfl) rfl) (fun hbor q hq => hb hbor q (List.mem_append_left _ hq)) hr1
        obtain ⟨cs', m2, e2, hv2', hb2⟩ := rkCL PL hM hT hW r gs cs b b' vs' _ h2 hl2 hv2 (fun i k u hg hu => hk (i + 1) k u (by simpa using hg) (by simpa using hu)) (fun hbor q hq => hb hbor q (List.mem_append_right _ hq)) hr2
        refine ⟨c' :: cs', m1 ++ m2, ?_, RVs.cons hv1' hv2', ?_⟩
        · rw [List.length_append, ← Nat.add_assoc]
          exact encCL_cons e1 e2
        · rw [List.length_append, ← Nat.add_assoc]
          exact hb1.app hb2 (by omega) (by omega)
theorem leafG_kys : ∀ (gs : List Cg) (cs : List (VV U.D)), leafG gs = true → kysC gs cs = [] ∧ ∀ (i k : Nat), gs[i]? ≠ some (.keep k)
  | [], cs, _ => ⟨by cases cs <;> rfl, fun i k h => by simp at h⟩
  | g :: gs, [], h => by
    cases g <;> simp [leafG] at h <;> refine ⟨rfl, fun i k hi => ?_⟩ <;> cases i <;> simp at hi <;> exact (leafG_kys gs [] h).2 _ k hi
  | g :: gs, c :: cs, h => by
    cases g <;> simp [leafG] at h <;> refine ⟨by simpa [kysC] using (leafG_kys gs cs h).1, fun i k hi => ?_⟩ <;> cases i <;> simp at hi <;> exact (leafG_kys gs cs h).2 _ k hi
theorem rcC (PL : Ulaw U) (hM : MRel U C L m w) (hT : Tgt U C L w F' w0' bl) {g : Cg} {c l l' : VV U.D} {v : Value} (hd : decC bor m g c = some l) (hl : LQ l' l) (hv : RV U C.F C.w0 L c v) (hg : leafG [g] = true) (hb : bor = true → ∀ q ∈ borC [g] [c], q ∈ bl) (κ0 : Nat) :
    ∃ c', encC κ0 g l' = (c', [], κ0) ∧ RC U F' w0' c' v := by
  have hk0 := leafG_kys [g] [c] hg
  have hren : Ren L L κ0 (kysC [g] [c]) := by rw [hk0.1]; exact ⟨fun i q h => by simp at h, fun i h => by simp at h⟩
  obtain ⟨c', m', e, hv', hbr⟩ := rkC (L' := L) PL hM hT (fun k e => by subst e; simp [leafG] at hg) hd hl hv (fun k hk => absurd (by rw [hk]; rfl) (hk0.2 0 k)) hb hren
  rw [hk0.1] at e hbr
  have hm' : m' = [] := by
    cases m' with
    | nil => rfl
    | cons x xs =>
      obtain ⟨q, b⟩ := x
      obtain ⟨h1, h2, -⟩ := hbr q b (by simp [mget])
      simp at h2; omega
  subst hm'
  refine ⟨c', e, ?_⟩
  cases g <;> simp [leafG] at hg
  all_goals
    cases hv' with
    | leaf h => exact h
    | junk => cases hl <;> simp [encC] at e
    | _ => cases hl <;> simp [encC] at e
end
end Go.Proofs.YtpdnnndedejlhaaGreatV
/- All that is handed over, under other keys. -/
namespace Go.Proofs.YtpdnnndedejlhaaGreatV
open Go
set_option linter.unusedVariables false
set_option linter.unusedSimpArgs false
variable {U : Uni} {P : Program} {R : Type}
section
variable {C : Fr} {L L' : Lc} {m : Mem U.D} {w w0' : World} {F' : Nat → Prop} {bl : List Nat}
theorem leafG_cons {g : Cg} {gs : List Cg} (h : leafG (g :: gs) = true) : leafG [g] = true ∧ leafG gs = true := by
  cases g <;> simp [leafG] at h ⊢ <;> exact h
theorem rcCL (PL : Ulaw U) (hM : MRel U C L m w) (hT : Tgt U C L w F' w0' bl) {bor : Bool} (r : List (VV U.D)) (κ0 : Nat) : ∀ (gs : List Cg) (cs ls ls' : List (VV U.D)) (vs : List Value), decCL bor m gs cs = some ls → LQs ls' ls → RVs U C.F C.w0 L cs vs →
    leafG gs = true → (bor = true → ∀ q ∈ borC gs cs, q ∈ bl) →
    ∃ cs', encCL gs κ0 (ls' ++ r) = (cs', [], κ0, r) ∧ cs'.length = vs.length ∧ ∀ (i : Nat) (c : VV U.D) (v : Value), cs'[i]? = some c → vs[i]? = some v → RC U F' w0' c v
  | [], [], ls, ls', vs, hd, hl, hv, hg, hb => by
    cases hd
    have e : ls' = [] := List.eq_nil_of_length_eq_zero hl.1
    have e2 : vs = [] := List.eq_nil_of_length_eq_zero hv.1.symm
    subst e; subst e2
    exact ⟨[], rfl, rfl, fun i c v h => by simp at h⟩
  | [], _ :: _, ls, ls', vs, hd, _, _, _, _ => by cases hd
  | _ :: _, [], ls, ls', vs, hd, _, _, _, _ => by cases hd
  | g :: gs, c :: cs, ls, ls', vs, hd, hl, hv, hg, hb => by
    simp only [decCL] at hd
    cases h1 : decC bor m g c with
    | none => rw [h1] at hd; cases hd
    | some a =>
      cases h2 : decCL bor m gs cs with
      | none => rw [h1, h2] at hd; cases hd
      | some b =>
        rw [h1, h2] at hd
        cases hd
        obtain ⟨a', b', rfl, hl1, hl2⟩ := hl.inv
        obtain ⟨v, vs', rfl, hv1, hv2⟩ := hv.uncons
        rw [borC_cons] at hb
        obtain ⟨hg1, hg2⟩ := leafG_cons hg
        obtain ⟨c', e1, hc'⟩ := rcC PL hM hT h1 hl1 hv1 hg1 (fun hbor q hq => hb hbor q (List.mem_append_left _ hq)) κ0
        obtain ⟨cs', e2, h3, h4⟩ := rcCL PL hM hT r κ0 gs cs b b' vs' h2 hl2 hv2 hg2 (fun hbor q hq => hb hbor q (List.mem_append_right _ hq))
        refine ⟨c' :: cs', encCL_cons e1 e2, by simp [h3], fun i x u hx hu => ?_⟩
        cases i with
        | zero => simp at hx hu; subst hx; subst hu; exact hc'
        | succ i => exact h4 i x u (by simpa using hx) (by simpa using hu)
theorem rkP (PL : Ulaw U) (hM : MRel U C L m w) (hT : Tgt U C L w F' w0' bl) {bor : Bool} (κ0 : Nat) (r : List (VV U.D)) : ∀ (ps : List (Nat × List Cg)) (cs ls ls' : List (VV U.D)) (vs : List Value), decP bor m ps cs = some ls → LQs ls' ls → RVs U C.F C.w0 L cs vs →
    (bor = true → ∀ q ∈ borP m ps cs, q ∈ bl) → ∃ cs', encP ps κ0 (ls' ++ r) = (cs', r) ∧ RVs U F' w0' L' cs' vs
  | [], [], ls, ls', vs, hd, hl, hv, hb => by
    cases hd
    have e : ls' = [] := List.eq_nil_of_length_eq_zero hl.1
    have e2 : vs = [] := List.eq_nil_of_length_eq_zero hv.1.symm
    subst e; subst e2
    exact ⟨[], rfl, RVs.nil⟩
  | [], _ :: _, ls, ls', vs, hd, _, _, _ => by cases hd
  | (t, gs) :: ps, [], ls, ls', vs, hd, _, _, _ => by cases hd
  | (t, gs) :: ps, c :: cs, ls, ls', vs, hd, hl, hv, hb => by
    obtain ⟨v, vs', rfl, hv1, hv2⟩ := hv.uncons
    have split : ∀ (a b : List (VV U.D)), ls = a ++ b → ∃ a' b', ls' = a' ++ b' ∧ LQs a' a ∧ LQs b' b := by
      intro a b e
      subst e
      refine ⟨ls'.take a.length, ls'.drop a.length, (List.take_append_drop _ _).symm, ⟨by simp [hl.1], fun i c' c h1 h2 => ?_⟩, ⟨by simp [hl.1], fun i c' c h1 h2 => ?_⟩⟩
      · have hi := idx_lt h2
        rw [List.getElem?_take, if_pos hi] at h1
        exact hl.2 i c' c h1 (by rw [List.getElem?_append_left hi]; exact h2)
      · rw [List.getElem?_drop] at h1
        exact hl.2 (a.length + i) c' c h1 (by rw [List.getElem?_append_right (by omega), Nat.add_sub_cancel_left]; exact h2)
    have fin : ∀ (a b : List (VV U.D)) (cs0 : List (VV U.D)) (A : Array Value) (bb : Bool) (g : Nat), ls = a ++ b → decCL bb m gs cs0 = some a → decP bor m ps cs = some b → leafG gs = true → RVs U C.F C.w0 L cs0 A.toList →
        (bb = true → ∀ q ∈ borC gs cs0, q ∈ bl) → v = .pointer (some ⟨g, 0, none⟩) → F' g → w0'.heap[g]? = some (.cells A t (0, 0)) → (bor = true → ∀ q ∈ borP m ps cs, q ∈ bl) →
        ∃ cs', encP ((t, gs) :: ps) κ0 (ls' ++ r) = (cs', r) ∧ RVs U F' w0' L' cs' (v :: vs') := by
      intro a b cs0 A bb g e h1 h2 hg hvs hbb hvg hF hh hb2
      obtain ⟨a', b', e', hla, hlb⟩ := split a b e
      obtain ⟨ds, h3, h4, h5⟩ := rcCL PL hM hT (b' ++ r) κ0 gs cs0 a a' A.toList h1 hla hvs hg hbb
      obtain ⟨es, h6, h7⟩ := rkP PL hM hT κ0 r ps cs b b' vs' h2 hlb hv2 hb2
      refine ⟨.pbox t ds 0 :: es, ?_, RVs.cons ?_ h7⟩
      · simp only [encP, e', List.append_assoc, h3, h6]
      · rw [hvg]
        exact .pbox hF hh (by simpa using h4) (fun i c u hc hu => h5 i c u hc (by rw [Array.getElem?_toList]; exact hu))
    cases c with
    | ptr κ j =>
      cases j with
      | succ j => cases hd
      | zero =>
        simp only [decP] at hd
        cases hbg : (bor && leafG gs) with
        | false => rw [hbg] at hd; cases hd
        | true =>
          simp only [hbg, cond_true] at hd
          simp only [Bool.and_eq_true] at hbg
          cases hm : mget m κ with
          | none => rw [hm] at hd; cases hd
          | some b =>
            rw [hm] at hd
            cases b with
            | box t' cs0 =>
              simp only at hd
              cases ht : Nat.beq t t' with
              | false => rw [ht] at hd; cases hd
              | true =>
                have := Nat.eq_of_beq_eq_true ht; subst this
                simp only [ht, cond_true] at hd
                cases h1 : decCL true m gs cs0 with
                | none => rw [h1] at hd; cases hd
                | some a =>
                  cases h2 : decP bor m ps cs with
                  | none => rw [h1, h2] at hd; cases hd
                  | some b =>
                    rw [h1, h2] at hd
                    cases hd
                    obtain ⟨hcl, A, hA, hn, hAl⟩ := hM.me κ _ hm
                    have hbp : borP m ((t, gs) :: ps) (.ptr κ 0 :: cs) = (κ :: borC gs cs0) ++ borP m ps cs := by simp only [borP, hm]
                    rw [hbp] at hb
                    have hκ : κ ∈ bl := hb hbg.1 κ (List.mem_append_left _ List.mem_cons_self)
                    obtain ⟨f1, f2⟩ := hT.le κ hκ _ hcl
                    exact fin a b cs0 A true (L.bg κ) rfl h1 h2 hbg.2 ⟨by simpa using hn, fun i c u hc hu => (hAl i c u hc (by rw [← Array.getElem?_toList]; exact hu)).1⟩ (fun _ q hq => hb hbg.1 q (List.mem_append_left _ (List.mem_cons_of_mem _ hq)))
                      hv1.ptr_inv f1 (f2.trans hA) (fun hbor q hq => hb hbor q (List.mem_append_right _ hq))
            | _ => cases hd
    | pbox t' cs0 j =>
      cases j with
      | succ j => cases hd
      | zero =>
        simp only [decP] at hd
        cases hbg : (leafG gs && Nat.beq t t') with
        | false => rw [hbg] at hd; cases hd
        | true =>
          simp only [hbg, cond_true] at hd
          simp only [Bool.and_eq_true] at hbg
          have := Nat.eq_of_beq_eq_true hbg.2; subst this
          cases h1 : decCL false m gs cs0 with
          | none => rw [h1] at hd; cases hd
          | some a =>
            cases h2 : decP bor m ps cs with
            | none => rw [h1, h2] at hd; cases hd
            | some b =>
              rw [h1, h2] at hd
              cases hd
              obtain ⟨g, A, e, hF, hA, hn, hAl⟩ := hv1.pbox_inv
              exact fin a b cs0 A false g rfl h1 h2 hbg.1 ⟨by simpa using hn, fun i c u hc hu => .leaf (hAl i c u hc (by rw [← Array.getElem?_toList]; exact hu))⟩ (fun h => by cases h) e (hT.ff g hF) ((hT.hh g hF).trans hA)
                (fun hbor q hq => hb hbor q (by simpa [borP] using hq))
    | _ => cases hd
end
end Go.Proofs.YtpdnnndedejlhaaGreatV
/- One thing that is handed over, and all of them, under other keys. -/
namespace Go.Proofs.YtpdnnndedejlhaaGreatV
open Go
set_option linter.unusedVariables false
set_option linter.unusedSimpArgs false
variable {U : Uni} {P : Program} {R : Type}
section
variable {C : Fr} {L L' : Lc} {m : Mem U.D} {w w0' : World} {F' : Nat → Prop} {bl : List Nat}
def KeepOk (L L' : Lc) (w : World) (s : Sg) (c : VV U.D) : Prop := match s, c with
  | .box _ gs, .ptr κ _ => ∀ A t lay, w.heap[L.bg κ]? = some (.cells A t lay) → ∀ (i k : Nat) (v : Value), gs[i]? = some (.keep k) → A[i]? = some v → v = L'.kv
  | _, _ => True
theorem kys_cons (s : Sg) (ss : List Sg) (c : VV U.D) (cs : List (VV U.D)) : kys m (s :: ss) (c :: cs) = kys m [s] [c] ++ kys m ss cs := by
  cases s <;> cases c <;> simp [kys]
theorem bors_cons (s : Sg) (ss : List Sg) (c : VV U.D) (cs : List (VV U.D)) : bors m (s :: ss) (c :: cs) = bors m [s] [c] ++ bors m ss cs := by
  cases s <;> cases c <;> simp [bors]
theorem noKeep_ne : ∀ (gs : List Cg), noKeep gs = true → ∀ (i k : Nat), gs[i]? ≠ some (.keep k)
  | [], _, i, k, h => by simp at h
  | g :: gs, h, i, k, hi => by
    cases i with
    | zero => simp at hi; subst hi; simp [noKeep] at h
    | succ i => exact noKeep_ne gs (by cases g <;> simp [noKeep] at h <;> exact h) i k (by simpa using hi)
theorem LQs.nil_ : LQs (U := U) [] [] := ⟨rfl, fun i c' c h => by simp at h⟩
theorem LQs.split {ls' a b : List (VV U.D)} (h : LQs ls' (a ++ b)) : ∃ a' b', ls' = a' ++ b' ∧ LQs a' a ∧ LQs b' b := by
  refine ⟨ls'.take a.length, ls'.drop a.length, (List.take_append_drop _ _).symm, ⟨by simp [h.1], fun i c' c h1 h2 => ?_⟩, ⟨by simp [h.1], fun i c' c h1 h2 => ?_⟩⟩
  · have hi := idx_lt h2
    rw [List.getElem?_take, if_pos hi] at h1
    exact h.2 i c' c h1 (by rw [List.getElem?_append_left hi]; exact h2)
  · rw [List.getElem?_drop] at h1
    exact h.2 (a.length + i) c' c h1 (by rw [List.getElem?_append_right (by omega), Nat.add_sub_cancel_left]; exact h2)
def LS (U : Uni) (F' : Nat → Prop) (w0' : World) (kv : Value) (s : Sg) (ls' ls : List (VV U.D)) : Prop := match s with
  | .box _ gs => LK U F' w0' kv gs ls' ls
  | _ => LQs ls' ls
theorem rkS (PL : Ulaw U) (hM : MRel U C L m w) (hT : Tgt U C L w F' w0' bl) {bor : Bool} (hW : Wd C w w0' bor) (κ0 : Nat) (r : List (VV U.D)) {s : Sg} {c : VV U.D} {ls ls' : List (VV U.D)} {v : Value} (hd : dec bor m s c = some ls) (hl : LS U F' w0' L'.kv s ls' ls) (hv : RV U C.F C.w0 L c v)
    (hk : KeepOk L L' w s c) (hb : bor = true → ∀ q ∈ bors m [s] [c], q ∈ bl) (hr : Ren L L' κ0 (kys m [s] [c])) :
    ∃ c' m', enc s κ0 (ls' ++ r) = (c', m', κ0 + (kys m [s] [c]).length, r) ∧ RV U F' w0' L' c' v ∧ BRs U F' w0' w L' m' κ0 (κ0 + (kys m [s] [c]).length) := by
  have none_ : BRs U F' w0' w L' ([] : Mem U.D) κ0 κ0 := fun q b hb => by cases hb
  have hvs : RVs U C.F C.w0 L [c] [v] := RVs.cons hv RVs.nil
  have cell : ∀ g, (s = .c g ∨ ∃ n k, s = .arr n k ∧ g = .own k) → (∀ k, g ≠ .keep k) → ∀ a, decC bor m g c = some a → ls = [a] → ∃ c' m', enc s κ0 (ls' ++ r) = (c', m', κ0 + (kys m [s] [c]).length, r) ∧ RV U F' w0' L' c' v ∧ BRs U F' w0' w L' m' κ0 (κ0 + (kys m [s] [c]).length) := by
    intro g hs hne a ha hls
    subst hls
    replace hl : LQs ls' [a] := by rcases hs with rfl | ⟨n, k, rfl, rfl⟩ <;> exact hl
    have hkk : kys m [s] [c] = kysC [g] [c] := by rcases hs with rfl | ⟨n, k, rfl, rfl⟩ <;> simp [kys]
    rw [hkk] at hr ⊢
    obtain ⟨a', as, rfl, h1, h2⟩ := hl.inv
    have : as = [] := List.eq_nil_of_length_eq_zero h2.1
    subst this
    obtain ⟨c', m', e, h3, h4⟩ := rkC PL hM hT (fun _ _ => hW) ha h1 hv (fun k hg => absurd hg (hne k)) (fun hbor q hq => hb hbor q (by rcases hs with rfl | ⟨n, k, rfl, rfl⟩ <;> first | simpa [bors] using hq | (cases c <;> simp [borC] at hq))) hr
    exact ⟨c', m', by rcases hs with rfl | ⟨n, k, rfl, rfl⟩ <;> simp only [List.cons_append, List.nil_append, enc, e], h3, h4⟩
  cases s with
  | c g =>
    cases g with
    | keep k => cases c <;> simp only [dec] at hd <;> cases hd
    | _ =>
      simp only [dec] at hd
      split at hd
      · rename_i a ha
        exact cell _ (.inl rfl) (fun k h => by cases h) a ha (by cases hd; rfl)
      · cases hd
  | arr n k =>
    simp only [dec] at hd
    split at hd
    · rename_i a ha
      exact cell _ (.inr ⟨n, k, rfl, rfl⟩) (fun k h => by cases h) a ha (by cases hd; rfl)
    · cases hd
  | abox t n k => cases c <;> simp only [dec] at hd <;> cases hd
  | agg gs =>
    cases c with
    | agg cs =>
      simp only [dec] at hd
      cases hn : noKeep gs with
      | false => rw [hn] at hd; cases hd
      | true =>
        rw [hn] at hd; simp only [cond_true] at hd
        obtain ⟨A, rfl, hs, h1, h2⟩ := hv.agg_inv
        have hkk : kys m [.agg gs] [.agg cs] = kysC gs cs := by simp [kys]
        rw [hkk] at hr ⊢
        obtain ⟨cs', m', e, h3, h4⟩ := rkCL (vs := A.toList) PL hM hT hW r gs cs ls ls' κ0 hd (LK.of gs cs ls ls' hd hl) ⟨by simpa using hs, fun i c v hc hv => h1 i c v hc (by rw [← Array.getElem?_toList]; exact hv)⟩
          (fun i k v hg => absurd hg (noKeep_ne gs hn i k)) (fun hbor q hq => hb hbor q (by simpa [bors] using hq)) hr
        refine ⟨.agg cs', m', by simp only [enc, e], .agg (by simpa using h3.1) (fun i c v hc hv => h3.2 i c v hc (by rw [Array.getElem?_toList]; exact hv)) h2, h4⟩
    | _ => simp only [dec] at hd; cases hd
  | wag gs =>
    cases c with
    | agg cs =>
      simp only [dec] at hd
      cases hn : noKeep gs with
      | false => rw [hn] at hd; cases hd
      | true =>
        rw [hn] at hd; simp only [cond_true] at hd
        obtain ⟨A, rfl, hs, h1, h2⟩ := hv.agg_inv
        have hkk : kys m [.wag gs] [.agg cs] = kysC gs cs := by simp [kys]
        rw [hkk] at hr ⊢
        obtain ⟨cs', m', e, h3, h4⟩ := rkCL (vs := A.toList) PL hM hT hW r gs cs ls ls' κ0 hd (LK.of gs cs ls ls' hd hl) ⟨by simpa using hs, fun i c v hc hv => h1 i c v hc (by rw [← Array.getElem?_toList]; exact hv)⟩
          (fun i k v hg => absurd hg (noKeep_ne gs hn i k)) (fun hbor q hq => hb hbor q (by simpa [bors] using hq)) hr
        refine ⟨.agg cs', m', by simp only [enc, e], .agg (by simpa using h3.1) (fun i c v hc hv => h3.2 i c v hc (by rw [Array.getElem?_toList]; exact hv)) h2, h4⟩
    | _ => simp only [dec] at hd; cases hd
  | box t gs =>
    cases c with
    | ptr κ j =>
      cases j with
      | succ j => simp only [dec] at hd; cases hd
      | zero =>
        simp only [dec] at hd
        cases hm : mget m κ with
        | none => rw [hm] at hd; cases hd
        | some b =>
          rw [hm] at hd
          cases b with
          | box t' cs =>
            simp only at hd
            cases ht : Nat.beq t t' with
            | false => rw [ht] at hd; cases hd
            | true =>
              have := Nat.eq_of_beq_eq_true ht; subst this
              simp only [ht, cond_true] at hd
              obtain ⟨hcl, A, hA, hn, hAl⟩ := hM.me κ _ hm
              have hkk : kys m [.box t gs] [.ptr κ 0] = some κ :: kysC gs cs := by simp [kys, hm]
              rw [hkk] at hr ⊢
              have hr2 : Ren L L' κ0 ([some κ] ++ kysC gs cs) := hr
              obtain ⟨ha, hbR⟩ := hr2.app
              obtain ⟨e1, e2, e3, e4, e5, e6⟩ := ha.so 0 κ rfl
              rw [Nat.add_zero] at e1 e2 e3 e4 e5 e6
              obtain ⟨cs', m', e, h3, h4⟩ := rkCL (vs := A.toList) PL hM hT hW r gs cs ls ls' (κ0 + 1) hd hl ⟨by simpa using hn, fun i c v hc hv => (hAl i c v hc (by rw [← Array.getElem?_toList]; exact hv)).1⟩
                (fun i k v hg hu => hk A t (0, 0) hA i k v hg (by rw [← Array.getElem?_toList]; exact hu)) (fun hbor q hq => hb hbor q (by simpa [bors, hm] using hq)) hbR
              refine ⟨.ptr κ0 0, (κ0, .box t cs') :: m', by simp only [enc, e, List.length_cons]; rw [Nat.add_assoc, Nat.add_comm 1], ?_, ?_⟩
              · rw [hv.ptr_inv, ← e1]; exact .ptr κ0 0
              · intro q b hqb
                simp only [mget] at hqb
                cases he : Nat.beq κ0 q with
                | true =>
                  have := Nat.eq_of_beq_eq_true he; subst this
                  rw [he] at hqb; cases hqb
                  refine ⟨Nat.le_refl _, by simp, by rw [e1]; exact e6 _ hcl, A, by rw [e1]; exact hA, by simpa using h3.1, fun i c u hc hu => ⟨h3.2 i c u hc (by rw [Array.getElem?_toList]; exact hu), ?_⟩⟩
                  have hi : i < cs.length := by rw [hn]; exact (Array.getElem?_eq_some_iff.1 hu).1
                  exact (hAl i _ u (List.getElem?_eq_getElem hi) hu).2
                | false =>
                  rw [he] at hqb
                  obtain ⟨a1, a2, a3⟩ := h4 q b hqb
                  exact ⟨by omega, by simp only [List.length_cons]; omega, a3⟩
          | _ => cases hd
    | _ => simp only [dec] at hd; cases hd
  | pbox t gs =>
    have hd' : decP bor m [(t, gs)] [c] = some ls := by cases c <;> exact hd
    have hkk : kys m [.pbox t gs] [c] = [] := by cases c <;> rfl
    rw [hkk]
    have hbb : bors m [.pbox t gs] [c] = borP m [(t, gs)] [c] := by cases c <;> simp [bors]
    obtain ⟨cs', e, h3⟩ := rkP (L' := L') PL hM hT κ0 r [(t, gs)] [c] ls ls' [v] hd' hl hvs (fun hbor q hq => hb hbor q (by rw [hbb]; exact hq))
    cases cs' with
    | nil => have := h3.1; simp at this
    | cons c' cs' => exact ⟨c', [], by simp only [enc, e, List.length_nil, Nat.add_zero], h3.2 0 c' v rfl rfl, none_⟩
  | fn f ps =>
    cases c with
    | fn f' cs =>
      simp only [dec] at hd
      cases hf : Nat.beq f f' with
      | false => rw [hf] at hd; cases hd
      | true =>
        have := Nat.eq_of_beq_eq_true hf; subst this
        rw [hf] at hd; simp only [cond_true] at hd
        obtain ⟨A, rfl, hs, h1⟩ := hv.fn_inv
        obtain ⟨cs', e, h3⟩ := rkP (L' := L') (vs := A.toList) PL hM hT κ0 r ps cs ls ls' hd hl ⟨by simpa using hs, fun i c v hc hv => h1 i c v hc (by rw [← Array.getElem?_toList]; exact hv)⟩ (fun hbor q hq => hb hbor q (by simpa [bors] using hq))
        have hkk : kys m [.fn f ps] [.fn f cs] = [] := rfl
        rw [hkk]
        exact ⟨.fn f cs', [], by simp only [enc, e, List.length_nil, Nat.add_zero], .fn (by simpa using h3.1) (fun i c v hc hv => h3.2 i c v hc (by rw [Array.getElem?_toList]; exact hv)), none_⟩
    | _ => simp only [dec] at hd; cases hd
inductive KeepOks (U : Uni) (L L' : Lc) (w : World) : List Sg → List (VV U.D) → Prop where
  | nil (cs : List (VV U.D)) : KeepOks U L L' w [] cs
  | no (ss : List Sg) : KeepOks U L L' w ss []
  | cons {s : Sg} {ss : List Sg} {c : VV U.D} {cs : List (VV U.D)} (h : KeepOk L L' w s c) (hs : KeepOks U L L' w ss cs) : KeepOks U L L' w (s :: ss) (c :: cs)
inductive LLs (U : Uni) (bor : Bool) (m : Mem U.D) (F' : Nat → Prop) (w0' : World) (kv : Value) : List Sg → List (VV U.D) → List (VV U.D) → Prop where
  | nil : LLs U bor m F' w0' kv [] [] []
  | cons {s : Sg} {ss : List Sg} {c : VV U.D} {cs a a' b' : List (VV U.D)} (hd : dec bor m s c = some a) (h : LS U F' w0' kv s a' a) (hs : LLs U bor m F' w0' kv ss cs b') : LLs U bor m F' w0' kv (s :: ss) (c :: cs) (a' ++ b')
theorem LS.of {bor : Bool} {kv : Value} {s : Sg} {c : VV U.D} {ls ls' : List (VV U.D)} (hd : dec bor m s c = some ls) (hl : LQs ls' ls) : LS U F' w0' kv s ls' ls := by
  cases s with
  | box t gs =>
    cases c with
    | ptr κ j =>
      cases j with
      | succ j => simp only [dec] at hd; cases hd
      | zero =>
        simp only [dec] at hd
        cases hm : mget m κ with
        | none => rw [hm] at hd; cases hd
        | some b =>
          rw [hm] at hd
          cases b with
          | box t' cs =>
            simp only at hd
            cases ht : Nat.beq t t' with
            | false => rw [ht] at hd; cases hd
            | true =>
              simp only [ht, cond_true] at hd
              exact LK.of gs cs ls ls' hd hl
          | _ => cases hd
    | _ => simp only [dec] at hd; cases hd
  | _ => exact hl
theorem LLs.of {bor : Bool} {kv : Value} : ∀ (ss : List Sg) (cs ls ls' : List (VV U.D)), decL bor m ss cs = some ls → LQs ls' ls → LLs U bor m F' w0' kv ss cs ls'
  | [], [], ls, ls', hd, hl => by
    cases hd
    have e : ls' = [] := List.eq_nil_of_length_eq_zero hl.1
    subst e; exact .nil
  | [], _ :: _, ls, ls', hd, _ => by cases hd
  | _ :: _, [], ls, ls', hd, _ => by cases hd
  | s :: ss, c :: cs, ls, ls', hd, hl => by
    simp only [decL] at hd
    cases h1 : dec bor m s c with
    | none => rw [h1] at hd; cases hd
    | some a =>
      cases h2 : decL bor m ss cs with
      | none => rw [h1, h2] at hd; cases hd
      | some b =>
        rw [h1, h2] at hd
        cases hd
        obtain ⟨a', b', rfl, hl1, hl2⟩ := hl.split
        exact .cons h1 (LS.of h1 hl1) (LLs.of ss cs b b' h2 hl2)
theorem rkL (PL : Ulaw U) (hM : MRel U C L m w) (hT : Tgt U C L w F' w0' bl) {bor : Bool} (hW : Wd C w w0' bor) (r : List (VV U.D)) : ∀ (ss : List Sg) (cs ls' : List (VV U.D)) (vs : List Value) (κ0 : Nat), LLs U bor m F' w0' L'.kv ss cs ls' → RVs U C.F C.w0 L cs vs →
    KeepOks U L L' w ss cs → (bor = true → ∀ q ∈ bors m ss cs, q ∈ bl) → Ren L L' κ0 (kys m ss cs) →
    ∃ cs' m', encL ss κ0 (ls' ++ r) = (cs', m', κ0 + (kys m ss cs).length, r) ∧ RVs U F' w0' L' cs' vs ∧ BRs U F' w0' w L' m' κ0 (κ0 + (kys m ss cs).length)
  | [], [], ls', vs, κ0, hl, hv, hk, hb, hr => by
    have e : ls' = [] := by cases hl; rfl
    have e2 : vs = [] := List.eq_nil_of_length_eq_zero hv.1.symm
    subst e; subst e2
    exact ⟨[], [], rfl, RVs.nil, fun q b hb => by cases hb⟩
  | [], _ :: _, ls', vs, κ0, hl, _, _, _, _ => by cases hl
  | _ :: _, [], ls', vs, κ0, hl, _, _, _, _ => by cases hl
  | s :: ss, c :: cs, ls', vs, κ0, hl, hv, hk, hb, hr => by
    obtain ⟨a, a', b', e, h1, hl1, hl2⟩ : ∃ a a' b', ls' = a' ++ b' ∧ dec bor m s c = some a ∧ LS U F' w0' L'.kv s a' a ∧ LLs U bor m F' w0' L'.kv ss cs b' := by
      cases hl with
      | cons hd h hs => exact ⟨_, _, _, rfl, hd, h, hs⟩
    subst e
    obtain ⟨v, vs', rfl, hv1, hv2⟩ := hv.uncons
    rw [kys_cons] at hr ⊢
    rw [bors_cons] at hb
    cases hk with
    | cons hk1 hk2 =>
      obtain ⟨hr1, hr2⟩ := hr.app
      obtain ⟨c', m1, e1, hv1', hb1⟩ := rkS PL hM hT hW κ0 (b' ++ r) h1 hl1 hv1 hk1 (fun hbor q hq => hb hbor q (List.mem_append_left _ hq)) hr1
      obtain ⟨cs', m2, e2, hv2', hb2⟩ := rkL PL hM hT hW r ss cs b' vs' _ hl2 hv2 hk2 (fun hbor q hq => hb hbor q (List.mem_append_right _ hq)) hr2
      refine ⟨c' :: cs', m1 ++ m2, ?_, RVs.cons hv1' hv2', ?_⟩
      · simp only [encL, List.append_assoc, e1, e2, List.length_append, Nat.add_assoc]
      · rw [List.length_append, ← Nat.add_assoc]
        exact hb1.app hb2 (by omega) (by omega)
end
end Go.Proofs.YtpdnnndedejlhaaGreatV
/- The new keys, made. -/
namespace Go.Proofs.YtpdnnndedejlhaaGreatV
open Go
set_option linter.unusedVariables false
set_option linter.unusedSimpArgs false
variable {U : Uni} {P : Program} {R : Type}
def posK (q : Nat) : List (Option Nat) → Option Nat
  | [] => none
  | some p :: r => bif Nat.beq p q then some 0 else (posK q r).map (· + 1)
  | none :: r => (posK q r).map (· + 1)
theorem posK_some {q i : Nat} : ∀ {ks : List (Option Nat)}, posK q ks = some i → ks[i]? = some (some q)
  | [], h => by cases h
  | none :: r, h => by
    simp only [posK, Option.map_eq_some_iff] at h
    obtain ⟨j, h1, rfl⟩ := h
    simpa using posK_some h1
  | some p :: r, h => by
    simp only [posK] at h
    cases hb : Nat.beq p q with
    | true =>
      have := Nat.eq_of_beq_eq_true hb; subst this
      rw [hb] at h; cases h; rfl
    | false =>
      simp only [hb, cond_false, Option.map_eq_some_iff] at h
      obtain ⟨j, h1, rfl⟩ := h
      simpa using posK_some h1
theorem somes_mem {q i : Nat} : ∀ {ks : List (Option Nat)}, ks[i]? = some (some q) → q ∈ somes ks
  | [], h => by simp at h
  | none :: r, h => by
    cases i with
    | zero => simp at h
    | succ i => exact somes_mem (ks := r) (by simpa using h)
  | some p :: r, h => by
    cases i with
    | zero => simp at h; subst h; exact List.mem_cons_self
    | succ i => exact List.mem_cons_of_mem _ (somes_mem (ks := r) (by simpa using h))
theorem posK_ndp {q i : Nat} : ∀ {ks : List (Option Nat)}, ndp (somes ks) = true → ks[i]? = some (some q) → posK q ks = some i
  | [], _, h => by simp at h
  | none :: r, hn, h => by
    cases i with
    | zero => simp at h
    | succ i => simp only [posK, posK_ndp (ks := r) hn (by simpa using h), Option.map_some]
  | some p :: r, hn, h => by
    simp only [somes, ndp, Bool.and_eq_true, Bool.not_eq_true'] at hn
    cases i with
    | zero => simp at h; subst h; simp [posK]
    | succ i =>
      have hi : r[i]? = some (some q) := by simpa using h
      have hne : Nat.beq p q = false := by
        cases hb : Nat.beq p q with
        | false => rfl
        | true =>
          have := Nat.eq_of_beq_eq_true hb; subst this
          have := hasK_iff.2 (somes_mem hi)
          rw [hn.1] at this; cases this
      simp only [posK, hne, cond_false, posK_ndp (ks := r) hn.2 hi, Option.map_some]
def ren (L : Lc) (κ0 : Nat) (ks : List (Option Nat)) (kv : Value) : Lc where
  bg q := match (if κ0 ≤ q then ks[q - κ0]? else none) with
    | some (some p) => L.bg p
    | _ => 0
  bo q := match (if κ0 ≤ q then ks[q - κ0]? else none) with
    | some (some p) => L.bo p
    | _ => 0
  bs q := match (if κ0 ≤ q then ks[q - κ0]? else none) with
    | some (some p) => L.bs p
    | _ => 0
  bn q := match (if κ0 ≤ q then ks[q - κ0]? else none) with
    | some (some p) => L.bn p
    | _ => 0
  rv q := match (if κ0 ≤ q then ks[q - κ0]? else none) with
    | some (some p) => L.rv p
    | _ => .slice none 0 0
  cl b := match L.cl b with
    | 0 => 0
    | p + 1 => match posK p ks with
      | some i => κ0 + i + 1
      | none => 0
  kv := kv
theorem ren_ok {L : Lc} {κ0 : Nat} {ks : List (Option Nat)} {kv : Value} (hn : ndp (somes ks) = true) : Ren L (ren L κ0 ks kv) κ0 ks := by
  have e : ∀ i : Nat, (if κ0 ≤ κ0 + i then ks[κ0 + i - κ0]? else none) = ks[i]? := fun i => by rw [if_pos (by omega), Nat.add_sub_cancel_left]
  refine ⟨fun i q hi => ?_, fun i hi => ?_⟩
  · refine ⟨?_, ?_, ?_, ?_, ?_, fun b hb => ?_⟩ <;> simp only [ren]
    · rw [e, hi]
    · rw [e, hi]
    · rw [e, hi]
    · rw [e, hi]
    · rw [e, hi]
    · rw [hb]; simp only [posK_ndp hn hi]
  · refine ⟨?_, ?_⟩ <;> simp only [ren] <;> rw [e, hi]
theorem ren_cl {L : Lc} {κ0 : Nat} {ks : List (Option Nat)} {kv : Value} {b q : Nat} (h : (ren L κ0 ks kv).cl b = q + 1) : ∃ i p, ks[i]? = some (some p) ∧ L.cl b = p + 1 ∧ q = κ0 + i := by
  simp only [ren] at h
  cases hc : L.cl b with
  | zero => rw [hc] at h; cases h
  | succ p =>
    rw [hc] at h; simp only at h
    cases hp : posK p ks with
    | none => rw [hp] at h; cases h
    | some i => rw [hp] at h; simp only at h; exact ⟨i, p, posK_some hp, rfl, by omega⟩
theorem ren_rvo {L : Lc} {κ0 : Nat} {ks : List (Option Nat)} {kv : Value} (h : ∀ κ, (L.rv κ).oneCell' = true) (q : Nat) : ((ren L κ0 ks kv).rv q).oneCell' = true := by
  simp only [ren]
  split
  · exact h _
  · rfl
theorem ren_mrel {C : Fr} {L : Lc} {m m' : Mem U.D} {w : World} {F' : Nat → Prop} {κ0 κ1 : Nat} {ks : List (Option Nat)} {kv : Value} {w0' : World} {G' : Nat → Prop} (hM : MRel U C L m w) (hb : BRs U F' w0' w (ren L κ0 ks kv) m' κ0 κ1)
    (hfg : ∀ b, F' b → G' b) (hg : ∀ b, G' b → b < w0'.heap.size ∧ (ren L κ0 ks kv).cl b = 0 ∧ w.heap[b]? = w0'.heap[b]?) (hs : w0'.heap.size ≤ w.heap.size) (ho : w0'.os = C.w0.os) (ht : w0'.tape = C.w0.tape) (hu : w0'.output = C.w0.output) (X : Nat → Option Value) :
    MRel U ⟨F', G', w0', X⟩ (ren L κ0 ks kv) m' w where
  me := fun κ b h => (hb κ b h).2.2
  fg := hfg
  g0 := hg
  hl := fun b h => by
    refine hM.hl b (fun h0 => h ?_)
    simp only [ren, h0]
  rvo := ren_rvo hM.rvo
  hs := hs
  os := hM.os.trans ho.symm
  tp := hM.tp.trans ht.symm
  ou := hM.ou.trans hu.symm
end Go.Proofs.YtpdnnndedejlhaaGreatV
/- What a contract says of a call; what comes back. -/
namespace Go.Proofs.YtpdnnndedejlhaaGreatV
open Go
set_option linter.unusedVariables false
set_option linter.unusedSimpArgs false
variable {U : Uni} {P : Program} {R : Type}
def agU : Value → List Value
  | .agg A => A.toList
  | _ => []
def ioU : List Sg → List Value → List Value
  | .c (.own _) :: ss, v :: vs => v :: ioU ss vs
  | .c (.nest _) :: ss, v :: vs => v :: ioU ss vs
  | .wag gs :: ss, v :: vs => nestV undef gs (agU v) ++ ioU ss vs
  | .box _ _ :: ss, v :: vs => v :: ioU ss vs
  | .abox _ _ _ :: ss, v :: vs => v :: ioU ss vs
  | _ :: ss, _ :: vs => ioU ss vs
  | _, _ => []
def packU : List Value → Value
  | [v] => v
  | vs => .tuple vs.toArray
def Ret (U : Uni) (c : Con U) (C' : Fr) (kv : Value) (κ0 : Nat) (x : TL U.D (lvsL c.A)) (y : TL U.D (lvsL c.R ++ outsL c.A)) (vs : List Value) : Ending → World → Prop
  | .returned v, w' => ∃ L2 cs2 m2 κ2 rs, encL (c.R ++ ioS c.A) κ0 ((unty (lvsL c.R ++ outsL c.A) y).take (lvsL c.R).length ++ mergeL c.A (unty (lvsL c.A) x) ((unty (lvsL c.R ++ outsL c.A) y).drop (lvsL c.R).length)) = (cs2, m2, κ2, []) ∧
      v = packU rs ∧ rs.length = c.R.length ∧ RVs U C'.F C'.w0 L2 cs2 (rs ++ ioU c.A vs) ∧ MRel U C' L2 m2 w' ∧ L2.kv = kv ∧ (∀ q b, mget m2 q = some b → κ0 ≤ q ∧ q < κ2)
  | _, _ => False
def KFc (U : Uni) (F : Nat → Prop) (w : World) (kv : Value) : List Cg → List (VV U.D) → Prop
  | [], _ => True
  | _ :: _, [] => False
  | g :: gs, o :: os => (∀ k0, g = .keep k0 → ∃ k xs, o = .tree k xs ∧ RC U F w (.tree k xs) kv) ∧ KFc U F w kv gs os
def KF (U : Uni) (F : Nat → Prop) (w : World) (kv : Value) : List Sg → List (VV U.D) → Prop
  | [], _ => True
  | .box _ gs :: ss, os => KFc U F w kv gs (os.take gs.length) ∧ KF U F w kv ss (os.drop gs.length)
  | .c g :: ss, os => 1 ≤ os.length ∧ KF U F w kv ss (os.drop 1)
  | s :: ss, os => KF U F w kv ss (os.drop s.lvs.length)
def SoundC (P : Program) (U : Uni) (f : FuncId) (c : Con U) : Prop :=
  ∀ (κ0 : Nat) (x : TL U.D (lvsL c.A)) (y : TL U.D (lvsL c.R ++ outsL c.A)), c.f x = some y → ∀ (F G : Nat → Prop) (L : Lc) (w : World) (vs : List Value) (cs : List (VV U.D)) (m : Mem U.D) (κ : Nat),
    encL c.A 100000 (unty (lvsL c.A) x) = (cs, m, κ, []) → RVs U F w L cs vs → MRel U ⟨F, G, w, fun _ => none⟩ L m w → KF U F w L.kv c.A (unty (lvsL c.A) x) → Calls P f vs.toArray w (Ret U c ⟨F, G, w, fun _ => none⟩ L.kv κ0 x y vs)
def Enters (P : Program) (f : FuncId) : Prop := ∀ (args : Array Value) (w : World), (callFunc f args).run P w = .ok (.enter f args) w
def Goes (P : Program) (U : Uni) (C : Fr) (L : Lc) (s : St U.D) (o : Oper) (a : Act) (w : World) (c : VV U.D) (u : Upd U.D) : Prop :=
  ∀ (next : Act → World → Prop) (Q : Exit → Act → World → Prop), (∀ L' w' v, MRel U C L' (mupd s.m u) w' → RV U C.F C.w0 L' c v → L'.kv = L.kv → (∀ κ, (κ ∈ menL s.t ∨ κ ∈ menM s.m) → EqAt L L' κ) → next (a.put o.dst v) w') → o.wp P a w next Q
section
variable {C : Fr} {L : Lc} {s : St U.D} {a : Act} {w : World} {o : Oper}
theorem Gives.goes {c : VV U.D} (hM : MRel U C L s.m w) (h : Gives P U C L o a w c) : Goes P U C L s o a w c [] := by
  obtain ⟨v, hr, hv⟩ := h
  intro next Q hn
  unfold Oper.wp
  rw [hr]
  exact hn L w v hM hv rfl (fun κ _ => ⟨rfl, rfl, rfl, rfl, rfl, rfl⟩)
theorem Does.goes {c : VV U.D} {u : Upd U.D} (h : Does P U C L s o a w c u) : Goes P U C L s o a w c u := by
  obtain ⟨L', w', v, hr, hM, hv, hk, he⟩ := h
  intro next Q hn
  unfold Oper.wp
  rcases hr with hr | ⟨hr, rfl⟩
  · rw [hr]; exact hn L' w' v hM hv hk he
  · rw [hr]; exact hn L' w' _ hM hv hk he
end
def Same (n : Mem U.D) (L2 L' : Lc) : Prop := ∀ q, inM n q = true → EqAt L2 { L' with kv := L2.kv } q
theorem RV.cln {F F' : Nat → Prop} {w w0 : World} {L2 L' : Lc} {n : Mem U.D} {lent : Bool} {c : VV U.D} {v : Value} (h : RV U F w L2 c v) (hF : lent = false → ∀ {c : VV U.D} {v : Value}, RC U F w c v → RC U F' w0 c v) (hL : Same n L2 L') : RV U F' w0 L' (cln n lent c) v := by
  cases c <;> simp only [YtpdnnndedejlhaaGreatV.cln] <;> try (exact .junk _)
  case int => rw [h.int_inv]; exact .leaf (.int _ _)
  case lit => rw [h.bool_inv rfl]; exact .leaf (.bool rfl)
  case bv => rw [h.bool_inv rfl]; exact .leaf (.bool rfl)
  case nb => rw [h.bool_inv rfl]; exact .leaf (.bool rfl)
  case bp => rw [h.bool_inv rfl]; exact .leaf (.bool rfl)
  case np => rw [h.bool_inv rfl]; exact .leaf (.bool rfl)
  case nil => rw [h.nil_inv]; exact .leaf .nil
  case tree =>
    cases lent with
    | true => exact .junk _
    | false => exact .leaf (hF rfl h.tree_inv)
  case ref q =>
    cases hq : inM n q with
    | false => exact .junk _
    | true =>
      rw [h.ref_inv, ← (hL q hq).2.2.2.2.1]; exact .ref q
theorem RV.clnV {F F' : Nat → Prop} {w w0 : World} {L2 L' : Lc} {n : Mem U.D} {lent : Bool} {c : VV U.D} {v : Value} (h : RV U F w L2 c v) (hF : lent = false → ∀ {c : VV U.D} {v : Value}, RC U F w c v → RC U F' w0 c v) (hL : Same n L2 L') : RV U F' w0 L' (clnV n lent c) v := by
  cases c
  case agg cs =>
    obtain ⟨A, rfl, h1, h2, h3⟩ := h.agg_inv
    refine .agg (by simpa using h1) (fun i c v hc hv => ?_) h3
    rw [List.getElem?_map, Option.map_eq_some_iff] at hc
    obtain ⟨c', hc', rfl⟩ := hc
    exact (h2 i c' v hc' hv).cln hF hL
  case ptr q j =>
    simp only [YtpdnnndedejlhaaGreatV.clnV]
    cases hq : inM n q with
    | false => exact .junk _
    | true => rw [h.ptr_inv, ← (hL q hq).1]; exact .ptr q j
  all_goals exact h.cln hF hL
def encB : Blk U.D → Prop
  | .hole _ _ _ _ => False
  | .brow _ _ => False
  | _ => True
theorem encC_blk (κ : Nat) (g : Cg) (v : VV U.D) : ∀ q b, mget (encC κ g v).2.1 q = some b → encB b := by
  intro q b h
  have one : ∀ b0 : Blk U.D, mget [(κ, b0)] q = some b → b = b0 := by
    intro b0 h
    simp only [mget] at h
    cases hb : Nat.beq κ q with
    | true => rw [hb] at h; cases h; rfl
    | false => rw [hb] at h; cases h
  cases g <;> cases v <;> simp only [encC] at h <;> first | (cases h; done) | (rw [one _ h]; exact trivial)
theorem encCL_blk : ∀ (gs : List Cg) (κ : Nat) (r : List (VV U.D)) (q : Nat) (b : Blk U.D), mget (encCL gs κ r).2.1 q = some b → encB b
  | [], κ, r, q, b, h => by simp only [encCL] at h; cases h
  | g :: gs, κ, [], q, b, h => by simp only [encCL] at h; cases h
  | g :: gs, κ, v :: r, q, b, h => by
    simp only [encCL] at h
    rw [mget_app] at h
    cases hm : mget (encC κ g v).2.1 q with
    | some b' => rw [hm] at h; cases h; exact encC_blk κ g v q _ hm
    | none => rw [hm] at h; exact encCL_blk gs _ r q b h
theorem enc_blk (s : Sg) (κ : Nat) (r : List (VV U.D)) (q : Nat) (b : Blk U.D) (h : mget (enc s κ r).2.1 q = some b) : encB b := by
  cases s with
  | c g => cases r with
    | nil => simp only [enc] at h; cases h
    | cons v r => simp only [enc] at h; exact encC_blk _ _ _ _ _ h
  | arr n k => cases r with
    | nil => simp only [enc] at h; cases h
    | cons v r => simp only [enc] at h; exact encC_blk _ _ _ _ _ h
  | agg gs => simp only [enc] at h; exact encCL_blk _ _ _ _ _ h
  | wag gs => simp only [enc] at h; exact encCL_blk _ _ _ _ _ h
  | box t gs =>
    simp only [enc, mget] at h
    cases hb : Nat.beq κ q with
    | true => rw [hb] at h; cases h; exact trivial
    | false => rw [hb] at h; exact encCL_blk _ _ _ _ _ h
  | abox t n k =>
    cases r with
    | nil => simp only [enc] at h; cases h
    | cons v r =>
      cases v <;> simp only [enc] at h <;> try (cases h; done)
      simp only [mget] at h
      cases hb : Nat.beq κ q with
      | true => rw [hb] at h; cases h; exact trivial
      | false => rw [hb] at h; cases h
  | pbox t gs =>
    simp only [enc] at h
    split at h <;> cases h
  | fn f ps => simp only [enc] at h; cases h
theorem encL_blk : ∀ (ss : List Sg) (κ : Nat) (r : List (VV U.D)) (q : Nat) (b : Blk U.D), mget (encL ss κ r).2.1 q = some b → encB b
  | [], κ, r, q, b, h => by simp only [encL] at h; cases h
  | s :: ss, κ, r, q, b, h => by
    simp only [encL] at h
    rw [mget_app] at h
    cases hm : mget (enc s κ r).2.1 q with
    | some b' => rw [hm] at h; cases h; exact enc_blk s κ r q _ hm
    | none => rw [hm] at h; exact encL_blk ss _ _ q b h
theorem BR.clnB {F F' : Nat → Prop} {w w0 w' : World} {L2 L' : Lc} {n : Mem U.D} {lent : Bool} {q : Nat} {b : Blk U.D} (h : BR U F w w' L2 q b) (hF : lent = false → ∀ {c : VV U.D} {v : Value}, RC U F w c v → RC U F' w0 c v) (hL : Same n L2 L') (hq : inM n q = true) (hE : encB b)
    (hc : ∀ x, L2.cl x = q + 1 → L'.cl x = q + 1) : BR U F' w0 w' L' q (clnB n lent b) := by
  obtain ⟨e1, e2, e3, e4, e5, -⟩ := hL q hq
  simp only at e1 e2 e3 e4 e5
  cases b with
  | box t cs =>
    obtain ⟨h1, A, h2, h3, h4⟩ := h
    refine ⟨by rw [e1]; exact hc _ h1, A, by rw [e1]; exact h2, by simpa using h3, fun i c v hc' hv => ?_⟩
    rw [List.getElem?_map, Option.map_eq_some_iff] at hc'
    obtain ⟨c', hc', rfl⟩ := hc'
    exact ⟨(h4 i c' v hc' hv).1.cln hF hL, (h4 i c' v hc' hv).2⟩
  | row k xs =>
    obtain ⟨h1, h2, h3⟩ := h
    exact ⟨by rw [e5]; exact h1.mono (fun b hb => hc b hb), by rw [e4]; exact h2, by rw [e5, e1, e2, e3]; exact h3⟩
  | krow k xs =>
    obtain ⟨⟨h1, h2, h3⟩, -⟩ := h
    exact ⟨by rw [e5]; exact h1.mono (fun b hb => hc b hb), by rw [e4]; exact h2, by rw [e5, e1, e2, e3]; exact h3⟩
  | hole => exact hE.elim
  | brow => exact hE.elim
  | arr t n k xs =>
    obtain ⟨h1, h2, h3, h4, h5, h6, vs, h7, h8⟩ := h
    exact ⟨by rw [e1]; exact hc _ h1, by rw [e2]; exact h2, by rw [e3]; exact h3, by rw [e4]; exact h4, h5, h6, vs, by rw [e1]; exact h7, h8⟩
theorem restC_rv {F F' : Nat → Prop} {w w0 : World} {L2 L' : Lc} {n : Mem U.D} {lent : Bool} (hF : lent = false → ∀ {c : VV U.D} {v : Value}, RC U F w c v → RC U F' w0 c v) (hL : Same n L2 L') :
    ∀ (gs : List Cg) (os ns : List (VV U.D)) (A' : List Value), RVs U F w L2 ns A' → (∀ (i k : Nat) (o : VV U.D), gs[i]? = some (.keep k) → os[i]? = some o → RV U F' w0 L' o L2.kv) →
      RVs U F' w0 L' (restC n lent gs os ns) A'
  | [], os, ns, A', h, _ => by
    have e : restC n lent [] os ns = ns.map (YtpdnnndedejlhaaGreatV.cln n lent) := by cases os <;> rfl
    rw [e]
    refine ⟨by simpa using h.1, fun i c v hc hv => ?_⟩
    rw [List.getElem?_map, Option.map_eq_some_iff] at hc
    obtain ⟨c', hc', rfl⟩ := hc
    exact (h.2 i c' v hc' hv).cln hF hL
  | g :: gs, [], ns, A', h, _ => by
    have e : restC n lent (g :: gs) [] ns = ns.map (YtpdnnndedejlhaaGreatV.cln n lent) := by cases g <;> rfl
    rw [e]
    refine ⟨by simpa using h.1, fun i c v hc hv => ?_⟩
    rw [List.getElem?_map, Option.map_eq_some_iff] at hc
    obtain ⟨c', hc', rfl⟩ := hc
    exact (h.2 i c' v hc' hv).cln hF hL
  | g :: gs, o :: os, [], A', h, _ => by
    have e : restC n lent (g :: gs) (o :: os) [] = [] := by cases g <;> rfl
    rw [e]; exact ⟨h.1, fun i c v hc => by simp at hc⟩
  | g :: gs, o :: os, x :: ns, A', h, hk => by
    obtain ⟨v, vs, rfl, h1, h2⟩ := h.uncons
    have ih := restC_rv hF hL gs os ns vs h2 (fun i k o' hg ho => hk (i + 1) k o' (by simpa using hg) (by simpa using ho))
    have plain : restC n lent (g :: gs) (o :: os) (x :: ns) = YtpdnnndedejlhaaGreatV.cln n lent x :: restC n lent gs os ns → RVs U F' w0 L' (restC n lent (g :: gs) (o :: os) (x :: ns)) (v :: vs) := by
      intro e; rw [e]; exact RVs.cons (h1.cln hF hL) ih
    cases g with
    | keep k =>
      cases x with
      | ktree k' xs =>
        have hv : v = L2.kv := by
          cases h1 with
          | leaf h => cases h with
            | bool hb => simp [boolOf] at hb
          | ktree => rfl
        subst hv
        exact RVs.cons (hk 0 k o rfl rfl) ih
      | _ => exact plain rfl
    | _ => exact plain rfl
end Go.Proofs.YtpdnnndedejlhaaGreatV
/- Memory behind a call. -/
namespace Go.Proofs.YtpdnnndedejlhaaGreatV
open Go
set_option linter.unusedVariables false
set_option linter.unusedSimpArgs false
variable {U : Uni} {P : Program} {R : Type}
section
variable {C : Fr} {L : Lc} {m : Mem U.D} {w : World}
theorem nKpC_zero : ∀ (gs : List Cg), nKpC gs = 0 → ∀ (i k : Nat), gs[i]? ≠ some (.keep k)
  | [], _, i, k, h => by simp at h
  | g :: gs, h, i, k, hi => by
    cases g with
    | keep k' => simp [nKpC] at h
    | _ =>
      cases i with
      | zero => simp at hi
      | succ i => exact nKpC_zero gs (by simpa [nKpC] using h) i k (by simpa using hi)
theorem nKpC_one : ∀ (gs : List Cg), nKpC gs ≤ 1 → ∀ (i j k l : Nat), gs[i]? = some (.keep k) → gs[j]? = some (.keep l) → i = j
  | [], _, i, j, k, l, h, _ => by simp at h
  | g :: gs, h, i, j, k, l, hi, hj => by
    have z : ∀ k', g = .keep k' → nKpC gs = 0 := fun k' e => by subst e; simp only [nKpC] at h; omega
    have le : nKpC gs ≤ 1 := by cases g <;> simp only [nKpC] at h <;> omega
    cases i with
    | zero =>
      cases j with
      | zero => rfl
      | succ j => simp at hi; exact absurd (by simpa using hj) (nKpC_zero gs (z k hi) j l)
    | succ i =>
      cases j with
      | zero => simp at hj; exact absurd (by simpa using hi) (nKpC_zero gs (z l hj) i k)
      | succ j => rw [nKpC_one gs le i j k l (by simpa using hi) (by simpa using hj)]
theorem keep_zero (L L' : Lc) (w : World) : ∀ (ss : List Sg) (cs : List (VV U.D)), nKp ss = 0 → KeepOks U L L' w ss cs
  | [], cs, _ => .nil _
  | _ :: _, [], _ => .no _
  | s :: ss, c :: cs, h => by
    have hs : nKp ss = 0 := by cases s <;> simp only [nKp] at h <;> omega
    refine .cons ?_ (keep_zero L L' w ss cs hs)
    cases s <;> try (exact trivial)
    case box t gs =>
      cases c <;> try (exact trivial)
      intro A t' lay _ i k v hg _
      exact absurd hg (nKpC_zero gs (by simp only [nKp] at h; omega) i k)
open Classical in
theorem keep_ex (L : Lc) (w : World) : ∀ (ss : List Sg) (cs : List (VV U.D)), nKp ss ≤ 1 → ∃ kv, ∀ L' : Lc, L'.kv = kv → KeepOks U L L' w ss cs
  | [], cs, _ => ⟨undef, fun _ _ => .nil _⟩
  | _ :: _, [], _ => ⟨undef, fun _ _ => .no _⟩
  | s :: ss, c :: cs, h => by
    have hs : nKp ss ≤ 1 := by cases s <;> simp only [nKp] at h <;> omega
    have triv_ : (∀ L' : Lc, KeepOk L L' w s c) → ∃ kv, ∀ L' : Lc, L'.kv = kv → KeepOks U L L' w (s :: ss) (c :: cs) := by
      intro ht
      obtain ⟨kv, hkv⟩ := keep_ex L w ss cs hs
      exact ⟨kv, fun L' hL => .cons (ht L') (hkv L' hL)⟩
    cases s <;> try (exact triv_ (fun _ => trivial))
    case box t gs =>
      cases c <;> try (exact triv_ (fun _ => trivial))
      case ptr κ j =>
        by_cases hz : nKpC gs = 0
        · refine triv_ (fun L' A t' lay _ i k v hg _ => absurd hg (nKpC_zero gs hz i k))
        · have h0 : nKp ss = 0 := by simp only [nKp] at h; omega
          have h1 : nKpC gs ≤ 1 := by simp only [nKp] at h; omega
          by_cases hh : ∃ (A : Array Value) (t' : Nat) (lay : Nat × Nat), w.heap[L.bg κ]? = some (Obj.cells A t' lay) ∧ ∃ (i k : Nat) (v : Value), gs[i]? = some (Cg.keep k) ∧ A[i]? = some v
          · obtain ⟨A, t', lay, hA, i, k, v, hi, hv⟩ := hh
            refine ⟨v, fun L' hL => .cons (fun A' t'' lay' hA' i' k' v' hg' hv' => ?_) (keep_zero L L' w ss cs h0)⟩
            rw [hA] at hA'
            cases hA'
            have := nKpC_one gs h1 i i' k k' hi hg'
            subst this
            rw [hv] at hv'; cases hv'; exact hL.symm
          · refine ⟨undef, fun L' hL => .cons (fun A' t'' lay' hA' i' k' v' hg' hv' => absurd ⟨A', t'', lay', hA', i', k', v', hg', hv'⟩ hh) (keep_zero L L' w ss cs h0)⟩
theorem RVs.append {F : Nat → Prop} {w0 : World} {L : Lc} {as bs : List (VV U.D)} {us vs : List Value} (h1 : RVs U F w0 L as us) (h2 : RVs U F w0 L bs vs) : RVs U F w0 L (as ++ bs) (us ++ vs) := by
  refine ⟨by simp [h1.1, h2.1], fun i c v hc hv => ?_⟩
  by_cases hi : i < as.length
  · rw [List.getElem?_append_left hi] at hc
    rw [List.getElem?_append_left (by rw [← h1.1]; exact hi)] at hv
    exact h1.2 i c v hc hv
  · rw [List.getElem?_append_right (by omega)] at hc
    rw [List.getElem?_append_right (by rw [← h1.1]; omega), ← h1.1] at hv
    exact h2.2 _ c v hc hv
theorem RVs.tail {F : Nat → Prop} {w0 : World} {L : Lc} {as : List (VV U.D)} {us : List Value} (h : RVs U F w0 L as us) : RVs U F w0 L as.tail us.tail := by
  cases as with
  | nil =>
    have : us = [] := List.eq_nil_of_length_eq_zero h.1.symm
    subst this; exact RVs.nil
  | cons c cs => obtain ⟨v, vs, rfl, -, h2⟩ := h.uncons; exact h2
theorem nestRV {F : Nat → Prop} {w0 : World} {L : Lc} : ∀ (gs : List Cg) (cs : List (VV U.D)) (vs : List Value), RVs U F w0 L cs vs → RVs U F w0 L (nestV .junk gs cs) (nestV undef gs vs)
  | [], cs, vs, _ => RVs.nil
  | g :: gs, cs, vs, h => by
    have ih := nestRV gs cs.tail vs.tail h.tail
    cases g <;> try (exact ih)
    refine RVs.cons ?_ ih
    cases cs with
    | nil =>
      have : vs = [] := List.eq_nil_of_length_eq_zero h.1.symm
      subst this; exact .junk _
    | cons c cs => obtain ⟨v, vs, rfl, h1, -⟩ := h.uncons; exact h1
theorem nestJ {F : Nat → Prop} {w0 : World} {L : Lc} : ∀ (gs : List Cg) (vs : List Value), RVs U F w0 L (nestV (.junk : VV U.D) gs []) (nestV undef gs vs)
  | [], vs => RVs.nil
  | g :: gs, vs => by
    have ih := nestJ (F := F) (w0 := w0) (L := L) gs vs.tail
    cases g <;> try (exact ih)
    exact RVs.cons (.junk _) ih
theorem agRV {F : Nat → Prop} {w0 : World} {L : Lc} (gs : List Cg) {c : VV U.D} {v : Value} (h : RV U F w0 L c v) : RVs U F w0 L (nestV .junk gs (agC c)) (nestV undef gs (agU v)) := by
  by_cases hc : ∃ cs, c = .agg cs
  · obtain ⟨cs, rfl⟩ := hc
    obtain ⟨A, rfl, h1, h2, -⟩ := h.agg_inv
    exact nestRV gs _ _ ⟨by simpa [agC, agU] using h1, fun i c v hc hv => h2 i c v hc (by simpa [agU] using hv)⟩
  · have e : agC c = [] := by cases c <;> first | rfl | exact absurd ⟨_, rfl⟩ hc
    rw [e]; exact nestJ gs _
theorem ioRVs {F : Nat → Prop} {w0 : World} : ∀ (ss : List Sg) (cs : List (VV U.D)) (vs : List Value), RVs U F w0 L cs vs → RVs U F w0 L (ioV ss cs) (ioU ss vs)
  | [], cs, vs, _ => by cases cs <;> cases vs <;> exact RVs.nil
  | s :: ss, [], vs, h => by
    have : vs = [] := List.eq_nil_of_length_eq_zero h.1.symm
    subst this
    have e : ioV (s :: ss) ([] : List (VV U.D)) = [] := by cases s <;> (try rfl) <;> rename_i g <;> cases g <;> rfl
    have e2 : ioU (s :: ss) [] = [] := by cases s <;> (try rfl) <;> rename_i g <;> cases g <;> rfl
    rw [e, e2]; exact RVs.nil
  | s :: ss, c :: cs, vs, h => by
    obtain ⟨v, vs', rfl, h1, h2⟩ := h.uncons
    have ih := ioRVs ss cs vs' h2
    cases s with
    | c g => cases g <;> first | exact ih | exact RVs.cons h1 ih
    | box t gs => exact RVs.cons h1 ih
    | abox t n k => exact RVs.cons h1 ih
    | wag gs => exact (agRV gs h1).append ih
    | _ => exact ih
theorem nestKeep {L' : Lc} {ss : List Sg} {cs : List (VV U.D)} (h : KeepOks U L L' w ss cs) : ∀ (gs : List Cg) (l : List (VV U.D)), KeepOks U L L' w ((nestG gs).map Sg.c ++ ss) (nestV .junk gs l ++ cs)
  | [], l => h
  | g :: gs, l => by
    have ih := nestKeep h gs l.tail
    cases g <;> try (exact ih)
    exact .cons (by unfold KeepOk; split <;> first | trivial | (rename_i h; cases h)) ih
theorem ioKeep {L' : Lc} : ∀ (ss : List Sg) (cs : List (VV U.D)), KeepOks U L L' w ss cs → KeepOks U L L' w (ioS ss) (ioV ss cs)
  | [], cs, _ => .nil _
  | s :: ss, [], h0 => by
    clear h0
    have e : ioV (s :: ss) ([] : List (VV U.D)) = [] := by cases s <;> (try rfl) <;> rename_i g <;> cases g <;> rfl
    rw [e]; exact .no _
  | s :: ss, c :: cs, h => by
    cases h with
    | cons h1 h2 =>
      have ih := ioKeep ss cs h2
      cases s with
      | c g => cases g <;> first | exact ih | exact .cons h1 ih
      | box t gs => exact .cons h1 ih
      | abox t n k => exact .cons h1 ih
      | wag gs => exact nestKeep ih gs _
      | _ => exact ih
theorem mupd_app (m : Mem U.D) (u u' : Upd U.D) : mupd m (u ++ u') = mupd (mupd m u) u' := by
  induction u generalizing m with
  | nil => rfl
  | cons x xs ih =>
    obtain ⟨q, b⟩ := x
    cases b <;> exact ih _
theorem mget_dels (m : Mem U.D) (ks : List Nat) (q : Nat) : mget (mupd m (ks.map (fun q => (q, none)))) q = if q ∈ ks then none else mget m q := by
  induction ks generalizing m with
  | nil => simp [mupd]
  | cons x xs ih =>
    simp only [List.map_cons, mupd, ih, mget_mdel, List.mem_cons]
    by_cases h1 : q ∈ xs
    · simp [h1]
    · by_cases h2 : q = x
      · subst h2; simp
      · simp [h1, h2, Ne.symm h2]
theorem mget_puts (m n : Mem U.D) (f : Blk U.D → Blk U.D) (q : Nat) : mget (mupd m (n.reverse.map (fun p => (p.1, some (f p.2))))) q = match mget n q with
    | some b => some (f b)
    | none => mget m q := by
  induction n with
  | nil => rfl
  | cons x xs ih =>
    obtain ⟨p, b⟩ := x
    simp only [List.reverse_cons, List.map_append, List.map_cons, List.map_nil, mupd_app, mupd, mget_mput, mget]
    by_cases h : p = q
    · subst h; simp
    · have hb : Nat.beq p q = false := by
        cases hb : Nat.beq p q with
        | false => rfl
        | true => exact absurd (Nat.eq_of_beq_eq_true hb) h
      simp only [hb, cond_false, ih]
      simp [h, Ne.symm h]
end
end Go.Proofs.YtpdnnndedejlhaaGreatV
/- Memory behind a call, joined. -/
namespace Go.Proofs.YtpdnnndedejlhaaGreatV
open Go
set_option linter.unusedVariables false
set_option linter.unusedSimpArgs false
variable {U : Uni} {P : Program} {R : Type}
def mrgF (L L2 : Lc) (m2 : Mem U.D) (f : Nat → Nat) : Lc where
  bg q := if inM m2 q = true then L2.bg q else L.bg q
  bo q := if inM m2 q = true then L2.bo q else L.bo q
  bs q := if inM m2 q = true then L2.bs q else L.bs q
  bn q := if inM m2 q = true then L2.bn q else L.bn q
  rv q := if inM m2 q = true then L2.rv q else L.rv q
  cl := f
  kv := L.kv
def mcl (L L2 : Lc) (ks : List Nat) (b : Nat) : Nat := match L2.cl b with
  | q + 1 => q + 1
  | 0 => match L.cl b with
    | 0 => 0
    | p + 1 => if p ∈ ks then 0 else p + 1
section
variable {C : Fr} {L L2 : Lc} {s : St U.D} {w w' : World} {m2 : Mem U.D} {ks : List Nat} {F' G' : Nat → Prop} {X : Nat → Option Value} {lent : Bool}
theorem inM_iff {m : Mem U.D} {q : Nat} : inM m q = true ↔ ∃ b, mget m q = some b := by
  unfold inM
  cases mget m q with
  | none => simp
  | some b => simp
theorem mrg_same (f : Nat → Nat) : Same m2 L2 (mrgF L L2 m2 f) := fun q hq => by simp [EqAt, mrgF, hq]
theorem mrg_old (f : Nat → Nat) {q : Nat} (h : ¬ inM m2 q = true) : EqAt L (mrgF L L2 m2 f) q := by simp [EqAt, mrgF, h]
theorem mrg_rvo (h1 : ∀ κ, (L.rv κ).oneCell' = true) (h2 : ∀ κ, (L2.rv κ).oneCell' = true) (f : Nat → Nat) (q : Nat) : ((mrgF L L2 m2 f).rv q).oneCell' = true := by
  simp only [mrgF]
  split
  · exact h2 q
  · exact h1 q
theorem call_mrel (hM : MRel U C L s.m w) (hM2 : MRel U ⟨F', G', w, X⟩ L2 m2 w') (hG : ∀ b, b < w.heap.size → (∀ q, L.cl b = q + 1 → q ∉ ks) → G' b)
    (hF : lent = false → ∀ {c : VV U.D} {v : Value}, RC U F' w c v → RC U C.F C.w0 c v)
    (hnew : ∀ q b, mget m2 q = some b → mget s.m q = none ∧ q ∉ menL s.t ∧ q ∉ menM s.m) (hE : ∀ q b, mget m2 q = some b → encB b) :
    MRel U C (mrgF L L2 m2 (mcl L L2 ks)) (mupd s.m (ks.map (fun q => (q, none)) ++ m2.reverse.map (fun p => (p.1, some (clnB m2 lent p.2))))) w' := by
  have hold : ∀ q b, mget s.m q = some b → ¬ inM m2 q = true := by
    intro q b hb hi
    obtain ⟨b', hb'⟩ := inM_iff.1 hi
    rw [(hnew q b' hb').1] at hb; cases hb
  have hmen : ∀ q, q ∈ menM s.m → ¬ inM m2 q = true := by
    intro q hq hi
    obtain ⟨b', hb'⟩ := inM_iff.1 hi
    exact (hnew q b' hb').2.2 hq
  have hkeep : ∀ x, x < w.heap.size → (∀ q, L.cl x = q + 1 → q ∉ ks) → L2.cl x = 0 ∧ w'.heap[x]? = w.heap[x]? := fun x h1 h2 => by
    obtain ⟨-, h3, h4⟩ := hM2.g0 x (hG x h1 h2)
    exact ⟨h3, h4⟩
  refine hM.step (fun q b hq => ?_) (fun b hb => ?_) (fun b hb => ?_) (mrg_rvo hM.rvo hM2.rvo _) hM2.hs hM2.os hM2.tp hM2.ou
  · rw [mupd_app, mget_puts] at hq
    cases hq2 : mget m2 q with
    | some b2 =>
      rw [hq2] at hq; cases hq
      right
      exact (hM2.me q b2 hq2).clnB hF (mrg_same _) (inM_iff.2 ⟨b2, hq2⟩) (hE q b2 hq2) (fun x hx => by simp only [mrgF, mcl, hx])
    | none =>
      rw [hq2] at hq
      simp only [mget_dels] at hq
      by_cases hk : q ∈ ks
      · rw [if_pos hk] at hq; cases hq
      · rw [if_neg hk] at hq
        refine .inl ⟨hq, mrg_old _ (hold q b hq), fun p hp => mrg_old _ (hmen p (menM_mem hq hp)), fun x hx => ?_⟩
        obtain ⟨h1, h2⟩ := hkeep x (hM.hl x (by rw [hx]; exact Nat.succ_ne_zero q)) (fun q' hq' => by
          rw [hx] at hq'
          have e : q = q' := by omega
          rw [← e]; exact hk)
        exact ⟨by simp only [mrgF, mcl, h1, hx, if_neg hk], h2⟩
  · obtain ⟨h1, h2, h3⟩ := hM.g0 b hb
    obtain ⟨h4, h5⟩ := hkeep b (Nat.lt_of_lt_of_le h1 hM.hs) (fun q hq => by omega)
    exact ⟨by simp only [mrgF, mcl, h4, h2], h5⟩
  · by_cases h2 : L2.cl b = 0
    · have h1 : L.cl b ≠ 0 := fun h1 => hb (by simp only [mrgF, mcl, h2, h1])
      exact Nat.lt_of_lt_of_le (hM.hl b h1) hM2.hs
    · exact hM2.hl b h2
theorem RO.len_eq {w w' : World} {ok ok' : Nat → Prop} {k k' : Nat} {xs : List (U.D k)} {ys : List (U.D k')} {v : Value} (h : RO U w ok (.tree k xs) v) (h' : RO U w' ok' (.tree k' ys) v) : xs.length = ys.length := by
  cases h with
  | bool h => simp [boolOf] at h
  | tree0 =>
    cases h' with
    | tree0 => rfl
  | tree f hg hh hc hkk hs hr =>
    generalize he : xs.length = n at h'
    cases h' with
    | tree => rfl
def fren (f : Nat → Nat) (κ κ' : Nat) (x : Nat) : Nat := if f x = κ' + 1 then κ + 1 else if f x = κ + 1 then 0 else f x
theorem rename {f : Nat → Nat} {m0 : Mem U.D} (hcur : MRel U C (mrgF L L2 m2 f) m0 w') {κ κ' : Nat} {b' : Blk U.D} (hb : BR U C.F C.w0 w' (mrgF L L2 m2 (fren f κ κ')) κ b') :
    MRel U C (mrgF L L2 m2 (fren f κ κ')) (mdel (mput m0 κ b') κ') w' := by
  refine hcur.step (fun q b hq => ?_) (fun b hb => ?_) (fun b hb => ?_) hcur.rvo (Nat.le_refl _) rfl rfl rfl
  · rw [mget_mdel, mget_mput] at hq
    by_cases h1 : q = κ'
    · rw [if_pos h1] at hq; cases hq
    · rw [if_neg h1] at hq
      by_cases h2 : q = κ
      · subst h2; rw [if_pos rfl] at hq; cases hq; exact .inr hb
      · rw [if_neg h2] at hq
        refine .inl ⟨hq, ⟨rfl, rfl, rfl, rfl, rfl, rfl⟩, fun _ _ => ⟨rfl, rfl, rfl, rfl, rfl, rfl⟩, fun x hx => ⟨?_, rfl⟩⟩
        simp only [mrgF] at hx ⊢
        simp only [fren, hx]
        rw [if_neg (by omega), if_neg (by omega)]
  · obtain ⟨-, h2, -⟩ := hcur.g0 b hb
    refine ⟨?_, rfl⟩
    simp only [mrgF] at h2 ⊢
    simp [fren, h2]
  · refine hcur.hl b (fun h => hb ?_)
    simp only [mrgF] at h ⊢
    simp [fren, h]
theorem back_mrel (PL : Ulaw U) (hM : MRel U C L s.m w) (hM2 : MRel U ⟨F', G', w, X⟩ L2 m2 w') (hF : lent = false → ∀ {c : VV U.D} {v : Value}, RC U F' w c v → RC U C.F C.w0 c v)
    (hnew : ∀ q b, mget m2 q = some b → mget s.m q = none ∧ q ∉ menL s.t ∧ q ∉ menM s.m) {L1 : Lc} (hkv : L1.kv = L2.kv) :
    ∀ (ss : List Sg) (vs ns : List (VV U.D)) (us : List Value) (f : Nat → Nat) (m0 : Mem U.D), MRel U C (mrgF L L2 m2 f) m0 w' → RVs U C.F C.w0 L vs us → RVs U F' w L2 ns us → KeepOks U L L1 w ss vs →
      (∀ κ' ∈ topK ns, inM m2 κ' = true → ∀ x, L2.cl x = κ' + 1 → f x = κ' + 1) → ∃ f', MRel U C (mrgF L L2 m2 f') (mupd m0 (back lent s.m m2 ss vs ns)) w'
  | s0 :: ss, v0 :: vs, n0 :: ns, us, f, m0, hcur, hv, hn, hk, hc => by
    obtain ⟨u, us', rfl, hv1, hv2⟩ := hv.uncons
    obtain ⟨u', us'', e, hn1, hn2⟩ := hn.uncons
    cases e
    have hold : ∀ q b, mget s.m q = some b → ¬ inM m2 q = true := by
      intro q b hb hi
      obtain ⟨b', hb'⟩ := inM_iff.1 hi
      rw [(hnew q b' hb').1] at hb; cases hb
    have hmen : ∀ q, q ∈ menM s.m → ¬ inM m2 q = true := by
      intro q hq hi
      obtain ⟨b', hb'⟩ := inM_iff.1 hi
      exact (hnew q b' hb').2.2 hq
    have stop : back lent s.m m2 (s0 :: ss) (v0 :: vs) (n0 :: ns) = [] → ∃ f', MRel U C (mrgF L L2 m2 f') (mupd m0 (back lent s.m m2 (s0 :: ss) (v0 :: vs) (n0 :: ns))) w' := by
      intro e; rw [e]; exact ⟨f, hcur⟩
    have go : ∀ κ κ' b', inM m2 κ' = true → ¬ inM m2 κ = true → hasK κ' (topK ns) = false → topK (n0 :: ns) = κ' :: topK ns → back lent s.m m2 (s0 :: ss) (v0 :: vs) (n0 :: ns) = (κ, some b') :: (κ', none) :: back lent s.m m2 ss vs ns →
        BR U C.F C.w0 w' (mrgF L L2 m2 (fren f κ κ')) κ b' → ∃ f', MRel U C (mrgF L L2 m2 f') (mupd m0 (back lent s.m m2 (s0 :: ss) (v0 :: vs) (n0 :: ns))) w' := by
      intro κ κ' b' h1 h2 h3 h4 h5 h6
      rw [h5]
      simp only [mupd]
      have hk2 : KeepOks U L L1 w ss vs := by cases hk with
        | cons a b => exact b
      refine back_mrel PL hM hM2 hF hnew hkv ss vs ns us' _ _ (rename hcur h6) hv2 hn2 hk2 (fun q hq hi x hx => ?_)
      have := hc q (by rw [h4]; exact List.mem_cons_of_mem _ hq) hi x hx
      have hqk : q ≠ κ' := fun e => by subst e; rw [hasK_iff.2 hq] at h3; cases h3
      have hqk2 : q ≠ κ := fun e => h2 (e ▸ hi)
      simp only [fren, this]
      rw [if_neg (by omega), if_neg (by omega)]
    have stop_ := stop
    cases s0 with
    | box t0 gs =>
      cases v0 <;> try (exact stop rfl)
      case ptr κ j =>
        cases n0 <;> try (exact stop rfl)
        case ptr κ' j' =>
          cases hm : mget s.m κ with
          | none => exact stop (by simp only [back, hm])
          | some b =>
            cases hm2 : mget m2 κ' with
            | none => exact stop (by simp only [back, hm, hm2])
            | some b2 =>
              cases b with
              | row _ _ => exact stop (by simp only [back, hm, hm2])
              | krow _ _ => exact stop (by simp only [back, hm, hm2])
              | hole _ _ _ _ => exact stop (by simp only [back, hm, hm2])
              | brow _ _ => exact stop (by simp only [back, hm, hm2])
              | arr _ _ _ _ => exact stop (by simp only [back, hm, hm2])
              | box t cs =>
                cases b2 with
                | row _ _ => exact stop (by simp only [back, hm, hm2])
                | krow _ _ => exact stop (by simp only [back, hm, hm2])
                | hole _ _ _ _ => exact stop (by simp only [back, hm, hm2])
                | brow _ _ => exact stop (by simp only [back, hm, hm2])
                | arr _ _ _ _ => exact stop (by simp only [back, hm, hm2])
                | box t' ds =>
                  cases hb : (Nat.beq t t' && !hasK κ' (topK ns)) with
                  | false => exact stop (by simp only [back, hm, hm2, hb, cond_false])
                  | true =>
                    simp only [Bool.and_eq_true, Bool.not_eq_true'] at hb
                    have := Nat.eq_of_beq_eq_true hb.1; subst this
                    have hi : inM m2 κ' = true := inM_iff.2 ⟨_, hm2⟩
                    have hno := hold κ _ hm
                    refine go κ κ' (.box t (restC m2 lent gs cs ds)) hi hno hb.2 rfl (by simp only [back, hm, hm2, hb.2, Nat.beq_refl, Bool.not_false, Bool.and_true, cond_true]) ?_
                    obtain ⟨a1, A, a2, a3, a4⟩ := hM.me κ _ hm
                    obtain ⟨b1, A', b2, b3, b4⟩ := hM2.me κ' _ hm2
                    have hg : L.bg κ = L2.bg κ' := by
                      have h1 := hv1.ptr_inv
                      rw [hn1.ptr_inv] at h1
                      simp only [Value.pointer.injEq, Option.some.injEq, Addr.mk.injEq] at h1
                      exact h1.1.symm
                    have hbg : ∀ f, (mrgF L L2 m2 f).bg κ = L2.bg κ' := fun f => by simp only [mrgF, if_neg hno, hg]
                    have hrs : RVs U C.F C.w0 (mrgF L L2 m2 (fren f κ κ')) (restC m2 lent gs cs ds) A'.toList := by
                      refine restC_rv hF (mrg_same _) gs cs ds A'.toList ⟨by simpa using b3, fun i c v hc hv => (b4 i c v hc (by rw [← Array.getElem?_toList]; exact hv)).1⟩ (fun i k o hg ho => ?_)
                      have hi : i < A.size := by rw [← a3]; exact idx_lt ho
                      have hA := Array.getElem?_eq_getElem hi
                      have hk1 : KeepOk L L1 w (.box t0 gs) (VV.ptr (D := U.D) κ j) := by cases hk with
                        | cons a b => exact a
                      have : A[i] = L2.kv := (hk1 A t (0, 0) a2 i k _ hg hA).trans hkv
                      rw [← this]
                      exact (a4 i o _ ho hA).1.ext rfl (fun q hq => mrg_old _ (hmen q (menM_mem hm (by rw [menB]; exact menL_mem ho hq))))
                    refine ⟨?_, A', by rw [hbg]; exact b2, by simpa using hrs.1, fun i c v hc hv => ⟨hrs.2 i c v hc (by rw [Array.getElem?_toList]; exact hv), ?_⟩⟩
                    · rw [hbg]; simp only [mrgF, fren]
                      rw [hc κ' (by simp [topK]) hi _ b1, if_pos rfl]
                    · have hi : i < ds.length := by rw [b3]; exact (Array.getElem?_eq_some_iff.1 hv).1
                      exact (b4 i _ v (List.getElem?_eq_getElem hi) hv).2
    | c g =>
      cases v0 <;> try (exact stop rfl)
      case nil =>
        cases n0 <;> try (exact stop rfl)
        case ref κ' =>
          cases hb : hasK κ' (topK ns) with
          | true => exact stop (by simp only [back, hb, Bool.not_true, cond_false])
          | false =>
            have hk2 : KeepOks U L L1 w ss vs := by cases hk with
              | cons a b => exact b
            have e : back lent s.m m2 (.c g :: ss) (.nil :: vs) (.ref κ' :: ns) = back lent s.m m2 ss vs ns := by simp only [back, hb, Bool.not_false, cond_true]
            rw [e]
            exact back_mrel PL hM hM2 hF hnew hkv ss vs ns us' _ _ hcur hv2 hn2 hk2 (fun q hq hi x hx => hc q (by simp only [topK]; exact List.mem_cons_of_mem _ hq) hi x hx)
      case ref κ =>
        cases n0 <;> try (exact stop rfl)
        case ref κ' =>
          have hg : L.rv κ = L2.rv κ' := by
            have h1 := hv1.ref_inv
            rw [hn1.ref_inv] at h1
            exact h1.symm
          have rowB : ∀ (k : Nat) (xs ys : List (U.D k)), inM m2 κ' = true → ¬ inM m2 κ = true → (RO U w (fun b => L.cl b = κ + 1) (.tree k xs) (L.rv κ) ∧ L.bn κ = xs.length ∧ ∀ g o n c, L.rv κ = .slice (some ⟨g, o, none⟩) n c → L.bg κ = g ∧ L.bo κ = o ∧ L.bs κ = U.sz k) →
              (RO U w' (fun b => L2.cl b = κ' + 1) (.tree k ys) (L2.rv κ') ∧ L2.bn κ' = ys.length ∧ ∀ g o n c, L2.rv κ' = .slice (some ⟨g, o, none⟩) n c → L2.bg κ' = g ∧ L2.bo κ' = o ∧ L2.bs κ' = U.sz k) →
              xs.length = ys.length ∧ BR U C.F C.w0 w' (mrgF L L2 m2 (fren f κ κ')) κ (.row k ys) := by
            rintro k xs ys hi hno ⟨a1, a2, a3⟩ ⟨b1, b2, b3⟩
            obtain ⟨e1, e2, e3, e4, e5, e6⟩ := mrg_old (L := L) (L2 := L2) (fren f κ κ') hno
            have hlen : xs.length = ys.length := by rw [hg] at a1; exact RO.len_eq a1 b1
            refine ⟨hlen, ?_, ?_, ?_⟩
            · rw [e5, hg]
              exact b1.mono (fun b hb => by simp only [mrgF, fren]; rw [hc κ' (by simp [topK]) hi _ hb, if_pos rfl])
            · rw [e4, a2, hlen]
            · rw [e5, e1, e2, e3]; exact a3
          cases hm : mget s.m κ with
          | none => exact stop (by simp only [back, hm])
          | some b =>
            cases hm2 : mget m2 κ' with
            | none => exact stop (by simp only [back, hm, hm2])
            | some b2 =>
              have hi : inM m2 κ' = true := inM_iff.2 ⟨_, hm2⟩
              have hno := hold κ _ hm
              cases b with
              | row k xs =>
                cases b2 with
                | row k' ys =>
                  cases hb : (Nat.beq k k' && !hasK κ' (topK ns)) with
                  | false => exact stop (by simp only [back, hm, hm2, hb, cond_false])
                  | true =>
                    simp only [Bool.and_eq_true, Bool.not_eq_true'] at hb
                    have := Nat.eq_of_beq_eq_true hb.1; subst this
                    exact go κ κ' (.row k ys) hi hno hb.2 rfl (by simp only [back, hm, hm2, hb.2, Nat.beq_refl, Bool.not_false, Bool.and_true, cond_true]) (rowB k xs ys hi hno (hM.me κ _ hm) (hM2.me κ' _ hm2)).2
                | krow k' ys =>
                  cases hb : (Nat.beq k k' && !hasK κ' (topK ns)) with
                  | false => exact stop (by simp only [back, hm, hm2, hb, cond_false])
                  | true =>
                    simp only [Bool.and_eq_true, Bool.not_eq_true'] at hb
                    have := Nat.eq_of_beq_eq_true hb.1; subst this
                    exact go κ κ' (.row k ys) hi hno hb.2 rfl (by simp only [back, hm, hm2, hb.2, Nat.beq_refl, Bool.not_false, Bool.and_true, cond_true]) (rowB k xs ys hi hno (hM.me κ _ hm) (hM2.me κ' _ hm2).1).2
                | _ => exact stop (by simp only [back, hm, hm2])
              | krow k xs =>
                cases b2 with
                | krow k' ys =>
                  cases hb : (Nat.beq k k' && !hasK κ' (topK ns)) with
                  | false => exact stop (by simp only [back, hm, hm2, hb, cond_false])
                  | true =>
                    simp only [Bool.and_eq_true, Bool.not_eq_true'] at hb
                    have := Nat.eq_of_beq_eq_true hb.1; subst this
                    obtain ⟨a0, a4⟩ := hM.me κ _ hm
                    obtain ⟨b0, b4⟩ := hM2.me κ' _ hm2
                    obtain ⟨hlen, hB⟩ := rowB k xs ys hi hno a0 b0
                    refine go κ κ' (.krow k ys) hi hno hb.2 rfl (by simp only [back, hm, hm2, hb.2, Nat.beq_refl, Bool.not_false, Bool.and_true, cond_true]) ⟨hB, fun i x j k' zs hx hj => ?_⟩
                    obtain ⟨e1, e2, e3, e4, e5, e6⟩ := mrg_old (L := L) (L2 := L2) (fren f κ κ') hno
                    rw [e1, e2, e3]
                    obtain ⟨x0, hx0⟩ : ∃ x0, xs[i]? = some x0 := ⟨_, List.getElem?_eq_getElem (by rw [hlen]; exact idx_lt hx)⟩
                    obtain ⟨zs0, hj0⟩ := PL.shp k x x0 j k' zs hj
                    rw [← a4 i x0 j k' zs0 hx0 hj0]
                    have hb4 := b4 i x j k' zs hx hj
                    have had : L2.bg κ' = L.bg κ ∧ L2.bo κ' = L.bo κ ∧ L2.bs κ' = L.bs κ := by
                      have a1 := a0.1
                      have a3 := a0.2.2
                      have b3 := b0.2.2
                      rw [← hg] at b3
                      generalize L.rv κ = rv at a1 a3 b3
                      cases a1 with
                      | bool hb => simp [boolOf] at hb
                      | tree0 => simp at hx0
                      | tree f hg hh hcap hkk hs hr =>
                        obtain ⟨p1, p2, p3⟩ := a3 _ _ _ _ rfl
                        obtain ⟨q1, q2, q3⟩ := b3 _ _ _ _ rfl
                        exact ⟨q1.trans p1.symm, q2.trans p2.symm, q3.trans p3.symm⟩
                    rw [had.1, had.2.1, had.2.2] at hb4
                    exact hb4
                | _ => exact stop (by simp only [back, hm, hm2])
              | _ => exact stop (by cases b2 <;> simp only [back, hm, hm2])
    | _ => exact stop (by cases v0 <;> rfl)
  | [], vs, ns, us, f, m0, hcur, hv, hn, hk, hc => ⟨f, by cases vs <;> cases ns <;> exact hcur⟩
  | s0 :: ss, [], ns, us, f, m0, hcur, hv, hn, hk, hc => ⟨f, by cases s0 <;> cases ns <;> exact hcur⟩
  | s0 :: ss, v0 :: vs, [], us, f, m0, hcur, hv, hn, hk, hc => ⟨f, by cases s0 <;> cases v0 <;> exact hcur⟩
end
end Go.Proofs.YtpdnnndedejlhaaGreatV
/- A call. -/
namespace Go.Proofs.YtpdnnndedejlhaaGreatV
open Go
set_option linter.unusedVariables false
set_option linter.unusedSimpArgs false
variable {U : Uni} {P : Program} {R : Type}
theorem absent_inv {m : Mem U.D} : ∀ (n κ : Nat), absent m κ n = true → ∀ q, κ ≤ q → q < κ + n → mget m q = none
  | 0, κ, _, q, h1, h2 => by omega
  | n + 1, κ, h, q, h1, h2 => by
    simp only [absent, Bool.and_eq_true] at h
    by_cases e : κ = q
    · subst e
      cases hm : mget m κ with
      | none => rfl
      | some b => rw [hm] at h; exact absurd h.1 (by simp)
    · exact absent_inv n (κ + 1) h.2 q (by omega) (by omega)
theorem disj_inv : ∀ (a b : List Nat), disj a b = true → ∀ q ∈ a, q ∉ b
  | [], b, _, q, h => by simp at h
  | x :: xs, b, h, q, hq => by
    simp only [disj, Bool.and_eq_true, Bool.not_eq_true'] at h
    rcases List.mem_cons.1 hq with rfl | hq
    · intro hb
      rw [hasK_iff.2 hb] at h; cases h.1
    · exact disj_inv xs b h.2 q hq
theorem mget_mem {m : Mem U.D} {q : Nat} {b : Blk U.D} (h : mget m q = some b) : (q, b) ∈ m := by
  induction m with
  | nil => cases h
  | cons x xs ih =>
    obtain ⟨p, c⟩ := x
    simp only [mget] at h
    cases hb : Nat.beq p q with
    | true =>
      have := Nat.eq_of_beq_eq_true hb; subst this
      rw [hb] at h; cases h; exact List.mem_cons_self
    | false => rw [hb] at h; exact List.mem_cons_of_mem _ (ih h)
theorem RV.pack {F : Nat → Prop} {w0 : World} {L : Lc} {cs : List (VV U.D)} {vs : List Value} (h : RVs U F w0 L cs vs) : RV U F w0 L (packR cs) (packU vs) := by
  have tup_ : RV U F w0 L (.tup cs) (.tuple vs.toArray) := .tup (by simpa using h.1) (fun i c v hc hv => h.2 i c v hc (by simpa using hv))
  have hl := h.1
  match cs, vs, h, hl, tup_ with
  | [], [], _, _, t => exact t
  | [c], [v], h, _, _ => exact h.2 0 c v rfl rfl
  | _ :: _ :: _, _ :: _ :: _, _, _, t => exact t
theorem RVs.app {F : Nat → Prop} {w0 : World} {L : Lc} {as bs : List (VV U.D)} {vs us : List Value} (h : RVs U F w0 L as vs) (h2 : RVs U F w0 L bs us) : RVs U F w0 L (as ++ bs) (vs ++ us) := by
  induction as generalizing vs with
  | nil =>
    have : vs = [] := List.eq_nil_of_length_eq_zero h.1.symm
    subst this; exact h2
  | cons x xs ih =>
    obtain ⟨v, vs', rfl, h3, h4⟩ := h.uncons
    exact RVs.cons h3 (ih h4)
theorem RVs.unapp {F : Nat → Prop} {w0 : World} {L : Lc} : ∀ (n : Nat) {cs : List (VV U.D)} {vs us : List Value}, RVs U F w0 L cs (vs ++ us) → vs.length = n → RVs U F w0 L (cs.take n) vs ∧ RVs U F w0 L (cs.drop n) us
  | 0, cs, vs, us, h, hn => by
    have : vs = [] := List.eq_nil_of_length_eq_zero hn
    subst this; exact ⟨RVs.nil, h⟩
  | n + 1, [], vs, us, h, hn => by have := h.1; simp at this; omega
  | n + 1, c :: cs, [], us, h, hn => by cases hn
  | n + 1, c :: cs, v :: vs, us, h, hn => by
    obtain ⟨v', vs', e, h1, h2⟩ := h.uncons
    cases e
    obtain ⟨h3, h4⟩ := RVs.unapp n h2 (by simpa using hn)
    exact ⟨RVs.cons h1 h3, h4⟩
section
variable {C : Fr} {L : Lc} {s : St U.D} {m : Mem U.D} {a : Act} {w : World} {E : Nat → List (Con U)} {d : Nat} {K : VV U.D → Upd U.D → Option R} {r : R} {o : Oper}
theorem kfc (PL : Ulaw U) (hM : MRel U C L m w) {F' : Nat → Prop} {w0' : World} {bl : List Nat} (hT : Tgt U C L w F' w0' bl) {kv : Value} : ∀ (gs : List Cg) (cs ls ls' : List (VV U.D)) (vs : List Value), decCL true m gs cs = some ls → LQs ls' ls → RVs U C.F C.w0 L cs vs → (∀ (i k : Nat) (v : Value), gs[i]? = some (.keep k) → vs[i]? = some v → v = kv) → KFc U F' w0' kv gs ls'
  | [], [], ls, ls', vs, hd, hl, hv, hk => trivial
  | [], _ :: _, ls, ls', vs, hd, _, _, _ => by cases hd
  | _ :: _, [], ls, ls', vs, hd, _, _, _ => by cases hd
  | g :: gs, c :: cs, ls, ls', vs, hd, hl, hv, hk => by
    simp only [decCL] at hd
    cases h1 : decC true m g c with
    | none => rw [h1] at hd; cases hd
    | some a =>
      cases h2 : decCL true m gs cs with
      | none => rw [h1, h2] at hd; cases hd
      | some b =>
        rw [h1, h2] at hd
        cases hd
        obtain ⟨a', b', rfl, hl1, hl2⟩ := hl.inv
        obtain ⟨v, vs', rfl, hv1, hv2⟩ := hv.uncons
        refine ⟨fun k0 hg => ?_, kfc PL hM hT gs cs b b' vs' h2 hl2 hv2 (fun i k v hg hv => hk (i + 1) k v (by simpa using hg) (by simpa using hv))⟩
        subst hg
        have e := hk 0 k0 v rfl rfl
        subst e
        cases c <;> simp only [decC] at h1 <;> try (cases h1)
        all_goals
          cases hl1 with
          | tree => first | exact ⟨_, _, rfl, hT.tr hv1.tree_inv⟩ | exact ⟨_, _, rfl, hT.tr (RV.tree_inv hv1.unk)⟩
          | bool h => simp [boolOf] at h
theorem dec_len1 {bor : Bool} {g : Cg} {c : VV U.D} {ls : List (VV U.D)} (h : dec bor m (.c g) c = some ls) : ls.length = 1 := by
  cases g <;> simp only [dec] at h <;> first | (cases h; done) | (split at h <;> cases h; rfl)
theorem kf (PL : Ulaw U) (hM : MRel U C L m w) {F' : Nat → Prop} {w0' : World} {bl : List Nat} (hT : Tgt U C L w F' w0' bl) {L' : Lc} : ∀ (ss : List Sg) (cs ls ls' : List (VV U.D)) (vs : List Value), decL true m ss cs = some ls → LQs ls' ls → RVs U C.F C.w0 L cs vs → KeepOks U L L' w ss cs → (∀ s c ls, dec true m s c = some ls → ls.length = s.lvs.length) → KF U F' w0' L'.kv ss ls'
  | [], cs, ls, ls', vs, hd, hl, hv, hk, hln => trivial
  | _ :: _, [], ls, ls', vs, hd, _, _, _, _ => by cases hd
  | s :: ss, c :: cs, ls, ls', vs, hd, hl, hv, hk, hln => by
    simp only [decL] at hd
    cases h1 : dec true m s c with
    | none => rw [h1] at hd; cases hd
    | some a =>
      cases h2 : decL true m ss cs with
      | none => rw [h1, h2] at hd; cases hd
      | some b =>
        rw [h1, h2] at hd
        cases hd
        have hlen := hln s c a h1
        obtain ⟨a', b', rfl, hl1, hl2⟩ := hl.split
        obtain ⟨v, vs', rfl, hv1, hv2⟩ := hv.uncons
        cases hk with
        | cons hk1 hk2 =>
          have ih := kf PL hM hT ss cs b b' vs' h2 hl2 hv2 hk2 hln
          have hla : a'.length = s.lvs.length := hl1.1.trans hlen
          cases s with
          | box t gs =>
            have hg : a'.length = gs.length := by simpa [Sg.lvs] using hla
            refine ⟨?_, ?_⟩
            · rw [← hg, List.take_left]
              cases c with
              | ptr κ j =>
                cases j with
                | succ j => simp only [dec] at h1; cases h1
                | zero =>
                  simp only [dec] at h1
                  cases hm : mget m κ with
                  | none => rw [hm] at h1; cases h1
                  | some bb =>
                    rw [hm] at h1
                    cases bb with
                    | box t' cs0 =>
                      simp only at h1
                      cases ht : Nat.beq t t' with
                      | false => rw [ht] at h1; cases h1
                      | true =>
                        simp only [ht, cond_true] at h1
                        obtain ⟨-, A, hA, hn, hAl⟩ := hM.me κ _ hm
                        exact kfc PL hM hT gs cs0 a a' A.toList h1 hl1 ⟨by simpa using hn, fun i c v hc hv => (hAl i c v hc (by rw [← Array.getElem?_toList]; exact hv)).1⟩ (fun i k v hg hv => hk1 A t' (0, 0) hA i k v hg (by rw [← Array.getElem?_toList]; exact hv))
                    | _ => cases h1
              | _ => simp only [dec] at h1; cases h1
            · rw [← hg, List.drop_left]; exact ih
          | c g =>
            have hg : a'.length = 1 := by simpa [Sg.lvs] using hla
            refine ⟨by simp; omega, ?_⟩
            rw [← hg, List.drop_left]; exact ih
          | arr n k => show KF U F' w0' L'.kv ss ((a' ++ b').drop _); rw [← hla, List.drop_left]; exact ih
          | agg gs => show KF U F' w0' L'.kv ss ((a' ++ b').drop _); rw [← hla, List.drop_left]; exact ih
          | wag gs => show KF U F' w0' L'.kv ss ((a' ++ b').drop _); rw [← hla, List.drop_left]; exact ih
          | abox t n k => show KF U F' w0' L'.kv ss ((a' ++ b').drop _); rw [← hla, List.drop_left]; exact ih
          | pbox t gs => show KF U F' w0' L'.kv ss ((a' ++ b').drop _); rw [← hla, List.drop_left]; exact ih
          | fn f ps => show KF U F' w0' L'.kv ss ((a' ++ b').drop _); rw [← hla, List.drop_left]; exact ih
theorem decCL_len : ∀ (bor : Bool) (gs : List Cg) (cs b : List (VV U.D)), decCL bor m gs cs = some b → b.length = gs.length
  | bor, [], [], b, hd => by cases hd; rfl
  | bor, [], _ :: _, b, hd => by cases hd
  | bor, _ :: _, [], b, hd => by cases hd
  | bor, g :: gs, c :: cs, b, hd => by
    simp only [decCL] at hd
    cases h1 : decC bor m g c with
    | none => rw [h1] at hd; cases hd
    | some x =>
      cases h2 : decCL bor m gs cs with
      | none => rw [h1, h2] at hd; cases hd
      | some b' =>
        rw [h1, h2] at hd
        cases hd
        simp [decCL_len bor gs cs b' h2]
theorem decP_len : ∀ (bor : Bool) (ps : List (Nat × List Cg)) (cs b : List (VV U.D)), decP bor m ps cs = some b → b.length = (lvsP ps).length
  | bor, [], [], b, hd => by cases hd; rfl
  | bor, [], _ :: _, b, hd => by cases hd
  | bor, (t, gs) :: ps, [], b, hd => by cases hd
  | bor, (t, gs) :: ps, c :: cs, b, hd => by
    have fin : ∀ bb ds x z, decCL bb m gs ds = some x → decP bor m ps cs = some z → b = x ++ z → b.length = (lvsP ((t, gs) :: ps)).length := by
      intro bb ds x z h1 h2 e
      subst e
      simp [lvsP, decCL_len bb gs ds x h1, decP_len bor ps cs z h2]
    cases c with
    | ptr κ j =>
      cases j with
      | succ j => cases hd
      | zero =>
        simp only [decP] at hd
        cases hbg : (bor && leafG gs) with
        | false => rw [hbg] at hd; cases hd
        | true =>
          simp only [hbg, cond_true] at hd
          cases hm : mget m κ with
          | none => rw [hm] at hd; cases hd
          | some bb =>
            rw [hm] at hd
            cases bb with
            | box t' cs0 =>
              simp only at hd
              cases ht : Nat.beq t t' with
              | false => rw [ht] at hd; cases hd
              | true =>
                simp only [ht, cond_true] at hd
                cases h1 : decCL true m gs cs0 with
                | none => rw [h1] at hd; cases hd
                | some x =>
                  cases h2 : decP bor m ps cs with
                  | none => rw [h1, h2] at hd; cases hd
                  | some z => rw [h1, h2] at hd; cases hd; exact fin _ _ _ _ h1 h2 rfl
            | _ => cases hd
    | pbox t' cs0 j =>
      cases j with
      | succ j => cases hd
      | zero =>
        simp only [decP] at hd
        cases hbg : (leafG gs && Nat.beq t t') with
        | false => rw [hbg] at hd; cases hd
        | true =>
          simp only [hbg, cond_true] at hd
          cases h1 : decCL false m gs cs0 with
          | none => rw [h1] at hd; cases hd
          | some x =>
            cases h2 : decP bor m ps cs with
            | none => rw [h1, h2] at hd; cases hd
            | some z => rw [h1, h2] at hd; cases hd; exact fin _ _ _ _ h1 h2 rfl
    | _ => cases hd
theorem box_inv {bor : Bool} {t : Nat} {gs : List Cg} {c : VV U.D} {ls : List (VV U.D)} (hd : dec bor m (.box t gs) c = some ls) : ∃ cs, decCL bor m gs cs = some ls := by
  cases c with
  | ptr κ j =>
    cases j with
    | succ j => simp only [dec] at hd; cases hd
    | zero =>
      simp only [dec] at hd
      cases hm : mget m κ with
      | none => rw [hm] at hd; cases hd
      | some b =>
        rw [hm] at hd
        cases b with
        | box t' cs =>
          simp only at hd
          cases ht : Nat.beq t t' with
          | false => rw [ht] at hd; cases hd
          | true => simp only [ht, cond_true] at hd; exact ⟨cs, hd⟩
        | _ => cases hd
  | _ => simp only [dec] at hd; cases hd
theorem dec_len {bor : Bool} {s : Sg} {c : VV U.D} {ls : List (VV U.D)} (h : dec bor m s c = some ls) : ls.length = s.lvs.length := by
  cases s with
  | c g => exact dec_len1 h
  | arr n k =>
    simp only [dec] at h
    split at h
    · cases h; rfl
    · cases h
  | abox t n k => cases c <;> simp only [dec] at h <;> cases h
  | box t gs => obtain ⟨cs, h⟩ := box_inv h; simpa [Sg.lvs] using decCL_len _ _ _ _ h
  | agg gs =>
    cases c <;> simp only [dec] at h <;> try (cases h)
    case agg cs =>
      cases hn : noKeep gs with
      | false => rw [hn] at h; cases h
      | true => rw [hn] at h; simp only [cond_true] at h; simpa [Sg.lvs] using decCL_len _ _ _ _ h
  | wag gs =>
    cases c <;> simp only [dec] at h <;> try (cases h)
    case agg cs =>
      cases hn : noKeep gs with
      | false => rw [hn] at h; cases h
      | true => rw [hn] at h; simp only [cond_true] at h; simpa [Sg.lvs] using decCL_len _ _ _ _ h
  | pbox t gs =>
    have h' : decP bor m [(t, gs)] [c] = some ls := by cases c <;> exact h
    have := decP_len _ _ _ _ h'
    simpa [Sg.lvs, lvsP] using this
  | fn f ps =>
    cases c <;> simp only [dec] at h <;> try (cases h)
    case fn f' cs =>
      cases hn : Nat.beq f f' with
      | false => rw [hn] at h; cases h
      | true => rw [hn] at h; simp only [cond_true] at h; simpa [Sg.lvs] using decP_len _ _ _ _ h
theorem call_one (PL : Ulaw U) (hM : MRel U C L s.m w) {g : Nat} {args : List (VV U.D)} {vals : List Value} (hv : RVs U C.F C.w0 L args vals) {c : Con U} (hc : SoundC P U g c)
    {lv : List (VV U.D)} (hd : decL true s.m c.A args = some lv) {x : TL U.D (lvsL c.A)} (hx : tyd (lvsL c.A) lv = some x) (hf : fair s.m c args = true) (ha : absent s.m (64 * d) 64 = true) {y : TL U.D (lvsL c.R ++ outsL c.A)} (hy : c.f x = some y)
    {vs : List (VV U.D)} {m2 : Mem U.D} {κ' : Nat} {r' : List (VV U.D)} (he : encL (c.R ++ ioS c.A) (64 * d) ((unty (lvsL c.R ++ outsL c.A) y).take (lvsL c.R).length ++ mergeL c.A (unty (lvsL c.A) x) ((unty (lvsL c.R ++ outsL c.A) y).drop (lvsL c.R).length)) = (vs, m2, κ', r')) (hk : Nat.ble κ' (64 * d + 64) = true)
    {lent : Bool} (hlent : lent = isLent (bors s.m c.A args))
    {u : Upd U.D} (hu : u = (somes (kys s.m c.A args)).map (fun q => (q, none)) ++ (m2.reverse.map fun p => (p.1, some (clnB m2 lent p.2))) ++ back lent s.m m2 (ioS c.A) (ioV c.A args) (vs.drop c.R.length))
    (hn : newOk s u = true) {Post : Value → World → Prop} (hp : ∀ L' w' v, MRel U C L' (mupd s.m u) w' → RV U C.F C.w0 L' (packR ((vs.take c.R.length).map (clnV m2 lent))) v → L'.kv = L.kv → (∀ κ, (κ ∈ menL s.t ∨ κ ∈ menM s.m) → EqAt L L' κ) → Post v w') :
    Calls P g vals.toArray w (fun e w' => match e with
      | .returned v => Post v w'
      | _ => False) := by
  simp only [fair, Bool.and_eq_true] at hf
  obtain ⟨⟨hnd, hdj⟩, hkp⟩ := hf
  obtain ⟨kv, hkv⟩ := keep_ex (U := U) L w c.A args (Nat.le_of_ble_eq_true hkp)
  have hdj' := disj_inv _ _ hdj
  let L1 := ren L 100000 (kys s.m c.A args) kv
  let F' : Nat → Prop := fun b => C.F b ∨ ∃ q ∈ bors s.m c.A args, L.cl b = q + 1
  let G' : Nat → Prop := fun b => b < w.heap.size ∧ L1.cl b = 0
  have hcl : ∀ b, (∀ q, L.cl b = q + 1 → q ∉ somes (kys s.m c.A args)) → L1.cl b = 0 := by
    intro b hb
    cases e : L1.cl b with
    | zero => rfl
    | succ q =>
      obtain ⟨i, p, h1, h2, -⟩ := ren_cl e
      exact absurd (somes_mem h1) (hb p h2)
  have hT : Tgt U C L w F' w (bors s.m c.A args) := ⟨fun b hb => .inl hb, fun b hb => (hM.g0 b (hM.fg b hb)).2.2, fun q hq b hb => ⟨.inr ⟨q, hq, hb⟩, rfl⟩⟩
  obtain ⟨cs1, m1, e1, hv1, hb1⟩ := rkL (L' := L1) PL hM hT (bor := true) ⟨fun _ => rfl, fun h => by cases h⟩ [] c.A args (unty _ x) vals 100000 (LLs.of c.A args lv _ hd (tyd_lq _ hx)) hv (hkv L1 rfl) (fun _ q hq => hq) (ren_ok hnd)
  rw [List.append_nil] at e1
  have hM1 : MRel U ⟨F', G', w, fun _ => none⟩ L1 m1 w := by
    refine ren_mrel hM hb1 (fun b hb => ?_) (fun b hb => ⟨hb.1, hb.2, rfl⟩) (Nat.le_refl _) hM.os hM.tp hM.ou _
    rcases hb with hb | ⟨q, hq, hb⟩
    · obtain ⟨h1, h2, -⟩ := hM.g0 b (hM.fg b hb)
      exact ⟨Nat.lt_of_lt_of_le h1 hM.hs, hcl b (fun q hq => by omega)⟩
    · refine ⟨hM.hl b (by omega), hcl b (fun p hp hpk => ?_)⟩
      have e : p = q := by omega
      exact hdj' p hpk (e ▸ hq)
  refine Calls.mono (hc (64 * d) x y hy F' G' L1 w vals cs1 m1 _ e1 hv1 hM1 (kf (L' := L1) PL hM hT c.A args lv _ vals hd (tyd_lq _ hx) hv (hkv L1 rfl) (fun s c ls h => dec_len h))) (fun e w' h => ?_)
  cases e with
  | returned v =>
    obtain ⟨L2, cs2, m2', κ2, rs, e2, rfl, hrs, hrv, hM2, hkv2, hrange⟩ := h
    rw [he] at e2
    cases e2
    have hF : lent = false → ∀ {c : VV U.D} {v : Value}, RC U F' w c v → RC U C.F C.w0 c v := by
      intro hl c' v' h
      have hb : bors s.m c.A args = [] := by
        rw [hl] at hlent
        cases hb : bors s.m c.A args with
        | nil => rfl
        | cons q qs => rw [hb] at hlent; cases hlent
      refine (h.mono (fun b hb' => ?_)).stay (fun b hb' => (hM.g0 b (hM.fg b hb')).2.2.symm)
      rcases hb' with hb' | ⟨q, hq, -⟩
      · exact hb'
      · rw [hb] at hq; simp at hq
    have hnew : ∀ q b, mget m2 q = some b → mget s.m q = none ∧ q ∉ menL s.t ∧ q ∉ menM s.m := by
      intro q b hb
      obtain ⟨h1, h2⟩ := hrange q b hb
      have h3 := absent_inv _ _ ha q h1 (Nat.lt_of_lt_of_le h2 (Nat.le_of_ble_eq_true hk))
      have hmem : (q, some (clnB m2 lent b)) ∈ u := by
        rw [hu]
        refine List.mem_append_left _ (List.mem_append_right _ ?_)
        exact List.mem_map.2 ⟨(q, b), List.mem_reverse.2 (mget_mem hb), rfl⟩
      rcases newOk_inv hn hmem with ⟨b', hb'⟩ | h
      · rw [h3] at hb'; cases hb'
      · exact ⟨h3, h⟩
    obtain ⟨hr1, hr2⟩ := RVs.unapp _ hrv hrs
    have hE : ∀ q b, mget m2 q = some b → encB b := fun q b hb => by
      have := encL_blk (c.R ++ ioS c.A) (64 * d) ((unty (lvsL c.R ++ outsL c.A) y).take (lvsL c.R).length ++ mergeL c.A (unty (lvsL c.A) x) ((unty (lvsL c.R ++ outsL c.A) y).drop (lvsL c.R).length)) q b
      rw [he] at this
      exact this hb
    have hs1 := call_mrel (ks := somes (kys s.m c.A args)) hM hM2 (fun b h1 h2 => ⟨h1, hcl b h2⟩) hF hnew hE
    obtain ⟨f', hs2⟩ := back_mrel PL hM hM2 hF hnew (L1 := L1) hkv2.symm (ioS c.A) (ioV c.A args) (vs.drop c.R.length) (ioU c.A vals) _ _ hs1 (ioRVs _ _ _ hv) hr2 (ioKeep _ _ (hkv L1 rfl)) (fun κ' _ _ x hx => by simp only [mcl, hx])
    refine hp (mrgF L L2 m2 f') w' _ (by rw [hu, mupd_app]; exact hs2) (RV.pack ⟨by simpa using hr1.1, fun i c v hc hv => ?_⟩) rfl (fun κ hκ => mrg_old _ (fun hi => ?_))
    · rw [List.getElem?_map, Option.map_eq_some_iff] at hc
      obtain ⟨c', hc', rfl⟩ := hc
      exact (hr1.2 i c' v hc' hv).clnV hF (mrg_same _)
    · obtain ⟨b, hb⟩ := inM_iff.1 hi
      obtain ⟨-, h1, h2⟩ := hnew κ b hb
      exact hκ.elim h1 h2
  | _ => exact h.elim
theorem p_callC (PL : Ulaw U) (hM : MRel U C L s.m w) {g : Nat} {args : List (VV U.D)} {vals : List Value} (hv : RVs U C.F C.w0 L args vals) : ∀ (cs : List (Con U)), (∀ c ∈ cs, SoundC P U g c) → callC s.m d args K cs = some r →
    ∃ c u, K c u = some r ∧ (newOk s u = true → ∀ Post : Value → World → Prop, (∀ L' w' v, MRel U C L' (mupd s.m u) w' → RV U C.F C.w0 L' c v → L'.kv = L.kv → (∀ κ, (κ ∈ menL s.t ∨ κ ∈ menM s.m) → EqAt L L' κ) → Post v w') →
      Calls P g vals.toArray w (fun e w' => match e with
        | .returned v => Post v w'
        | _ => False))
  | [], _, h => by cases h
  | c :: cs, hc, h => by
    have ih := p_callC PL hM hv cs (fun c hc' => hc c (List.mem_cons_of_mem _ hc'))
    simp only [callC] at h
    cases hsh : shpL c.A args with
    | false => rw [hsh] at h; exact ih h
    | true =>
      simp only [hsh, cond_true] at h
      cases hd : decL true s.m c.A args with
      | none => rw [hd] at h; cases h
      | some lv =>
        rw [hd] at h
        simp only at h
        cases hx : tyd (lvsL c.A) lv with
        | none => rw [hx] at h; exact ih h
        | some x =>
          rw [hx] at h
          simp only at h
          cases hf : (fair s.m c args && absent s.m (64 * d) 64) with
          | false => rw [hf] at h; cases h
          | true =>
            simp only [hf, cond_true] at h
            simp only [Bool.and_eq_true] at hf
            cases hy : c.f x with
            | none => rw [hy] at h; cases h
            | some y =>
              rw [hy] at h
              simp only [Option.bind_some] at h
              generalize he : encL (c.R ++ ioS c.A) (64 * d) _ = q at h
              obtain ⟨vs, m2, κ', r'⟩ := q
              simp only at h
              cases hk : Nat.ble κ' (64 * d + 64) with
              | false => rw [hk] at h; cases h
              | true =>
                rw [hk] at h
                exact ⟨_, _, h, fun hn Post hp => call_one PL hM hv (hc c List.mem_cons_self) hd hx hf.1 hf.2 hy he hk rfl rfl hn hp⟩
end
end Go.Proofs.YtpdnnndedejlhaaGreatV
/- Every operation. -/
namespace Go.Proofs.YtpdnnndedejlhaaGreatV
open Go
set_option linter.unusedVariables false
set_option linter.unusedSimpArgs false
variable {U : Uni} {P : Program} {R : Type}
theorem part_run {F : Nat → Prop} {w0 w : World} {L : Lc} {t : Nat} {T : TY} (ht : TYok P t T) {A : Array Value} {cs : List (VV U.D)} {j : Nat} {c : VV U.D} (hn : cs.length = A.size) (h : ∀ (i : Nat) (c : VV U.D) (v : Value), cs[i]? = some c → A[i]? = some v → RV U F w0 L c v)
    (h1 : ∀ (i : Nat) (v : Value), A[i]? = some v → v.oneCell' = true) (hc : cut T cs j = some c) : ∃ v, (part t A j).run P w = .ok v w ∧ RV U F w0 L c v := by
  obtain ⟨i, z, hi, hs, -, -, -⟩ := ht.inf
  have hd := ht.d
  unfold cut at hc
  cases hb : Nat.ble (j + T.sz) cs.length with
  | false => simp [hb] at hc
  | true =>
    have hle : j + T.sz ≤ cs.length := Nat.le_of_ble_eq_true hb
    simp only [hb, cond_true] at hc
    have agg : ∀ d, P.underlying t = some d → (match d with | .struct _ | .array _ _ => true | _ => false) = true → c = .agg (((cs.drop j).take T.sz).map YtpdnnndedejlhaaGreatV.unk) →
        ∃ v, (part t A j).run P w = .ok v w ∧ RV U F w0 L c v := by
      intro d hu hag hcc
      subst hcc
      refine ⟨.agg (A.extract j (j + T.sz)), ?_, .agg (by simp; omega) (fun q c v hc hv => ?_) (fun q v hv => ?_)⟩
      · cases d <;> simp at hag <;> simp [part, isAgg, run_underlying hu, sizeOf, typeInfo, hi, hs, Sem.run]
      · have hq : q < T.sz := by
          have := idx_lt hc
          simp at this; omega
        rw [List.getElem?_map, List.getElem?_take, if_pos hq, List.getElem?_drop] at hc
        obtain ⟨c0, hc0, rfl⟩ := Option.map_eq_some_iff.1 hc
        rw [Array.getElem?_extract, if_pos (by omega)] at hv
        exact (h (j + q) c0 v hc0 hv).unk
      · by_cases hq : q < min (j + T.sz) A.size - j
        · rw [Array.getElem?_extract, if_pos hq] at hv
          exact h1 _ v hv
        · rw [Array.getElem?_extract, if_neg hq] at hv; cases hv
    have one : ∀ d, P.underlying t = some d → (match d with | .struct _ | .array _ _ => true | _ => false) = false → c = YtpdnnndedejlhaaGreatV.unk (lget cs j) → j < cs.length →
        ∃ v, (part t A j).run P w = .ok v w ∧ RV U F w0 L c v := by
      intro d hu hag hcc hlt
      have hlt' : j < A.size := by omega
      refine ⟨A[j], ?_, ?_⟩
      · cases d <;> simp at hag <;> simp [part, isAgg, run_underlying hu, Sem.run, hlt']
      · rw [hcc]; unfold lget
        rw [List.getD_eq_getElem?_getD, List.getElem?_eq_getElem hlt]
        exact RV.unk (h j _ _ (List.getElem?_eq_getElem hlt) (Array.getElem?_eq_getElem hlt'))
    have hz := ht.on
    cases hT : T.d with
    | str fs =>
      rw [hT] at hc hd
      obtain ⟨fields, hu, -⟩ := hd
      exact agg _ hu rfl (by simpa using hc.symm)
    | ar n e => rw [hT] at hc hd; exact agg _ hd rfl (by simpa using hc.symm)
    | oth => rw [hT] at hc; simp at hc
    | int k => rw [hT] at hc hd hz; exact one _ hd rfl (by simpa using hc.symm) (by simp at hz; omega)
    | bool => rw [hT] at hc hd hz; exact one _ hd rfl (by simpa using hc.symm) (by simp at hz; omega)
    | sl e => rw [hT] at hc hd hz; exact one _ hd rfl (by simpa using hc.symm) (by simp at hz; omega)
section
variable {C : Fr} {L : Lc} {s : St U.D} {a : Act} {w : World} {E : Nat → List (Con U)} {d : Nat} {K : VV U.D → Upd U.D → Option R} {r : R} {o : Oper}
theorem p_field (PL : Plaw P U) (hR : Rel U C L s a w) {t f : Nat} {x : Operand} (ho : o.op = .field t x f) (hx : opOk x = true) (h : Vop U E (.field t x f) d (ev s.t) s.m K = some r) :
    ∃ c, K c [] = some r ∧ Gives P U C L o a w c := by
  have hv := hR.ev x hx
  simp only [Vop] at h
  cases hT : U.ti t with
  | none => rw [hT] at h; cases h
  | some T =>
    have hd := (PL.ty t T hT).d
    rw [hT] at h
    simp only at h
    cases hTd : T.d <;> rw [hTd] at h hd <;> try (cases h)
    case str fs =>
      simp only at h
      obtain ⟨fields, hu, hmap, hsz⟩ := hd
      cases hf : fs[f]? with
      | none => rw [hf] at h; cases h
      | some of =>
        obtain ⟨off, ft⟩ := of
        rw [hf] at h
        simp only at h
        cases hF : U.ti ft with
        | none => rw [hF] at h; cases h
        | some TF =>
          rw [hF] at h
          simp only at h
          rw [← hmap, List.getElem?_map] at hf
          obtain ⟨fd, hfd, he⟩ := Option.map_eq_some_iff.1 hf
          have hfd' : fields[f]? = some fd := by rw [← Array.getElem?_toList]; exact hfd
          simp only [Prod.mk.injEq] at he
          generalize YtpdnnndedejlhaaGreatV.ev s.t x = c at h hv
          cases c <;> try (cases h)
          case agg cs =>
            obtain ⟨c, hc, hK⟩ := cutOf (K := fun v => K v []) h
            obtain ⟨A, e, h1, h2, h3⟩ := hv.agg_inv
            obtain ⟨v, h4, h5⟩ := part_run (w := w) (PL.ty ft TF hF) h1 h2 h3 hc
            exact ⟨c, hK, v, by simp [execOp, ho, Sem.run_bind, e, Instr.field, run_underlying hu, hfd', asAgg, he.1, he.2, h4], h5⟩
theorem menM_put {m : Mem U.D} {κ : Nat} {b b0 : Blk U.D} (h : mget m κ = some b0) (h0 : menB b0 = []) {q : Nat} (hq : q ∈ menM m) : q ∈ menM (mput m κ b) := by
  induction m with
  | nil => cases h
  | cons x xs ih =>
    obtain ⟨p, c⟩ := x
    simp only [mget] at h
    simp only [mput]
    rw [menM] at hq
    cases hb : Nat.beq p κ with
    | true =>
      rw [hb] at h; cases h
      rw [h0, List.nil_append] at hq
      simp only [cond_true, menM]
      exact List.mem_append_right _ hq
    | false =>
      rw [hb] at h
      simp only [cond_false, menM]
      rcases List.mem_append.1 hq with hq | hq
      · exact List.mem_append_left _ hq
      · exact List.mem_append_right _ (ih h hq)
theorem mput_mput (m : Mem U.D) (κ : Nat) (b b' : Blk U.D) : mput (mput m κ b) κ b' = mput m κ b' := by
  induction m with
  | nil => simp [mput]
  | cons x xs ih =>
    obtain ⟨p, c⟩ := x
    simp only [mput]
    cases hb : Nat.beq p κ with
    | true => simp [mput]
    | false => simp only [cond_false, mput, hb, ih]
theorem MRel.put {m : Mem U.D} (h : MRel U C L m w) {κ : Nat} {b : Blk U.D} (hb : BR U C.F C.w0 w L κ b) : MRel U C L (mput m κ b) w := by
  have hme : ∀ q c, mget (mput m κ b) q = some c → BR U C.F C.w0 w L q c := by
    intro q c hq
    rw [mget_mput] at hq
    by_cases e : q = κ
    · subst e; rw [if_pos rfl] at hq; cases hq; exact hb
    · rw [if_neg e] at hq; exact h.me q c hq
  exact { h with me := hme }
theorem scals_keys : ∀ {vs : List (VV U.D)}, scals vs = true → keysOf vs = [] ∧ gone vs = []
  | [], _ => ⟨rfl, rfl⟩
  | v :: vs, h => by
    simp only [scals, Bool.and_eq_true] at h
    obtain ⟨h1, h2⟩ := scals_keys h.2
    cases v <;> first | (cases h.1; done) | exact ⟨h1, h2⟩
theorem scals_at : ∀ {vs : List (VV U.D)}, scals vs = true → ∀ {i : Nat} {v : VV U.D}, vs[i]? = some v → (match v with
    | .int _ _ => true
    | .lit _ => true
    | .bv _ => true
    | .nb _ => true
    | .bp _ _ => true
    | .np _ _ => true
    | _ => false) = true
  | [], _, i, v, h => by simp at h
  | x :: vs, hs, i, v, h => by
    simp only [scals, Bool.and_eq_true] at hs
    cases i with
    | zero => simp at h; subst h; exact hs.1
    | succ i => exact scals_at hs.2 (by simpa using h)
theorem scals_mvd {m : Mem U.D} : ∀ {vs ms : List (VV U.D)}, scals vs = true → mvdL m vs = some ms → ∀ (i : Nat) (c : VV U.D), ms[i]? = some c → ∀ k xs, c ≠ .tree k xs
  | [], ms, _, h, i, c, hc => by simp [mvdL] at h; subst h; simp at hc
  | v :: vs, ms, hs, h, i, c, hc => by
    simp only [scals, Bool.and_eq_true] at hs
    simp only [mvdL] at h
    cases h1 : mvd m v with
    | none => rw [h1] at h; cases h
    | some a =>
      cases h2 : mvdL m vs with
      | none => rw [h1, h2] at h; cases h
      | some b =>
        rw [h1, h2] at h; cases h
        cases i with
        | zero =>
          simp at hc; subst hc
          intro k xs e; subst e
          cases v <;> first | (cases hs.1; done) | (simp only [mvd] at h1; cases h1)
        | succ i => exact scals_mvd hs.2 h2 i c (by simpa using hc)
theorem LE.tree_inv {c : VV U.D} {k : Nat} {xs : List (U.D k)} (h : LE (.tree k xs) c) : c = .tree k xs ∨ c = .nil := by
  cases h with
  | tree => exact .inl rfl
  | nil => exact .inr rfl
theorem d_store_krow (PL : Plaw P U) (hR : Rel U C L s a w) {t κ j k : Nat} {i : Int} {T : TY} {x y : Operand} (ho : o.op = .store t x y) (hT : U.ti t = some T) (hx : opOk x = true) (hy : opOk y = true) {vs ms : List (VV U.D)} (hvs : flO (YtpdnnndedejlhaaGreatV.ev s.t y) = some vs)
    (hlen : vs.length = T.sz) (hp : YtpdnnndedejlhaaGreatV.ev s.t x = .oel κ i j) {xs : List (U.D k)} (hm : mget s.m κ = some (.krow k xs)) (hfit : j + vs.length ≤ U.sz k) (hsc : scals vs = true)
    (hms : mvdL s.m vs = some ms) {x' : U.D k} (hmk : U.mkE k (setl (U.cells k (rdE U k xs i)) j ms) = some x') (hT0 : T.sz ≠ 0) : Does P U C L s o a w .junk [(κ, some (.krow k (xs.set i.toNat x')))] := by
  obtain ⟨hrow, hhd⟩ := hR.me κ _ hm
  let s' : St U.D := { t := s.t, m := mput s.m κ (.row k xs) }
  have hR' : Rel U C L s' a w := { hR with toMRel := hR.toMRel.put hrow }
  have hmget : mget s'.m κ = some (.row k xs) := by show mget (mput s.m κ _) κ = _; rw [mget_mput, if_pos rfl]
  have hmvd : ∀ (vs ms : List (VV U.D)), scals vs = true → mvdL s.m vs = some ms → mvdL s'.m vs = some ms := by
    intro vs
    induction vs with
    | nil => intro ms _ h; exact h
    | cons v vs ih =>
      intro ms hs h
      simp only [scals, Bool.and_eq_true] at hs
      simp only [mvdL] at h ⊢
      have e : mvd s'.m v = mvd s.m v := by cases v <;> first | (cases hs.1; done) | rfl
      rw [e]
      cases h1 : mvd s.m v with
      | none => rw [h1] at h; cases h
      | some c =>
        cases h2 : mvdL s.m vs with
        | none => rw [h1, h2] at h; cases h
        | some b => rw [h1, h2] at h; rw [ih b hs.2 h2]; exact h
  obtain ⟨hk1, hk2⟩ := scals_keys hsc
  have hD := d_store_elt PL hR' ho hT hx hy hvs hlen hp hmget hfit (by rw [hk1]; rfl) (by rw [hk1]; simp) (hmvd _ _ hsc hms) hmk hT0
  rw [hk2] at hD
  obtain ⟨L', w', v, hrun, hM, hrv, hkv, hEq⟩ := hD
  have hM2 : MRel U C L' (mput s.m κ (.row k (xs.set i.toNat x'))) w' := by
    have e : mupd s'.m [(κ, some (Blk.row k (xs.set i.toNat x')))] = mput s.m κ (.row k (xs.set i.toNat x')) := by
      simp only [mupd]; exact mput_mput _ _ _ _
    rw [← e]; exact hM
  have hEq' : ∀ q, (q ∈ menL s.t ∨ q ∈ menM s.m) → EqAt L L' q := fun q hq => hEq q (hq.elim .inl (fun h => .inr (menM_put hm rfl h)))
  have hκ : EqAt L L' κ := hEq' κ (.inl (men_ev (x := x) (by rw [hp]; simp [men])))
  refine ⟨L', w', v, hrun, ?_, hrv, hkv, hEq'⟩
  have hB : BR U C.F C.w0 w' L' κ (.row k (xs.set i.toNat x')) := hM2.me κ _ (by rw [mget_mput, if_pos rfl])
  suffices hH : Hd U C.w0 w' L' κ k (xs.set i.toNat x') by
    have hfin := hM2.put (κ := κ) (b := .krow k (xs.set i.toNat x')) ⟨hB, hH⟩
    simp only [mupd]
    rw [mput_mput] at hfin
    exact hfin
  -- the rows inside lie where they lay
  have hvx := hR.ev x hx
  rw [hp] at hvx
  obtain ⟨ex, hi0, hi1⟩ := hvx.oel_inv
  obtain ⟨hro, hbn, hpos⟩ := hrow
  rw [hbn] at hi1
  have hxi := rd_some hi0 hi1
  have hfr := (hR.ev y hy).one hR.rvo hvs
  have hsz : (a.eval y).cells.size = T.sz := by rw [← hfr.1, hlen]
  have hok := PL.ty t T hT
  generalize hrv0 : L.rv κ = rv at hro hpos
  cases hro with
  | bool hb => simp [boolOf] at hb
  | tree0 => simp at hi1; omega
  | @tree _ _ _ g off cap cur f hg hh hcap hkk hsz' hr =>
    obtain ⟨e1, e2, hbs⟩ := hpos _ _ _ _ rfl
    rw [e1, e2, hbs] at ex
    have hit2 : (i.toNat + 1) * U.sz k ≤ cap * U.sz k := Nat.mul_le_mul_right _ (by omega)
    rw [Nat.add_mul, Nat.one_mul] at hit2
    have hrun2 := run_store_cells (j := off + (i.toNat * U.sz k + j)) hok hh hsz (by omega) (fun i u hu => (hfr.2 i _ u (List.getElem?_eq_getElem (by rw [hfr.1]; exact (Array.getElem?_eq_some_iff.1 hu).1)) hu).2)
    have hw' : w' = w.setCells g (off + (i.toNat * U.sz k + j)) (a.eval y).cells.toList := by
      have hex : (execOp a.eval o).run P w = .ok .skip (w.setCells g (off + (i.toNat * U.sz k + j)) (a.eval y).cells.toList) := by
        simp only [execOp, ho, Sem.run_bind, ex, hrun2]; rfl
      rcases hrun with h | ⟨h, -⟩
      · rw [hex] at h; cases h
      · rw [hex] at h; cases h; rfl
    obtain ⟨b1, b2, -⟩ := setCells_heap (a.eval y).cells.toList (off + (i.toNat * U.sz k + j)) w cur hh
    rw [← hw'] at b1 b2
    intro i' z j' k' ys hz hj
    rw [hκ.1, hκ.2.1, hκ.2.2.1]
    have hlt : i' < xs.length := by have := idx_lt hz; rwa [List.length_set] at this
    obtain ⟨x0, hx0⟩ : ∃ x0, xs[i']? = some x0 := ⟨_, List.getElem?_eq_getElem hlt⟩
    obtain ⟨zs, hj0⟩ := PL.shp k z x0 j' k' ys hj
    rw [← hhd i' x0 j' k' zs hx0 hj0, e1, e2, hbs]
    have hj's := cell_lt PL.toUlaw hj
    have hp2 := mul_fit hlt hj's
    have hp3 : xs.length * U.sz k ≤ cap * U.sz k := Nat.mul_le_mul_right _ hcap
    rw [cell_of hh (by omega), cell_of b1 (by rw [wr_size]; omega)]
    have hout : off + (i' * U.sz k + j') < off + (i.toNat * U.sz k + j) ∨ off + (i.toNat * U.sz k + j) + vs.length ≤ off + (i' * U.sz k + j') := by
      rcases Nat.lt_trichotomy i' i.toNat with h | h | h
      · have := Nat.mul_le_mul_right (U.sz k) (Nat.succ_le_of_lt h)
        rw [Nat.succ_mul] at this
        omega
      · subst h
        rw [List.getElem?_set_self (idx_lt hxi)] at hz
        cases hz
        refine Classical.byContradiction fun hc => ?_
        obtain ⟨pp, rfl⟩ : ∃ pp, j' = j + pp := ⟨j' - j, by omega⟩
        have hml := (mvdL_inv hms).1
        have hppm : pp < ms.length := by omega
        have hle := (PL.mke _ _ _ hmk).2 (j + pp) _ _ hj (setl_get_in ms _ j pp _ (List.getElem?_eq_getElem hppm) (by rw [PL.len]; omega))
        rcases hle.tree_inv with h | h
        · exact scals_mvd hsc hms pp _ (List.getElem?_eq_getElem hppm) _ _ h
        · have h1 := (mvdL_inv hms).2 pp _ _ (List.getElem?_eq_getElem (show pp < vs.length by omega)) (List.getElem?_eq_getElem hppm)
          rw [h] at h1
          have hv := scals_at hsc (List.getElem?_eq_getElem (show pp < vs.length by omega))
          generalize vs[pp] = vv at h1 hv
          cases vv <;> first | (cases hv; done) | (simp only [mvd] at h1; cases h1)
      · have := Nat.mul_le_mul_right (U.sz k) (Nat.succ_le_of_lt h)
        rw [Nat.succ_mul] at this
        omega
    have := wr_out (a.eval y).cells.toList cur (off + (i.toNat * U.sz k + j)) (off + (i' * U.sz k + j')) (by simp [hsz, ← hlen]; omega)
    rw [Array.getD_eq_getD_getElem?, Array.getD_eq_getD_getElem?, this]
theorem p_store (PL : Plaw P U) (hR : Rel U C L s a w) {t : Nat} {x y : Operand} (ho : o.op = .store t x y) (hx : opOk x = true) (hy : opOk y = true) (h : Vop U E (.store t x y) d (ev s.t) s.m K = some r) :
    ∃ c u, K c u = some r ∧ (newOk s u = true → Does P U C L s o a w c u) := by
  simp only [Vop] at h
  cases hT : U.ti t with
  | none => rw [hT] at h; cases h
  | some T =>
    cases hvs : flO (YtpdnnndedejlhaaGreatV.ev s.t y) with
    | none => rw [hT, hvs] at h; cases h
    | some vs =>
      rw [hT, hvs] at h
      simp only at h
      cases hl : Nat.beq vs.length T.sz with
      | false => rw [hl] at h; cases h
      | true =>
        have hlen := Nat.eq_of_beq_eq_true hl
        simp only [hl, cond_true] at h
        cases hp : YtpdnnndedejlhaaGreatV.ev s.t x <;> rw [hp] at h <;> try (cases h)
        case ptr κ j =>
          simp only at h
          cases hm : mget s.m κ with
          | none => rw [hm] at h; cases h
          | some b =>
            rw [hm] at h
            cases b with
            | box t0 cs =>
              simp only at h
              cases hfit : Nat.ble (j + vs.length) cs.length with
              | false => rw [hfit] at h; cases h
              | true =>
                simp only [hfit, cond_true] at h
                exact ⟨_, _, h, fun _ => d_store_box PL hR ho hT hx hy hvs hlen hp hm (Nat.le_of_ble_eq_true hfit)⟩
            | row k xs => cases h
            | krow k xs => cases h
            | hole k xs i j => cases h
            | brow k xs => cases h
            | arr t n k xs => cases h
        case oel κ i j =>
          simp only at h
          cases hm : mget s.m κ with
          | none => rw [hm] at h; cases h
          | some b =>
            rw [hm] at h
            cases b with
            | box t0 cs => cases h
            | arr t n k xs => cases h
            | hole k xs i j => cases h
            | brow k xs => cases h
            | krow k xs =>
              simp only at h
              cases hfit : (Nat.ble (j + vs.length) (U.sz k) && scals vs && Nat.ble 1 vs.length) with
              | false => rw [hfit] at h; cases h
              | true =>
                simp only [hfit, cond_true] at h
                simp only [Bool.and_eq_true] at hfit
                cases hms : mvdL s.m vs with
                | none => rw [hms] at h; cases h
                | some ms =>
                  rw [hms] at h
                  simp only at h
                  cases hmk : U.mkE k (setl (U.cells k (rdE U k xs i)) j ms) with
                  | none => rw [hmk] at h; cases h
                  | some y' =>
                    rw [hmk] at h
                    simp only at h
                    exact ⟨_, _, h, fun _ => d_store_krow PL hR ho hT hx hy hvs hlen hp hm (Nat.le_of_ble_eq_true hfit.1.1) hfit.1.2 hms hmk (by have := Nat.le_of_ble_eq_true hfit.2; omega)⟩
            | row k xs =>
              simp only at h
              cases hfit : (Nat.ble (j + vs.length) (U.sz k) && ndp (keysOf vs) && !hasK κ (keysOf vs) && Nat.ble 1 vs.length) with
              | false => rw [hfit] at h; cases h
              | true =>
                simp only [hfit, cond_true] at h
                simp only [Bool.and_eq_true, Bool.not_eq_true'] at hfit
                cases hms : mvdL s.m vs with
                | none => rw [hms] at h; cases h
                | some ms =>
                  rw [hms] at h
                  simp only at h
                  cases hmk : U.mkE k (setl (U.cells k (rdE U k xs i)) j ms) with
                  | none => rw [hmk] at h; cases h
                  | some y' =>
                    rw [hmk] at h
                    simp only at h
                    refine ⟨_, _, h, fun _ => d_store_elt PL hR ho hT hx hy hvs hlen hp hm (Nat.le_of_ble_eq_true hfit.1.1.1) hfit.1.1.2 (fun hk => ?_) hms hmk ?_⟩
                    · rw [hasK_iff.2 hk] at hfit; cases hfit.1.2
                    · have := Nat.le_of_ble_eq_true hfit.2; omega
def EnvOk (P : Program) (U : Uni) (E : Nat → List (Con U)) : Prop := ∀ g c, c ∈ E g → Enters P g ∧ SoundC P U g c
theorem p_callv (PL : Ulaw U) (hE : EnvOk P U E) (hR : Rel U C L s a w) {c : Call} {f : Operand} (ho : o.op = .call c) (hcal : c.callee = .value f) (hf : opOk f = true) (hx : ∀ x ∈ c.args, opOk x = true) (h : Vop U E (.call c) d (ev s.t) s.m K = some r) :
    ∃ v u, K v u = some r ∧ (newOk s u = true → Goes P U C L s o a w v u) := by
  have hvf := hR.ev f hf
  simp only [Vop, hcal] at h
  generalize YtpdnnndedejlhaaGreatV.ev s.t f = cf at h hvf
  cases cf <;> try (cases h)
  case fn g cs =>
    simp only at h
    obtain ⟨A, e, hn, hA⟩ := hvf.fn_inv
    have hv : RVs U C.F C.w0 L (c.args.toList.map (YtpdnnndedejlhaaGreatV.ev s.t) ++ cs) ((c.args.map a.eval).toList ++ A.toList) := by
      refine RVs.app ⟨by simp, fun i x v hx' hv' => ?_⟩ ⟨by simpa using hn, fun i x v hx' hv' => hA i x v hx' (by rw [← Array.getElem?_toList]; exact hv')⟩
      rw [List.getElem?_map, Array.getElem?_toList] at hx'
      rw [Array.getElem?_toList, Array.getElem?_map] at hv'
      cases hi : c.args[i]? with
      | none => rw [hi] at hx'; cases hx'
      | some z =>
        rw [hi] at hx' hv'
        cases hx'; cases hv'
        exact hR.ev z (hx z (Array.mem_of_getElem? hi))
    have hEn : ∃ c', c' ∈ E g := by
      cases hEg : E g with
      | nil => rw [hEg] at h; cases h
      | cons c' _ => exact ⟨c', List.mem_cons_self⟩
    obtain ⟨c', hc'⟩ := hEn
    have hent := (hE g c' hc').1
    obtain ⟨v, u, hK, hgo⟩ := p_callC PL hR.toMRel hv (E g) (fun c'' hc'' => (hE g c'' hc'').2) h
    refine ⟨v, u, hK, fun hnw next Q hnext => ?_⟩
    unfold Oper.wp
    have hrun : (execOp a.eval o).run P w = .ok (.enter g ((c.args.map a.eval).toList ++ A.toList).toArray) w := by
      have e2 : ((c.args.map a.eval).toList ++ A.toList).toArray = c.args.map a.eval ++ A := by simp
      rw [e2]
      simp [execOp, ho, resolve, hcal, Deferred.ofValue, e, Sem.run_bind, invoke]
      exact hent _ w
    rw [hrun]
    rw [Oper.upon_enter]
    refine Calls.mono (hgo hnw (fun v w' => next (a.put o.dst v) w') hnext) (fun e w' he => ?_)
    cases e with
    | returned v => exact he
    | _ => exact he.elim
end
end Go.Proofs.YtpdnnndedejlhaaGreatV
