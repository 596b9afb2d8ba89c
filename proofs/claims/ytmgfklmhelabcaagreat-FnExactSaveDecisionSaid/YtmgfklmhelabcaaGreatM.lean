import Derived.Test.YtmgfklmhelabcaaGreatWLast
import Derived.Test.YtmgfklmhelabcaaGreatWApart
import Derived.Test.YtmgfklmhelabcaaGreatWKept
import Derived.Test.YtmgfklmhelabcaaGreatWMore
import Derived.Test.YtmgfklmhelabcaaGreatWQPut
/- Rows whose elements lead to rows of their own, written element by element; and facts of rows told by the interval of blocks that they lie in. -/
namespace Go.Proofs.YtmgfklmhelabcaaGreatM
open Go.RowKit Go.Proofs.YtmgfklmhelabcaaGreatW.PrintWords Go.Proofs.YtmgfklmhelabcaaGreatW.PrintWords.Kd
set_option linter.unusedVariables false
section
variable {α : Type} {d : Kd α} {e g n cap base : Nat} {ok oki : Nat → Prop} {W w2 : World} {xs : List α} {i : Int} {c c' : List Value} {x' : α}
end
section
variable {α : Type} {d : Kd α} {e n c base lo hi lo' hi' : Nat} {ok : Nat → Prop} {w0 w w1 : World} {A : Option Addr} {v : Value} {xs : List α}
theorem R_len (h : d.R e w base ok (.slice A n c) xs) : xs.length ≤ c := by have h_ := R_reads' h; rw [← h_.1]; exact h_.2.1
theorem R_C (h : d.R e w base ok (.slice A n c) xs) : d.C w A xs.length xs := (R_reads' h).2.2
theorem R_n (h : d.R e w base ok (.slice A n c) xs) : xs.length = n := (R_reads' h).1.symm
theorem R_made (h : d.R e w1 w.heap.size ok v xs) (hb : w0.heap.size ≤ w.heap.size) : ∃ A n c, v = .slice A n c ∧ n = xs.length ∧ d.R e w1 w0.heap.size (fun k_ => w.heap.size ≤ k_ ∧ k_ < w1.heap.size) (.slice A n c) xs := by
  obtain ⟨A, c, rfl, _, _⟩ := R_reads h
  exact ⟨A, _, c, rfl, rfl, R_mono (R_lower (R_bound h) hb) (fun _ h_ => ⟨h_.2.1, h_.2.2.1⟩)⟩
def Em (A : Option Addr) (n c : Nat) (xs : List α) : Prop := xs = [] ∧ n = 0
end
section
variable {P : Program} {ops : Array Oper} {rest : List Oper} {o : Oper} {a : Act} {Q : Exit → Act → World → Prop} {Kc : Act → World → Prop} {α : Type}
end
section
variable {P : Program} {ops : Array Oper} {rest : List Oper} {o : Oper} {a : Act} {Q : Exit → Act → World → Prop} {α : Type}
end
section
variable {α : Type} {d : Kd α} {e base : Nat} {ok : Nat → Prop} {w W W1 : World} {v : Value} {xs : List α} {g N : Nat} {o : Obj}
theorem bH (h : Aside0 (Below w.heap.size w W)) (hb : Below W.heap.size W W1) : Aside0 (Below w.heap.size w W1) := ⟨below_step h.out hb⟩
theorem bK (h : Aside0 (W.heap[g]? = some o)) (hb : Below W.heap.size W W1) : Aside0 (W1.heap[g]? = some o) := ⟨blk_below h.out hb⟩
theorem bR (h : Aside0 (d.R e W base ok v xs)) (hb : Below W.heap.size W W1) : Aside0 (d.R e W1 base ok v xs) := ⟨R_below h.out hb⟩
theorem dH (h : Aside0 (Below w.heap.size w W)) : Aside0 (Below w.heap.size w W.drew) := ⟨below_drew1 h.out⟩
theorem dK (h : Aside0 (W.heap[g]? = some o)) : Aside0 (W.drew.heap[g]? = some o) := ⟨blk_drew h.out⟩
theorem dR (h : Aside0 (d.R e W base ok v xs)) : Aside0 (d.R e W.drew base ok v xs) := ⟨R_drew h.out⟩
theorem qH (h : Aside0 (Below w.heap.size w W)) (n : Nat) : Aside0 (Below w.heap.size w (W.drewN n)) := ⟨pw_below_drewN h.out n⟩
theorem qK (h : Aside0 (W.heap[g]? = some o)) (n : Nat) : Aside0 ((W.drewN n).heap[g]? = some o) := ⟨blk_drewN h.out n⟩
theorem qR (h : Aside0 (d.R e W base ok v xs)) (n : Nat) : Aside0 (d.R e (W.drewN n) base ok v xs) := ⟨R_drewN h.out n⟩
theorem xC (h : Aside0 (Below w.heap.size w W)) {a : Addr} {u : Value} (hc : Aside0 (w.cell? a = some u)) : W.cell? a = some u := pw_cell_below h.out hc.out
theorem bSet (hb : Below N W W1) (hg : N ≤ g) {j : Nat} {u : Value} : Below N W (W1.setCell ⟨g, j, none⟩ u) := hb.setCell hg _
theorem decT {p : Prop} [Decidable p] (h : p) : decide p = true := decide_eq_true h
theorem decF {p : Prop} [Decidable p] (h : ¬ p) : decide p = false := decide_eq_false h
theorem eqT {a b : Int} (h : a = b) : (a == b) = true := beq_iff_eq.mpr h
theorem eqF {a b : Int} (h : ¬ a = b) : (a == b) = false := beq_eq_false_iff_ne.mpr h
end
section
open Go.Proofs.YtmgfklmhelabcaaGreatW.PrintLast
def bmask (n m : Nat) : Array Bool := ((List.range n).map fun i => m.testBit i).toArray
theorem bm_get (n m j : Nat) : (bmask n m)[j]? = if j < n then some (m.testBit j) else none := by
  unfold bmask
  by_cases h : j < n
  · simp [h]
  · simp [h]
theorem bm_getD (n m j : Nat) (b : Bool) : (bmask n m).getD j b = if j < n then m.testBit j else b := by
  rw [Array.getD_eq_getD_getElem?, bm_get]
  split <;> rfl
theorem bm_set (n m i : Nat) (hi : i < n) : (bmask n m).setIfInBounds i true = bmask n (m ||| 1 <<< i) := by
  apply Array.ext_getElem?
  intro j
  rw [Array.getElem?_setIfInBounds, bm_get, bm_get]
  have hs : (bmask n m).size = n := by simp [bmask]
  by_cases e : i = j
  · subst e
    simp [hs, hi, Nat.testBit_or, Nat.testBit_shiftLeft]
  · rw [if_neg e]
    split
    · rw [Nat.testBit_or, Nat.testBit_shiftLeft]
      by_cases h : i ≤ j
      · have : j - i ≠ 0 := by omega
        obtain ⟨d, hd⟩ : ∃ d, j - i = d + 1 := ⟨j - i - 1, by omega⟩
        rw [hd]
        have h1 : Nat.testBit 1 (d + 1) = false := by simp [Nat.testBit_succ]
        simp [h1]
      · simp [h]
    · rfl
section
variable {P : Program} {ops : Array Oper} {Q : Exit → Act → World → Prop} {md : Region.Mode} {S : World → Prop} {fuel m m' : Nat} {a a' : Act} {w : World} {oi : Oper} {v : Value}
def pairB (md : Region.Mode) (ops : Array Oper) (i j : Nat) : Bool :=
  j == i || match ops[i]?, ops[j]? with
    | some oi, some oj => oi.after.any (fun e => Region.binds md e && e.on == j) || oj.after.any (fun e => Region.binds md e && e.on == i) || oi.apart ops oj
    | _, _ => true
def freeB (md : Region.Mode) (ops : Array Oper) : Bool := Region.noSelect ops && (List.range ops.size).all fun i => (List.range ops.size).all fun j => pairB md ops i j
def rdyN (md : Region.Mode) (ops : Array Oper) (m i : Nat) : Bool :=
  !m.testBit i && match ops[i]? with
    | some o => o.after.all fun e => !Region.binds md e || (decide (e.on < ops.size) && m.testBit e.on)
    | none => false
def readyN (md : Region.Mode) (ops : Array Oper) (m : Nat) : List Nat := (List.range ops.size).filter fun i => rdyN md ops m i
theorem rdyN_iff {i : Nat} (hi : ops[i]? = some oi) : rdyN md ops m i = true ↔ (bmask ops.size m).getD i true = false ∧ ∀ e ∈ oi.after, Region.binds md e = true → (bmask ops.size m).getD e.on false = true := by
  have hlt : i < ops.size := (Array.getElem?_eq_some_iff.1 hi).1
  unfold rdyN
  rw [hi]
  simp only [bm_getD, hlt, if_true, Bool.and_eq_true, Bool.not_eq_true', Array.all_eq_true_iff_forall_mem, Bool.or_eq_true, decide_eq_true_eq]
  constructor
  · rintro ⟨h1, h2⟩
    refine ⟨h1, fun e he hb => ?_⟩
    have h3 := (h2 e he).resolve_left (by simp [hb])
    rw [if_pos h3.1]; exact h3.2
  · rintro ⟨h1, h2⟩
    refine ⟨h1, fun e he => ?_⟩
    cases hb : Region.binds md e with
    | false => exact .inl rfl
    | true =>
      have h3 := h2 e he hb
      split at h3
      · rename_i hlt'; exact .inr ⟨hlt', h3⟩
      · cases h3
theorem readyN_eq : Region.ready md ops (bmask ops.size m) = readyN md ops m := by
  unfold Region.ready readyN
  apply List.filter_congr
  intro i hi
  rw [List.mem_range] at hi
  obtain ⟨o, ho⟩ : ∃ o, ops[i]? = some o := ⟨_, Array.getElem?_eq_getElem hi⟩
  rw [Bool.eq_iff_iff, rdyN_iff ho, ho]
  simp only [Bool.and_eq_true, Bool.not_eq_true', Option.map_some, Option.getD_some, Array.all_eq_true_iff_forall_mem, Bool.or_eq_true]
  constructor
  · rintro ⟨h1, h2⟩
    exact ⟨h1, fun e he hb => (h2 e he).resolve_left (by simp [hb])⟩
  · rintro ⟨h1, h2⟩
    refine ⟨h1, fun e he => ?_⟩
    cases hb : Region.binds md e with
    | false => exact .inl rfl
    | true => exact .inr (h2 e he hb)
theorem free_of {i : Nat} (hF : freeB md ops = true) (hi : ops[i]? = some oi) (hr : i ∈ Region.ready md ops (bmask ops.size m)) (j : Nat) (oj : Oper) (hj : ops[j]? = some oj) (hne : j ≠ i) (hun : (bmask ops.size m).getD j true = false)
    (hno : ∀ e ∈ oj.after, Region.binds md e = true → e.on ≠ i) : oi.apart ops oj = true := by
  unfold freeB at hF
  rw [Bool.and_eq_true] at hF
  have h1 := List.all_eq_true.1 (List.all_eq_true.1 hF.2 i (List.mem_range.2 (Array.getElem?_eq_some_iff.1 hi).1)) j (List.mem_range.2 (Array.getElem?_eq_some_iff.1 hj).1)
  unfold pairB at h1
  rw [hi, hj] at h1
  simp only [Bool.or_eq_true, beq_iff_eq, hne, false_or] at h1
  rcases h1 with (h1 | h1) | h1
  · obtain ⟨e, he, hb⟩ := Array.any_eq_true'.1 h1
    simp only [Bool.and_eq_true, beq_iff_eq] at hb
    obtain ⟨_, o, ho, hall⟩ := mem_ready.1 hr
    obtain rfl := Option.some.inj (ho.symm.trans hi)
    have h2 := hall e he hb.1
    rw [hb.2, bm_getD] at h2
    rw [bm_getD] at hun
    have hlt := (Array.getElem?_eq_some_iff.1 hj).1
    rw [if_pos hlt] at h2 hun
    rw [h2] at hun; cases hun
  · obtain ⟨e, he, hb⟩ := Array.any_eq_true'.1 h1
    simp only [Bool.and_eq_true, beq_iff_eq] at hb
    exact absurd hb.2 (hno e he hb.1)
  · exact h1
def WL (P : Program) (md : Region.Mode) (ops : Array Oper) (Q : Exit → Act → World → Prop) (S : World → Prop) (fuel m : Nat) (a : Act) (w : World) : Prop :=
  freeB md ops = true → ListedClosed md ops (bmask ops.size m) → wpAnyLast P md ops Q S [] fuel (bmask ops.size m) a w
def stepB (md : Region.Mode) (ops : Array Oper) (m m' i : Nat) : Bool := rdyN md ops m i && m' == m ||| 1 <<< i
theorem step_of {i : Nat} (hi : ops[i]? = some oi) (hc : stepB md ops m m' i = true) : i ∈ Region.ready md ops (bmask ops.size m) ∧ (bmask ops.size m).setIfInBounds i true = bmask ops.size m' := by
  unfold stepB at hc
  rw [Bool.and_eq_true, beq_iff_eq] at hc
  have hlt : i < ops.size := (Array.getElem?_eq_some_iff.1 hi).1
  refine ⟨mem_ready.2 ⟨((rdyN_iff hi).1 hc.1).1, oi, hi, ((rdyN_iff hi).1 hc.1).2⟩, ?_⟩
  rw [bm_set _ _ _ hlt, hc.2]
theorem stA {id n : Nat} {a : Act} {w : World} (hm : P.follows .mixedOrders = true) (hn : ops.size = n) (hS : S w.drew) (hF : freeB .any ops = true) (h : S w.drew → WL P .any ops Q S n 0 a w.drew) : (Code.region id ops true).wp P Q a w := by
  refine start_ (ds := []) (bmask ops.size 0) hm hn ?_ hS (fun s => h s hF ?_)
  · subst hn
    apply Array.ext_getElem?
    intro j
    rw [bm_get]
    by_cases hj : j < ops.size <;> simp [hj]
  · intro j oj hj hl
    rw [bm_getD] at hl
    split at hl <;> simp at hl
theorem pu (i : Nat) (N : Option Tmp) (m' : Nat) (h : WL P md ops Q S fuel m' a' w) (hi : ops[i]? = some oi := by rfl) (hN : oi.dst = N := by rfl)
    (hc : stepB md ops m m' i = true := by kernel_rfl) (hQ : ∀ c a w, Q (.panic c) (a.put oi.dst v) w → Q (.panic c) a w := by exact fun _ _ _ h => h)
    (hy : Region.wanted oi (yielded ops a.tmps) = true := by rfl) (hr : ∀ w', (execOp a.eval oi).run P w' = .ok (.value v) w' := by (intro w'; go_simp; with_reducible rfl))
    (ha : a.put N v = a' := by (simp only [Act.put, List.setIfInBounds_toArray, List.set_cons_zero, List.set_cons_succ, i64_w, i32_w]; rfl)) : WL P md ops Q S (fuel + 1) m a w := by
  intro hF hC
  obtain ⟨h1, h2⟩ := step_of hi hc
  subst ha
  subst hN
  refine wpAnyLast_any hi (Region.noSelect_spec (by unfold freeB at hF; rw [Bool.and_eq_true] at hF; exact hF.1)) hQ fuel _ a w (free_of hF hi h1) h1 (Or.inl ⟨hy, hr⟩) ?_
  rw [h2]
  exact h hF (h2 ▸ hC.set h1)
theorem sk (i : Nat) (N : Option Tmp) (m' : Nat) (h : WL P md ops Q S fuel m' a' w) (hi : ops[i]? = some oi := by rfl) (hN : oi.dst = N := by rfl)
    (hc : stepB md ops m m' i = true := by kernel_rfl) (hQ : ∀ c a w, Q (.panic c) (a.put oi.dst undef) w → Q (.panic c) a w := by exact fun _ _ _ h => h)
    (hy : Region.wanted oi (yielded ops a.tmps) = false := by rfl)
    (ha : a.put N undef = a' := by (simp only [Act.put, List.setIfInBounds_toArray, List.set_cons_zero, List.set_cons_succ, i64_w, i32_w]; rfl)) : WL P md ops Q S (fuel + 1) m a w := by
  intro hF hC
  obtain ⟨h1, h2⟩ := step_of hi hc
  subst ha
  subst hN
  refine wpAnyLast_any hi (Region.noSelect_spec (by unfold freeB at hF; rw [Bool.and_eq_true] at hF; exact hF.1)) hQ fuel _ a w (free_of hF hi h1) h1 (Or.inr ⟨hy, rfl⟩) ?_
  rw [h2]
  exact h hF (h2 ▸ hC.set h1)
theorem ld (i : Nat) (N : Option Tmp) (m' : Nat) (hS : S w) (h : WL P md ops Q S fuel m' a' w) (hi : ops[i]? = some oi := by rfl) (hN : oi.dst = N := by rfl)
    (hc : stepB md ops m m' i = true := by kernel_rfl) (hQ : ∀ c a w, Q (.panic c) (a.put oi.dst v) w → Q (.panic c) a w := by exact fun _ _ _ h => h)
    (hy : Region.wanted oi (yielded ops a.tmps) = true := by rfl) (hr : ∀ w', S w' → (execOp a.eval oi).run P w' = .ok (.value v) w' := by (intro w' h_; (repeat (obtain ⟨h0_, h_⟩ := h_)); go_simp; with_reducible rfl))
    (ha : a.put N v = a' := by (simp only [Act.put, List.setIfInBounds_toArray, List.set_cons_zero, List.set_cons_succ, i64_w, i32_w]; rfl)) : WL P md ops Q S (fuel + 1) m a w := by
  intro hF hC
  obtain ⟨h1, h2⟩ := step_of hi hc
  subst ha
  subst hN
  refine wpAnyLast_first hi (Region.noSelect_spec (by unfold freeB at hF; rw [Bool.and_eq_true] at hF; exact hF.1)) hQ ops.size fuel _ a w (free_of hF hi h1) hC (fun d hd => by cases hd) h1 (Or.inl ⟨hy, hr⟩) hS ?_
  rw [h2]
  exact h hF (h2 ▸ hC.set h1)
theorem on (i : Nat) (N : Option Tmp) (m' : Nat) (h : ∀ K : Act → World → Prop, Shut (∀ a' w', S w' → (S w' → WL P md ops Q S fuel m' a' w') → K a' w') → if Region.wanted oi (yielded ops a.tmps) = true then Oper.wp P oi a w K Q else K (a.put N undef) w)
    (hi : ops[i]? = some oi := by rfl) (hN : oi.dst = N := by rfl) (hc : (readyN md ops m == [i] && stepB md ops m m' i) = true := by kernel_rfl) : WL P md ops Q S (fuel + 1) m a w := by
  intro hF hC
  rw [Bool.and_eq_true, beq_iff_eq] at hc
  obtain ⟨h1, h2⟩ := step_of hi hc.2
  subst hN
  refine wpAnyLast_ready (by rw [readyN_eq]; exact hc.1) (by simp) (AllReadyL.cons hi (by simp) (fun K hK => h K (fun a' w' hS hW => hK.out a' w' hS (fun s => ?_))) AllReadyL.nil)
  rw [h2]
  exact hW s hF (h2 ▸ hC.set h1)
theorem nr {a0 : Act} (D : Tmp) (h : WL P md ops Q S fuel m a' w) (ha : a0.put (some D) v = a' := by (simp only [Act.put, List.setIfInBounds_toArray, List.set_cons_zero, List.set_cons_succ, i64_w, i32_w]; rfl)) : WL P md ops Q S fuel m (a0.put (some D) v) w := by
  subst ha
  exact h
theorem puA {ds : List Nat} {l : Array Bool} (i : Nat) (N : Option Tmp) (l' : Array Bool) (h : wpAnyLast P md ops Q S ds fuel l' a' w) (hi : ops[i]? = some oi := by rfl) (hN : oi.dst = N := by rfl)
    (hc : anyB md ops l l' i = true := by kernel_rfl) (hQ : ∀ c a w, Q (.panic c) (a.put oi.dst v) w → Q (.panic c) a w := by exact fun _ _ _ h => h)
    (hy : Region.wanted oi (yielded ops a.tmps) = true := by rfl) (hr : ∀ w', (execOp a.eval oi).run P w' = .ok (.value v) w' := by (intro w'; go_simp; with_reducible rfl))
    (ha : a.put N v = a' := by (simp only [Act.put, List.setIfInBounds_toArray, List.set_cons_zero, List.set_cons_succ, i64_w, i32_w]; rfl)) : wpAnyLast P md ops Q S ds (fuel + 1) l a w :=
  pure_ l' hi hN hc hQ (Or.inl ⟨hy, hr⟩) ha h
theorem taA {ds : List Nat} {l : Array Bool} (i : Nat) (N : Option Tmp) (l' : Array Bool) (hS : S w) (h : wpAnyLast P md ops Q S ds fuel l' a' w) (hi : ops[i]? = some oi := by rfl) (hN : oi.dst = N := by rfl)
    (hc : takeB md ops ds l l' i = true := by kernel_rfl) (hQ : ∀ c a w, Q (.panic c) (a.put oi.dst v) w → Q (.panic c) a w := by exact fun _ _ _ h => h)
    (hy : Region.wanted oi (yielded ops a.tmps) = true := by rfl) (hr : ∀ w', S w' → (execOp a.eval oi).run P w' = .ok (.value v) w' := by (intro w' h_; (repeat (obtain ⟨h0_, h_⟩ := h_)); go_simp; with_reducible rfl))
    (ha : a.put N v = a' := by (simp only [Act.put, List.setIfInBounds_toArray, List.set_cons_zero, List.set_cons_succ, i64_w, i32_w]; rfl)) : wpAnyLast P md ops Q S ds (fuel + 1) l a w :=
  take_ l' hi hN hc hQ (Or.inl ⟨hy, hr⟩) hS ha h
theorem nrA {ds : List Nat} {l : Array Bool} {a0 : Act} (D : Tmp) (h : wpAnyLast P md ops Q S ds fuel l a' w) (ha : a0.put (some D) v = a' := by (simp only [Act.put, List.setIfInBounds_toArray, List.set_cons_zero, List.set_cons_succ, i64_w, i32_w]; rfl)) : wpAnyLast P md ops Q S ds fuel l (a0.put (some D) v) w := by
  subst ha
  exact h
theorem dn {n : Nat} (hr : (readyN md ops m == []) = true) (h : Q .normal a w) : WL P md ops Q S n m a w := fun _ _ => done_ (by rw [readyN_eq]; exact hr) h
end
theorem xD {w W W' : World} (h : Aside0 (Below w.heap.size w W)) (hb : Below W.heap.size W W') {b : Addr} {u : Value} (hc : Aside0 (w.cell? b = some u)) : W'.cell? b = some u := pw_cell_below (below_step h.out hb) hc.out
theorem kD {W W' : World} {g : Nat} {t : TypeId} {cs : Array Value} (h : Aside0 (W.heap[g]? = some (.cells cs t (0, 0)))) (hb : Below W.heap.size W W') (j : Nat) : W'.cell? ⟨g, j, none⟩ = cs[j]? := blk_cell (blk_below h.out hb) j
end
section
open World
variable {α : Type} {d : Kd α} {e base : Nat} {ok : Nat → Prop} {w W : World} {v : Value} {xs : List α} {g g' n : Nat} {t : TypeId}
theorem alloc2 (w : World) (a b : Obj) : ((w.alloc a).alloc b).heap[w.heap.size]? = some a ∧ ((w.alloc a).alloc b).heap[w.heap.size + 1]? = some b := by
  have h2 := heap_alloc_new (w.alloc a) b
  have s1 : (w.alloc a).heap.size = w.heap.size + 1 := by simp
  rw [s1] at h2
  exact ⟨blk_alloc (heap_alloc_new w a) _, h2⟩
theorem alloc3 (w : World) (a b c : Obj) : (((w.alloc a).alloc b).alloc c).heap[w.heap.size]? = some a ∧ (((w.alloc a).alloc b).alloc c).heap[w.heap.size + 1]? = some b ∧ (((w.alloc a).alloc b).alloc c).heap[w.heap.size + 1 + 1]? = some c := by
  obtain ⟨h1, h2⟩ := alloc2 w a b
  have h3 := heap_alloc_new ((w.alloc a).alloc b) c
  have s2 : ((w.alloc a).alloc b).heap.size = w.heap.size + 1 + 1 := by simp
  rw [s2] at h3
  exact ⟨blk_alloc h1 _, blk_alloc h2 _, h3⟩
theorem blk_sets : ∀ (vs pre rest : List Value) (w : World), w.heap[g]? = some (.cells (pre ++ rest).toArray t (0, 0)) → vs.length = rest.length → (w.setCells g pre.length vs).heap[g]? = some (.cells (pre ++ vs).toArray t (0, 0))
  | [], pre, [], w, h, _ => h
  | v :: vs, pre, x :: rest, w, h, hl => by
    have h2 := blk_set h pre.length v
    rw [List.setIfInBounds_toArray, List.set_append_right _ _ (Nat.le_refl _), Nat.sub_self, List.set_cons_zero] at h2
    have h3 := blk_sets vs (pre ++ [v]) rest (w.setCell ⟨g, pre.length, none⟩ v) (by rw [List.append_assoc]; exact h2) (by simpa using hl)
    rw [List.length_append, List.length_singleton, List.append_assoc] at h3
    exact h3
  | [], _, _ :: _, _, _, hl => by simp at hl
  | _ :: _, _, [], _, _, hl => by simp at hl
theorem blk_sets0 {rest : List Value} (h : w.heap[g]? = some (.cells rest.toArray t (0, 0))) (vs : List Value) (hl : vs.length = rest.length) : (w.setCells g 0 vs).heap[g]? = some (.cells vs.toArray t (0, 0)) := blk_sets vs [] rest w h hl
theorem heap_sets (hg : g ≠ g') : ∀ (vs : List Value) (o : Nat) (w : World), (w.setCells g' o vs).heap[g]? = w.heap[g]?
  | [], _, _ => rfl
  | v :: vs, o, w => by rw [World.setCells, heap_sets hg vs (o + 1)]; exact Below.heap_setCell w ⟨g', o, none⟩ v g hg
theorem R_sets (h : d.R e w base ok v xs) (hok : ∀ k, ok k → k ≠ g) (vs : List Value) (o : Nat) : d.R e (w.setCells g o vs) base ok v xs := R_step h (fun k hk _ => heap_sets (hok k hk) vs o w)
theorem below_sets (hg : n ≤ g) : ∀ (vs : List Value) (o : Nat) (W : World), Below n w W → Below n w (W.setCells g o vs)
  | [], _, _, h => h
  | v :: vs, o, W, h => by rw [World.setCells]; exact below_sets hg vs (o + 1) _ (h.setCell hg _)
theorem R_above (h : d.R e W (w.heap.size) ok v xs) (hb : base ≤ w.heap.size) (hn : n ≤ w.heap.size) : d.R e W base (fun k => n ≤ k) v xs := R_mono (R_lower (R_bound h) hb) (fun _ hk => Nat.le_trans hn hk.2.1)
theorem R_fill {c : Nat} (h : d.R e w base (fun _ => True) (.slice (some ⟨g, 0, none⟩) n c) xs) (hb : Below w.heap.size w W) {i : Int} (h0 : 0 ≤ i) (h1 : i < n) (z : α) {x' : α} {seg : List Value} (m : Nat) (hm : d.sz = m) (hl : seg.length = m) (hg : g < w.heap.size)
    (hM : d.M W base (fun k => w.heap.size ≤ k) x' seg) :
    (∀ j, j < m → ∃ u, W.cell? ⟨g, i.toNat * m + j, none⟩ = some u) ∧ (∀ j, W.frozen? ⟨g, i.toNat * m + j, none⟩ = false) ∧ d.R e (W.setCells g (i.toNat * m) seg) base (fun _ => True) (.slice (some ⟨g, 0, none⟩) n c) (xs.set i.toNat x') := by
  subst hm
  have h2 := R_below h hb
  obtain ⟨ce, hcl, -, hcc, hfr⟩ := R_elem h2 z i h0 h1
  refine ⟨fun j hj => ⟨ce[j]'(by omega), hcc j _ (List.getElem?_eq_getElem (by omega))⟩, hfr, ?_⟩
  have h3 := (R_seg h2 i h0 h1 (j := 0) (seg := seg) hcl hcc (by omega) (x' := x') (okp := fun k => w.heap.size ≤ k) (by
    have e1 : ce.drop (0 + seg.length) = [] := List.drop_eq_nil_of_le (by omega)
    rw [e1, List.take_zero, List.nil_append, List.append_nil]; exact hM) (fun k hk => ⟨trivial, by omega⟩)).1
  exact h3
end
end Go.Proofs.YtmgfklmhelabcaaGreatM
namespace Go.Proofs.YtmgfklmhelabcaaGreatW.PrintWords
open Go.RowKit
theorem ifN {β : Type} {p : Prop} {dp : Decidable p} {a : Option β} {r : β} (h : (if p then a else none) = some r) : p ∧ a = some r := by
  by_cases hp : p
  · rw [if_pos hp] at h; exact ⟨hp, h⟩
  · rw [if_neg hp] at h; cases h
theorem ifD {β : Type} {p : Prop} {dp : Decidable p} {a b r : β} (h : (if p then a else b) = r) : (p ∧ a = r) ∨ (¬ p ∧ b = r) := by
  by_cases hp : p
  · rw [if_pos hp] at h; exact Or.inl ⟨hp, h⟩
  · rw [if_neg hp] at h; exact Or.inr ⟨hp, h⟩
theorem obs {α β : Type} {a : Option α} {f : α → Option β} {r : β} (h : a.bind f = some r) : ∃ x, a = some x ∧ f x = some r := Option.bind_eq_some_iff.mp h
theorem d3T {a b : Int} (h : a = b) : decide (a = b) = true ∧ (a == b) = true ∧ (a != b) = false := ⟨decide_eq_true h, beq_iff_eq.mpr h, bne_eq_false_iff_eq.mpr h⟩
theorem d3F {a b : Int} (h : ¬ a = b) : decide (a = b) = false ∧ (a == b) = false ∧ (a != b) = true := ⟨decide_eq_false h, beq_eq_false_iff_ne.mpr h, bne_iff_ne.mpr h⟩
theorem bcl {w : World} {g : Nat} {t : TypeId} {cs : Array Value} (h : Aside0 (w.heap[g]? = some (.cells cs t (0, 0)))) (i : Nat) : w.cell? ⟨g, i, none⟩ = cs[i]? := blk_cell h.out i
theorem bfr {w : World} {g : Nat} {t : TypeId} {cs : Array Value} (h : Aside0 (w.heap[g]? = some (.cells cs t (0, 0)))) (i : Nat) : w.frozen? ⟨g, i, none⟩ = false := blk_frozen h.out i
theorem nT {b : Bool} (h : ¬ b = true) : b = false := (Bool.not_eq_true _).mp h
theorem zB {P : Prop} (h : P := by repeat (first | (with_reducible first | exact HB.out | apply below_alloc | apply pw_below_drewN | apply below_drew1 | refine below_set ?_ (Aside0.out (by with_reducible assumption))) | exact HB.out)) : P := h
theorem zX {W W' : World} {g : Nat} {o : Obj} (h : Aside0 (W.heap[g]? = some o)) (hb : Below W.heap.size W W' := by (with_reducible repeat (first | exact Below.refl _ _ | apply below_alloc | apply pw_below_drewN | apply below_drew1))) : W'.heap[g]? = some o := blk_below h.out hb
section
variable {α : Type} {d : Kd α} {e base : Nat} {ok : Nat → Prop} {W W' : World} {v : Value} {xs : List α}
theorem zR (h : Aside0 (d.R e W base ok v xs)) (hb : Below W.heap.size W W' := by (with_reducible repeat (first | exact Below.refl _ _ | apply below_alloc | apply pw_below_drewN | apply below_drew1))) : d.R e W' base ok v xs := Kd.R_below h.out hb
end
theorem zF {P : Prop} (h : P := by (with_reducible repeat (first | refine blk_drewN ?_ _ | refine blk_drew ?_ | refine blk_alloc ?_ _ | refine blk_far ?_ (Aside0.out (by with_reducible assumption)) _)); exact Aside0.out (by with_reducible assumption)) : P := h
theorem putv {w : World} {g : Nat} {o1 o2 : Option Obj} (h : w.heap[g]? = o1) (e : o1 = o2) : w.heap[g]? = o2 := h.trans e
theorem farv {w : World} {g : Nat} {o1 : Option Obj} (h : w.heap[g]? = o1) {p : Addr} (hp : g ≠ p.block) (u : Value) : (w.setCell p u).heap[g]? = o1 := (Below.heap_setCell w p u g hp).trans h
theorem zP {P : Prop} (h : P := by (apply putv; (with_reducible repeat (first | refine blk_drewN ?_ _ | refine blk_drew ?_ | refine blk_alloc ?_ _ | refine farv ?_ (Aside0.out (by with_reducible assumption)) _ | apply blk_set)); exact Aside0.out (by with_reducible assumption); rfl)) : P := h
theorem zM {P : Prop} (h : P := by ((try simp only [List.map_toArray, List.map_cons, List.map_nil]); first | done | rfl | (simp only [List.length_drop, List.length_take]; rfl))) : P := h
theorem zE {P : Prop} (h : P := by first | rfl | (simp [errW_none, errW_some] <;> rfl) | (simp [*, errW_none, errW_some] <;> rfl)) : P := h
theorem zT {P : Prop} (h : P := by first | rfl | (simp; done) | (simp [*]; done)) : P := h
theorem zA {P : Prop} (h : P := by first | (with_reducible assumption) | assumption) : P := h
end Go.Proofs.YtmgfklmhelabcaaGreatW.PrintWords
