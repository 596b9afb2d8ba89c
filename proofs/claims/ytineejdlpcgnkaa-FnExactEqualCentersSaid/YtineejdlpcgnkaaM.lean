import Derived.Test.YtineejdlpcgnkaaWLast
import Derived.Test.YtineejdlpcgnkaaWApart
import Derived.Test.YtineejdlpcgnkaaWKept
import Derived.Test.YtineejdlpcgnkaaWMore
import Derived.Test.YtineejdlpcgnkaaWQPut
/- Rows whose elements lead to rows of their own, written element by element; and facts of rows told by the interval of blocks that they lie in. -/
namespace Go.Proofs.YtineejdlpcgnkaaM
open Go.RowKit Go.Proofs.YtineejdlpcgnkaaW.PrintWords Go.Proofs.YtineejdlpcgnkaaW.PrintWords.Kd
set_option linter.unusedVariables false
section
variable {α : Type} {d : Kd α} {e g n cap base : Nat} {ok oki : Nat → Prop} {W w2 : World} {xs : List α} {i : Int} {c c' : List Value} {x' : α}
end
section
variable {α : Type} {d : Kd α} {e n c base lo hi lo' hi' : Nat} {ok : Nat → Prop} {w0 w w1 : World} {A : Option Addr} {v : Value} {xs : List α}
theorem S_len (h : S d e w base ok (.slice A n c) xs) : xs.length ≤ c := by have h_ := S_reads' h; rw [← h_.1]; exact h_.2.1
theorem R_len (h : d.R e w base ok (.slice A n c) xs) : xs.length ≤ c := by have h_ := R_reads' h; rw [← h_.1]; exact h_.2.1
theorem S_C (h : S d e w base ok (.slice A n c) xs) : d.C w A xs.length xs := (S_reads' h).2.2
theorem R_C (h : d.R e w base ok (.slice A n c) xs) : d.C w A xs.length xs := (R_reads' h).2.2
theorem S_n (h : S d e w base ok (.slice A n c) xs) : xs.length = n := (S_reads' h).1.symm
theorem R_n (h : d.R e w base ok (.slice A n c) xs) : xs.length = n := (R_reads' h).1.symm
/-- What a call made lies between the worlds' sizes. -/
theorem S_made (h : S d e w1 w.heap.size ok v xs) (hb : w0.heap.size ≤ w.heap.size) : ∃ A n c, v = .slice A n c ∧ n = xs.length ∧ S d e w1 w0.heap.size (fun k_ => w.heap.size ≤ k_ ∧ k_ < w1.heap.size) (.slice A n c) xs := by
  obtain ⟨A, c, rfl, _, _⟩ := S_reads h
  exact ⟨A, _, c, rfl, rfl, S_mono (S_lower (S_bound h) hb) (fun _ h_ => ⟨h_.2.1, h_.2.2.1⟩)⟩
theorem R_made (h : d.R e w1 w.heap.size ok v xs) (hb : w0.heap.size ≤ w.heap.size) : ∃ A n c, v = .slice A n c ∧ n = xs.length ∧ d.R e w1 w0.heap.size (fun k_ => w.heap.size ≤ k_ ∧ k_ < w1.heap.size) (.slice A n c) xs := by
  obtain ⟨A, c, rfl, _, _⟩ := R_reads h
  exact ⟨A, _, c, rfl, rfl, R_mono (R_lower (R_bound h) hb) (fun _ h_ => ⟨h_.2.1, h_.2.2.1⟩)⟩
/-- An empty row: what its value leads to is never looked at. -/
def Em (A : Option Addr) (n c : Nat) (xs : List α) : Prop := xs = [] ∧ n = 0
end
section
variable {P : Program} {ops : Array Oper} {rest : List Oper} {o : Oper} {a : Act} {Q : Exit → Act → World → Prop} {Kc : Act → World → Prop} {α : Type}
end
section
variable {P : Program} {ops : Array Oper} {rest : List Oper} {o : Oper} {a : Act} {Q : Exit → Act → World → Prop} {α : Type}
end
/-! Short words for the compact walk (cw.py). -/
section
variable {α : Type} {d : Kd α} {e base : Nat} {ok : Nat → Prop} {w W W1 : World} {v : Value} {xs : List α} {g N : Nat} {o : Obj}
theorem bH (h : Aside0 (Below w.heap.size w W)) (hb : Below W.heap.size W W1) : Aside0 (Below w.heap.size w W1) := ⟨below_step h.out hb⟩
theorem bK (h : Aside0 (W.heap[g]? = some o)) (hb : Below W.heap.size W W1) : Aside0 (W1.heap[g]? = some o) := ⟨blk_below h.out hb⟩
theorem dH (h : Aside0 (Below w.heap.size w W)) : Aside0 (Below w.heap.size w W.drew) := ⟨below_drew1 h.out⟩
theorem dK (h : Aside0 (W.heap[g]? = some o)) : Aside0 (W.drew.heap[g]? = some o) := ⟨blk_drew h.out⟩
theorem qH (h : Aside0 (Below w.heap.size w W)) (n : Nat) : Aside0 (Below w.heap.size w (W.drewN n)) := ⟨pw_below_drewN h.out n⟩
theorem qK (h : Aside0 (W.heap[g]? = some o)) (n : Nat) : Aside0 ((W.drewN n).heap[g]? = some o) := ⟨blk_drewN h.out n⟩
theorem xC (h : Aside0 (Below w.heap.size w W)) {a : Addr} {u : Value} (hc : Aside0 (w.cell? a = some u)) : W.cell? a = some u := pw_cell_below h.out hc.out
theorem bSet (hb : Below N W W1) (hg : N ≤ g) {j : Nat} {u : Value} : Below N W (W1.setCell ⟨g, j, none⟩ u) := hb.setCell hg _
theorem decT {p : Prop} [Decidable p] (h : p) : decide p = true := decide_eq_true h
theorem decF {p : Prop} [Decidable p] (h : ¬ p) : decide p = false := decide_eq_false h
theorem eqT {a b : Int} (h : a = b) : (a == b) = true := beq_iff_eq.mpr h
theorem eqF {a b : Int} (h : ¬ a = b) : (a == b) = false := beq_eq_false_iff_ne.mpr h
theorem neT {a b : Int} (h : a = b) : (a != b) = false := bne_eq_false_iff_eq.mpr h
theorem neF {a b : Int} (h : ¬ a = b) : (a != b) = true := bne_iff_ne.mpr h
end
/-! Steps of a region that draws its order, in short. -/
section
open Go.Proofs.YtineejdlpcgnkaaW.PrintLast
def bits (n m : Nat) : Array Bool := ((List.range n).map fun i => m.testBit i).toArray
variable {P : Program} {ops : Array Oper} {Q : Exit → Act → World → Prop} {md : Region.Mode} {S : World → Prop} {ds : List Nat} {fuel : Nat} {l : Array Bool} {a a' : Act} {w : World} {oi : Oper} {v : Value}
/-- An operation that yields in every world. -/
theorem pu (i : Nat) (N : Option Tmp) (m : Nat) (h : wpAnyLast P md ops Q S ds fuel (bits ops.size m) a' w) (hi : ops[i]? = some oi := by rfl) (hN : oi.dst = N := by rfl)
    (hc : anyB md ops l (bits ops.size m) i = true := by kernel_rfl) (hQ : ∀ c a w, Q (.panic c) (a.put oi.dst v) w → Q (.panic c) a w := by exact fun _ _ _ h => h)
    (hy : Region.wanted oi (yielded ops a.tmps) = true := by rfl) (hr : ∀ w', (execOp a.eval oi).run P w' = .ok (.value v) w' := by (intro w'; go_simp; with_reducible rfl))
    (ha : a.put N v = a' := by (simp only [Act.put, List.setIfInBounds_toArray, List.set_cons_zero, List.set_cons_succ, i64_w, i32_w]; rfl)) : wpAnyLast P md ops Q S ds (fuel + 1) l a w :=
  pure_ (bits ops.size m) hi hN hc hQ (Or.inl ⟨hy, hr⟩) ha h
/-- An operation that is left out. -/
theorem sk (i : Nat) (N : Option Tmp) (m : Nat) (h : wpAnyLast P md ops Q S ds fuel (bits ops.size m) a' w) (hi : ops[i]? = some oi := by rfl) (hN : oi.dst = N := by rfl)
    (hc : anyB md ops l (bits ops.size m) i = true := by kernel_rfl) (hQ : ∀ c a w, Q (.panic c) (a.put oi.dst undef) w → Q (.panic c) a w := by exact fun _ _ _ h => h)
    (hy : Region.wanted oi (yielded ops a.tmps) = false := by rfl)
    (ha : a.put N undef = a' := by (simp only [Act.put, List.setIfInBounds_toArray, List.set_cons_zero, List.set_cons_succ, i64_w, i32_w]; rfl)) : wpAnyLast P md ops Q S ds (fuel + 1) l a w :=
  pure_ (bits ops.size m) hi hN hc hQ (Or.inr ⟨hy, rfl⟩) ha h
/-- A load: by what is held. -/
theorem ld (i : Nat) (N : Option Tmp) (m : Nat) (hS : S w) (h : wpAnyLast P md ops Q S ds fuel (bits ops.size m) a' w) (hi : ops[i]? = some oi := by rfl) (hN : oi.dst = N := by rfl)
    (hc : takeB md ops ds l (bits ops.size m) i = true := by kernel_rfl) (hQ : ∀ c a w, Q (.panic c) (a.put oi.dst v) w → Q (.panic c) a w := by exact fun _ _ _ h => h)
    (hy : Region.wanted oi (yielded ops a.tmps) = true := by rfl) (hr : ∀ w', S w' → (execOp a.eval oi).run P w' = .ok (.value v) w' := by (intro w' h_; (repeat (obtain ⟨h0_, h_⟩ := h_)); go_simp; with_reducible rfl))
    (ha : a.put N v = a' := by (simp only [Act.put, List.setIfInBounds_toArray, List.set_cons_zero, List.set_cons_succ, i64_w, i32_w]; rfl)) : wpAnyLast P md ops Q S ds (fuel + 1) l a w :=
  take_ (bits ops.size m) hi hN hc hQ (Or.inl ⟨hy, hr⟩) hS ha h
end
end Go.Proofs.YtineejdlpcgnkaaM
