import Derived.Test.YtmgfklmhelabcaaGreatWWords
import Derived.Test.YtmgfklmhelabcaaGreatWMore
/- What library functions that take a function value compute, over lists: the first index, whether there is one. -/
namespace Go.Proofs.YtmgfklmhelabcaaGreatH
open Go.RowKit Go.Proofs.YtmgfklmhelabcaaGreatW.PrintWords
set_option linter.unusedVariables false
def idxO {α : Type} (p : α → Option Bool) : List α → Int → Option Int
  | [], _ => some (-1)
  | x :: xs, i => (p x).bind fun b => if b = true then some i else idxO p xs (i + 1)
def allO {α β : Type} (p : α → β → Option Bool) : List α → List β → Option Bool
  | x :: xs, y :: ys => (p x y).bind fun b => if b = true then allO p xs ys else some false
  | _, _ => some true
def eqO {α β : Type} (p : α → β → Option Bool) (l : List α) (m : List β) : Option Bool := if l.length = m.length then allO p l m else some false
theorem drop_get {α : Type} {l : List α} {i : Int} {z : α} (h0 : 0 ≤ i) (hl : i < (l.length : Int)) : l.drop i.toNat = l.getD i.toNat z :: l.drop (i + 1).toNat := by
  rw [List.drop_eq_getElem_cons (show i.toNat < l.length by omega), List.getD_eq_getElem?_getD, List.getElem?_eq_getElem (by omega), show (i + 1).toNat = i.toNat + 1 by omega]
  rfl
theorem idxO_at {α : Type} {p : α → Option Bool} {l : List α} {i r : Int} {z : α} (h : idxO p (l.drop i.toNat) i = some r) (h0 : 0 ≤ i) (hl : i < (l.length : Int)) : ∃ b, p (l.getD i.toNat z) = some b ∧ (b = true → i = r) ∧ (b = false → idxO p (l.drop (i + 1).toNat) (i + 1) = some r) := by
  rw [drop_get (z := z) h0 hl] at h
  obtain ⟨b, hb, h⟩ := Option.bind_eq_some_iff.mp h
  refine ⟨b, hb, fun e => ?_, fun e => ?_⟩
  · rw [if_pos e] at h; exact Option.some.inj h
  · subst e; simpa using h
theorem idxO_end {α : Type} {p : α → Option Bool} {l : List α} {i r : Int} (h : idxO p (l.drop i.toNat) i = some r) (hi : i ≤ (l.length : Int)) (hl : ¬ i < (l.length : Int)) : -1 = r := by
  rw [show i = (l.length : Int) by omega, Int.toNat_natCast, List.drop_length] at h
  exact Option.some.inj h
theorem enters {P : Program} {f : FuncId} {fn : Func} {c : Code} (hf : P.funcs[f]? = some fn) (hname : (fn.name == "runtime.NumGoroutine") = false) (hb : fn.body = some c) : ∀ (args : Array Value) (w : World), (callFunc f args).run P w = .ok (.enter f args) w := by
  intro args w
  have h1 : fn.name ≠ "runtime.NumGoroutine" := by simpa using hname
  simp [callFunc, hf, h1, hb, mark]
theorem wrap_up {x : Int} {n : Nat} (h0 : 0 ≤ x) (h : x < (n : Int)) (hn : n ≤ 9223372036854775807) : wrap64 (x + 1) = x + 1 := by unfold wrap64; omega
end Go.Proofs.YtmgfklmhelabcaaGreatH
