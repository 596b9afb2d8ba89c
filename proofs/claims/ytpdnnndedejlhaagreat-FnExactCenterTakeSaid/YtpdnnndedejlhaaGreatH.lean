import Derived.Test.YtpdnnndedejlhaaGreatWWords
import Derived.Test.YtpdnnndedejlhaaGreatWMore
/- What library functions that take a function value compute, over lists: the first index, whether there is one. -/
namespace Go.Proofs.YtpdnnndedejlhaaGreatH
open Go.RowKit Go.Proofs.YtpdnnndedejlhaaGreatW.PrintWords
set_option linter.unusedVariables false
def idxO {α : Type} (p : α → Option Bool) : List α → Int → Option Int
  | [], _ => some (-1)
  | x :: xs, i => (p x).bind fun b => if b = true then some i else idxO p xs (i + 1)
def allO {α β : Type} (p : α → β → Option Bool) : List α → List β → Option Bool
  | x :: xs, y :: ys => (p x y).bind fun b => if b = true then allO p xs ys else some false
  | _, _ => some true
def eqO {α β : Type} (p : α → β → Option Bool) (l : List α) (m : List β) : Option Bool := if l.length = m.length then allO p l m else some false
end Go.Proofs.YtpdnnndedejlhaaGreatH
