import Derived.Test.YtpdnnndedejlhaaGreatWWords
import Derived.ChangeArms
import Derived.ChangeSlices
import Derived.ChangeOld
import Derived.DataElems
/- What a law's parameter reads as, kind by kind: a struct, a slice, a tree of structs that came in is one value of its kind. -/
namespace Go.Proofs.YtpdnnndedejlhaaGreatO
open Go.Proofs.YtpdnnndedejlhaaGreatW.PrintWords Go.RowKit
set_option linter.unusedVariables false
variable {P : Program} {α β : Type}
def Opens (P : Program) (t : TypeId) {α : Type} (d : Kd α) (G : α → Prop) (n : Nat) : Prop :=
  ∀ (H : Type) (enc : TypeId × Value → H) (w : World) (base : Nat) (sp : Nat → Bool) (held : Bool) (cs : List Value) (y : DataW H × List MemPlace), DataW.trod enc P w base sp held n t cs = some y → ∃ x, d.K w x cs ∧ G x
def FieldsOpen (P : Program) (fs : List Field) (off : Nat) {α : Type} (d : Kd α) (G : α → Prop) (m : Nat) : Prop :=
  ∀ (H : Type) (enc : TypeId × Value → H) (w : World) (base : Nat) (sp : Nat → Bool) (held : Bool) (cs : List Value), (∀ f ∈ fs, ∃ y, DataW.trod enc P w base sp held m f.type ((cs.drop f.offset).take (P.cellsOf f.type)) = some y) → ∃ x, d.K w x ((cs.drop off).take d.sz) ∧ G x
end Go.Proofs.YtpdnnndedejlhaaGreatO
