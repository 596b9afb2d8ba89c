/- The machine side of FnDelegated: what each function that it reaches computes, and that the machine's call gives just that. -/
import Derived.Test.YtplfbjbbnjlnkaaQFnDelegatedx0
import Derived.Test.YtplfbjbbnjlnkaaQFnDelegatedx1
import Derived.Test.YtplfbjbbnjlnkaaQFnDelegatedx3
import Derived.Test.YtplfbjbbnjlnkaaQFnDelegatedx7
namespace Go.Proofs.Ytplfbjbbnjlnkaa.QFnDelegated
open Go.RowKit Go.Proofs.YtplfbjbbnjlnkaaW.PrintWords Go.Proofs.YtplfbjbbnjlnkaaW.PrintLast Go.Proofs.YtplfbjbbnjlnkaaW.PrintMore
attribute [local go_sem] max2_int min2_int max_two min_two max_three min_three max_four min_four   -- for this text's walks alone
set_option linter.unusedVariables false
set_option linter.unusedSimpArgs false

/-! ### laws_FnDelegated: function 8 -/
abbrev b1_0 : Array Bool := #[false, false, false, false, false, false, false, false, false, false, false, false, false, false, false, false, false, false, false, false, false, false, false, false, false, false, false, false, false, false, false, false, false, false]
abbrev b1_1 : Array Bool := #[true, false, false, false, false, false, false, false, false, false, false, false, false, false, false, false, false, false, false, false, false, false, false, false, false, false, false, false, false, false, false, false, false, false]
abbrev b1_2 : Array Bool := #[true, true, false, false, false, false, false, false, false, false, false, false, false, false, false, false, false, false, false, false, false, false, false, false, false, false, false, false, false, false, false, false, false, false]
abbrev b1_3 : Array Bool := #[true, true, true, false, false, false, false, false, false, false, false, false, false, false, false, false, false, false, false, false, false, false, false, false, false, false, false, false, false, false, false, false, false, false]
abbrev b1_4 : Array Bool := #[true, true, true, true, false, false, false, false, false, false, false, false, false, false, false, false, false, false, false, false, false, false, false, false, false, false, false, false, false, false, false, false, false, false]
abbrev b1_5 : Array Bool := #[true, true, true, true, false, true, false, false, false, false, false, false, false, false, false, false, false, false, false, false, false, false, false, false, false, false, false, false, false, false, false, false, false, false]
abbrev b1_6 : Array Bool := #[true, true, true, true, true, false, false, false, false, false, false, false, false, false, false, false, false, false, false, false, false, false, false, false, false, false, false, false, false, false, false, false, false, false]
abbrev b1_7 : Array Bool := #[true, true, true, true, true, true, false, false, false, false, false, false, false, false, false, false, false, false, false, false, false, false, false, false, false, false, false, false, false, false, false, false, false, false]
abbrev b1_8 : Array Bool := #[true, true, true, true, true, true, true, false, false, false, false, false, false, false, false, false, false, false, false, false, false, false, false, false, false, false, false, false, false, false, false, false, false, false]
abbrev b1_9 : Array Bool := #[true, true, true, true, true, true, true, true, false, false, false, false, false, false, false, false, false, false, false, false, false, false, false, false, false, false, false, false, false, false, false, false, false, false]
abbrev b1_10 : Array Bool := #[true, true, true, true, true, true, true, true, true, false, false, false, false, false, false, false, false, false, false, false, false, false, false, false, false, false, false, false, false, false, false, false, false, false]
abbrev b1_11 : Array Bool := #[true, true, true, true, true, true, true, true, true, true, false, false, false, false, false, false, false, false, false, false, false, false, false, false, false, false, false, false, false, false, false, false, false, false]
abbrev b1_12 : Array Bool := #[true, true, true, true, true, true, true, true, true, true, false, true, false, false, false, false, false, false, false, false, false, false, false, false, false, false, false, false, false, false, false, false, false, false]
abbrev b1_13 : Array Bool := #[true, true, true, true, true, true, true, true, true, true, true, false, false, false, false, false, false, false, false, false, false, false, false, false, false, false, false, false, false, false, false, false, false, false]
abbrev b1_14 : Array Bool := #[true, true, true, true, true, true, true, true, true, true, true, true, false, false, false, false, false, false, false, false, false, false, false, false, false, false, false, false, false, false, false, false, false, false]
abbrev b1_15 : Array Bool := #[true, true, true, true, true, true, true, true, true, true, true, true, true, false, false, false, false, false, false, false, false, false, false, false, false, false, false, false, false, false, false, false, false, false]
abbrev b1_16 : Array Bool := #[true, true, true, true, true, true, true, true, true, true, true, true, true, true, false, false, false, false, false, false, false, false, false, false, false, false, false, false, false, false, false, false, false, false]
abbrev b1_17 : Array Bool := #[true, true, true, true, true, true, true, true, true, true, true, true, true, true, true, false, false, false, false, false, false, false, false, false, false, false, false, false, false, false, false, false, false, false]
abbrev b1_18 : Array Bool := #[true, true, true, true, true, true, true, true, true, true, true, true, true, true, true, true, false, false, false, false, false, false, false, false, false, false, false, false, false, false, false, false, false, false]
abbrev b1_19 : Array Bool := #[true, true, true, true, true, true, true, true, true, true, true, true, true, true, true, true, true, false, false, false, false, false, false, false, false, false, false, false, false, false, false, false, false, false]
abbrev b1_20 : Array Bool := #[true, true, true, true, true, true, true, true, true, true, true, true, true, true, true, true, true, true, false, false, false, false, false, false, false, false, false, false, false, false, false, false, false, false]
abbrev b1_21 : Array Bool := #[true, true, true, true, true, true, true, true, true, true, true, true, true, true, true, true, true, true, true, false, false, false, false, false, false, false, false, false, false, false, false, false, false, false]
abbrev b1_22 : Array Bool := #[true, true, true, true, true, true, true, true, true, true, true, true, true, true, true, true, true, true, true, true, false, false, false, false, false, false, false, false, false, false, false, false, false, false]
abbrev b1_23 : Array Bool := #[true, true, true, true, true, true, true, true, true, true, true, true, true, true, true, true, true, true, true, true, false, true, false, false, false, false, false, false, false, false, false, false, false, false]
abbrev b1_24 : Array Bool := #[true, true, true, true, true, true, true, true, true, true, true, true, true, true, true, true, true, true, true, true, false, true, true, false, false, false, false, false, false, false, false, false, false, false]
abbrev b1_25 : Array Bool := #[true, true, true, true, true, true, true, true, true, true, true, true, true, true, true, true, true, true, true, true, false, true, true, true, false, false, false, false, false, false, false, false, false, false]
abbrev b1_26 : Array Bool := #[true, true, true, true, true, true, true, true, true, true, true, true, true, true, true, true, true, true, true, true, false, true, true, true, true, false, false, false, false, false, false, false, false, false]
abbrev b1_27 : Array Bool := #[true, true, true, true, true, true, true, true, true, true, true, true, true, true, true, true, true, true, true, true, false, true, true, true, true, true, false, false, false, false, false, false, false, false]
abbrev b1_28 : Array Bool := #[true, true, true, true, true, true, true, true, true, true, true, true, true, true, true, true, true, true, true, true, true, false, false, false, false, false, false, false, false, false, false, false, false, false]
abbrev b1_29 : Array Bool := #[true, true, true, true, true, true, true, true, true, true, true, true, true, true, true, true, true, true, true, true, true, true, false, false, false, false, false, false, false, false, false, false, false, false]
abbrev b1_30 : Array Bool := #[true, true, true, true, true, true, true, true, true, true, true, true, true, true, true, true, true, true, true, true, true, true, true, false, false, false, false, false, false, false, false, false, false, false]
abbrev b1_31 : Array Bool := #[true, true, true, true, true, true, true, true, true, true, true, true, true, true, true, true, true, true, true, true, true, true, true, true, false, false, false, false, false, false, false, false, false, false]
abbrev b1_32 : Array Bool := #[true, true, true, true, true, true, true, true, true, true, true, true, true, true, true, true, true, true, true, true, true, true, true, true, true, false, false, false, false, false, false, false, false, false]
abbrev b1_33 : Array Bool := #[true, true, true, true, true, true, true, true, true, true, true, true, true, true, true, true, true, true, true, true, true, true, true, true, true, true, false, false, false, false, false, false, false, false]
abbrev b1_34 : Array Bool := #[true, true, true, true, true, true, true, true, true, true, true, true, true, true, true, true, true, true, true, true, true, true, true, true, true, true, true, false, false, false, false, false, false, false]
abbrev b1_35 : Array Bool := #[true, true, true, true, true, true, true, true, true, true, true, true, true, true, true, true, true, true, true, true, true, true, true, true, true, true, true, true, false, false, false, false, false, false]
abbrev b1_36 : Array Bool := #[true, true, true, true, true, true, true, true, true, true, true, true, true, true, true, true, true, true, true, true, true, true, true, true, true, true, true, true, true, false, false, false, false, false]
abbrev b1_37 : Array Bool := #[true, true, true, true, true, true, true, true, true, true, true, true, true, true, true, true, true, true, true, true, true, true, true, true, true, true, true, true, true, true, false, false, false, false]
abbrev b1_38 : Array Bool := #[true, true, true, true, true, true, true, true, true, true, true, true, true, true, true, true, true, true, true, true, true, true, true, true, true, true, true, true, true, true, true, false, false, false]
abbrev b1_39 : Array Bool := #[true, true, true, true, true, true, true, true, true, true, true, true, true, true, true, true, true, true, true, true, true, true, true, true, true, true, true, true, true, true, true, true, false, false]
abbrev b1_40 : Array Bool := #[true, true, true, true, true, true, true, true, true, true, true, true, true, true, true, true, true, true, true, true, true, true, true, true, true, true, true, true, true, true, true, true, true, false]
abbrev b1_41 : Array Bool := #[true, true, true, true, true, true, true, true, true, true, true, true, true, true, true, true, true, true, true, true, true, true, true, true, true, true, true, true, true, true, true, true, true, true]
mutual
def laws_FnDelegated.j0 : Nat → List (S51) → Int → Int → Int → Int → List Int → Bool → Option (Bool)
 | 0, _, _, _, _, _, _, _ => none
 | k + 1, x3, x4, x5, x6, x7, x9, x73 => if x73 = true then (some false) else (laws_FnDelegated.l0 k x3 x4 x5 x6 x7 x9 0)
def laws_FnDelegated.l0 : Nat → List (S51) → Int → Int → Int → Int → List Int → Int → Option (Bool)
 | 0, _, _, _, _, _, _, _ => none
 | k + 1, x3, x4, x5, x6, x7, x9, x10 => if x10 < (x9.length : Int) then (if 0 ≤ x10 then (if 0 ≤ (wrap64 ((rd x9 x10) - 1)) then (if (wrap64 ((rd x9 x10) - 1)) < (x3.length : Int) then (if (rd_T51 x3 (wrap64 ((rd x9 x10) - 1))).f6 = true then (laws_FnDelegated.j2 k x3 x4 x5 x6 x7 x9 x10 true) else (if ((rd_T51 x3 (wrap64 ((rd x9 x10) - 1))).f4) < x7 then (laws_FnDelegated.j2 k x3 x4 x5 x6 x7 x9 x10 true) else ((laws_contains.f k ((rd_T51 x3 (wrap64 ((rd x9 x10) - 1))).f3) x6).bind fun t437 => (if t437 = true then (if x10 > 0 then (if 0 ≤ (wrap64 (x10 - 1)) then (if (wrap64 (x10 - 1)) < (x9.length : Int) then (if 0 ≤ (wrap64 ((rd x9 (wrap64 (x10 - 1))) - 1)) then (if (wrap64 ((rd x9 (wrap64 (x10 - 1))) - 1)) < (x3.length : Int) then (laws_FnDelegated.j2 k x3 x4 x5 x6 x7 x9 x10 (((rd_T51 x3 (wrap64 ((rd x9 x10) - 1))).f2) != ((rd_T51 x3 (wrap64 ((rd x9 (wrap64 (x10 - 1))) - 1))).f1))) else (none)) else (none)) else (none)) else (none)) else (laws_FnDelegated.j2 k x3 x4 x5 x6 x7 x9 x10 false)) else (laws_FnDelegated.j2 k x3 x4 x5 x6 x7 x9 x10 true))))) else (none)) else (none)) else (none)) else (if 0 ≤ (wrap64 ((x9.length : Int) - 1)) then (if (wrap64 ((x9.length : Int) - 1)) < (x9.length : Int) then (if 0 ≤ (wrap64 ((rd x9 (wrap64 ((x9.length : Int) - 1))) - 1)) then (if (wrap64 ((rd x9 (wrap64 ((x9.length : Int) - 1))) - 1)) < (x3.length : Int) then (some (((rd_T51 x3 (wrap64 ((rd x9 (wrap64 ((x9.length : Int) - 1))) - 1))).f5) == 0)) else (none)) else (none)) else (none)) else (none))
def laws_FnDelegated.j2 : Nat → List (S51) → Int → Int → Int → Int → List Int → Int → Bool → Option (Bool)
 | 0, _, _, _, _, _, _, _, _ => none
 | k + 1, x3, x4, x5, x6, x7, x9, x10, x121 => if x121 = true then (some false) else (if 0 ≤ x10 then (if x10 < (x9.length : Int) then ((impl_TakeBack.f k x3 (rd x9 x10)).bind fun bt441 => (if bt441.2 = true then ((impl_MayActFor.f k bt441.1 x4 x5 x6 x7).bind fun t445 => (if t445 = 0 then (laws_FnDelegated.l0 k x3 x4 x5 x6 x7 x9 (wrap64 (x10 + 1))) else (some false))) else (some false))) else (none)) else (none))
end
def laws_FnDelegated.f (k : Nat) (l0 : List Int) : Option (Bool) := (laws_big.f l0).bind fun t415 => (if t415 = true then (some true) else ((spec_DrawMayActFor.f k l0).bind fun bt416 => ((impl_MayActFor.f k bt416.1 bt416.2.1 bt416.2.2.1 bt416.2.2.2.1 bt416.2.2.2.2).bind fun t423 => (if t423 = 0 then ((spec_MayActFor.f k bt416.1 bt416.2.1 bt416.2.2.1 bt416.2.2.2.1 bt416.2.2.2.2).bind fun t424 => (some (t424 == 0))) else ((impl_ChainOf.f k bt416.1 bt416.2.1).bind fun t425 => (if (t425.length : Int) = 0 then (laws_FnDelegated.j0 k bt416.1 bt416.2.1 bt416.2.2.1 bt416.2.2.2.1 bt416.2.2.2.2 t425 true) else (if 0 < (t425.length : Int) then (if (rd t425 0) = bt416.2.1 then (if 0 ≤ (wrap64 (bt416.2.1 - 1)) then (if (wrap64 (bt416.2.1 - 1)) < (bt416.1.length : Int) then (if ((rd_T51 bt416.1 (wrap64 (bt416.2.1 - 1))).f2) = bt416.2.2.1 then ((impl_HasKind.f t423 1).bind fun t430 => (if t430 = true then ((impl_RootOf.f k bt416.1 bt416.2.1).bind fun t431 => (laws_FnDelegated.j0 k bt416.1 bt416.2.1 bt416.2.2.1 bt416.2.2.2.1 bt416.2.2.2.2 t425 (t431 != t423))) else (laws_FnDelegated.j0 k bt416.1 bt416.2.1 bt416.2.2.1 bt416.2.2.2.1 bt416.2.2.2.2 t425 true))) else (laws_FnDelegated.j0 k bt416.1 bt416.2.1 bt416.2.2.1 bt416.2.2.2.1 bt416.2.2.2.2 t425 true)) else (none)) else (none)) else (laws_FnDelegated.j0 k bt416.1 bt416.2.1 bt416.2.2.1 bt416.2.2.2.1 bt416.2.2.2.2 t425 true)) else (none))))))))
def laws_FnDelegated.T14 : Bool × List (List Nat × List Nat) := (true, [([], []), ([0], [0]), ([1], [1]), ([2], [2]), ([3, 2], [2, 3]), ([2], [2]), ([4, 5, 2], [2, 4, 5]), ([2, 6], [2, 6]), ([7, 2], [7]), ([8], [8]), ([9, 8], [8, 9]), ([8], [8]), ([10, 11, 8, 8], [8, 10, 11]), ([12, 8], [8, 12]), ([8, 13], [8, 13]), ([14, 12], [14]), ([15], [15]), ([16, 15], [15, 16]), ([17, 15, 15], [15, 17]), ([18], [18]), ([19, 18], [18, 19]), ([18], [18]), ([18], [18]), ([18], [18]), ([23, 18], [18, 23]), ([22, 24, 18], [18, 22, 24]), ([25, 18], [18, 25]), ([26, 18], [18, 26]), ([21, 27, 18], [18, 21, 27]), ([28, 18], [18, 28]), ([29, 18], [18, 29]), ([20, 30, 18], [18, 20, 30]), ([18, 31, 15], [15, 18, 31]), ([15, 32], [15, 32])])
def laws_FnDelegated.B14 : List Nat := [0, 1, 3, 7, 15, 7, 63, 127, 255, 511, 1023, 511, 4095, 8191, 16383, 32767, 65535, 131071, 262143, 524287, 1048575, 524287, 524287, 524287, 8912895, 29884415, 63438847, 130547711, 266862591, 535298047, 1072168959, 2147483647, 4294967295, 8589934591]
theorem laws_FnDelegated.tab14 : rtab .any (opsOf Try.f8 14) = laws_FnDelegated.T14 := by kernel_rfl
theorem laws_FnDelegated.bits14 : waitsOk laws_FnDelegated.T14.2 laws_FnDelegated.B14 = true := by kernel_rfl
set_option maxHeartbeats 8000000 in
set_option maxRecDepth 100000 in
theorem laws_FnDelegated.calls (k : Nat) (A0 : Option Addr) (c0 : Nat) (l0 : List Int) (r : Bool) (w : World) (hr0 : Kd.C (Kd.int .u8) w A0 l0.length l0) (hc0 : l0.length ≤ c0) (h : laws_FnDelegated.f k l0 = some r) :
  Calls Try.prog 8 #[.slice A0 l0.length c0] w fun e w' => e = .returned (.bool r) ∧ Below w.heap.size w w' := by
 have hu51 := Try.underlying51
 have HR0 := Aside0.mk hr0
 have HC0 := Aside0.mk hc0
 clear hr0 hc0
 have HB := Aside0.mk (Below.refl w.heap.size w)
 have H : ((laws_big.f l0).bind fun t415 => (if t415 = true then (some true) else ((spec_DrawMayActFor.f k l0).bind fun bt416 => ((impl_MayActFor.f k bt416.1 bt416.2.1 bt416.2.2.1 bt416.2.2.2.1 bt416.2.2.2.2).bind fun t423 => (if t423 = 0 then ((spec_MayActFor.f k bt416.1 bt416.2.1 bt416.2.2.1 bt416.2.2.2.1 bt416.2.2.2.2).bind fun t424 => (some (t424 == 0))) else ((impl_ChainOf.f k bt416.1 bt416.2.1).bind fun t425 => (if (t425.length : Int) = 0 then (laws_FnDelegated.j0 k bt416.1 bt416.2.1 bt416.2.2.1 bt416.2.2.2.1 bt416.2.2.2.2 t425 true) else (if 0 < (t425.length : Int) then (if (rd t425 0) = bt416.2.1 then (if 0 ≤ (wrap64 (bt416.2.1 - 1)) then (if (wrap64 (bt416.2.1 - 1)) < (bt416.1.length : Int) then (if ((rd_T51 bt416.1 (wrap64 (bt416.2.1 - 1))).f2) = bt416.2.2.1 then ((impl_HasKind.f t423 1).bind fun t430 => (if t430 = true then ((impl_RootOf.f k bt416.1 bt416.2.1).bind fun t431 => (laws_FnDelegated.j0 k bt416.1 bt416.2.1 bt416.2.2.1 bt416.2.2.2.1 bt416.2.2.2.2 t425 (t431 != t423))) else (laws_FnDelegated.j0 k bt416.1 bt416.2.1 bt416.2.2.1 bt416.2.2.2.1 bt416.2.2.2.2 t425 true))) else (laws_FnDelegated.j0 k bt416.1 bt416.2.1 bt416.2.2.1 bt416.2.2.2.1 bt416.2.2.2.2 t425 true)) else (none)) else (none)) else (laws_FnDelegated.j0 k bt416.1 bt416.2.1 bt416.2.2.1 bt416.2.2.2.1 bt416.2.2.2.2 t425 true)) else (none))))))))) = some r := h
 clear h
 replace H := Option.bind_eq_some_iff.mp H
 obtain ⟨t415, A20, H⟩ := H
 replace H : (if t415 = true then (some true) else ((spec_DrawMayActFor.f k l0).bind fun bt416 => ((impl_MayActFor.f k bt416.1 bt416.2.1 bt416.2.2.1 bt416.2.2.2.1 bt416.2.2.2.2).bind fun t423 => (if t423 = 0 then ((spec_MayActFor.f k bt416.1 bt416.2.1 bt416.2.2.1 bt416.2.2.2.1 bt416.2.2.2.2).bind fun t424 => (some (t424 == 0))) else ((impl_ChainOf.f k bt416.1 bt416.2.1).bind fun t425 => (if (t425.length : Int) = 0 then (laws_FnDelegated.j0 k bt416.1 bt416.2.1 bt416.2.2.1 bt416.2.2.2.1 bt416.2.2.2.2 t425 true) else (if 0 < (t425.length : Int) then (if (rd t425 0) = bt416.2.1 then (if 0 ≤ (wrap64 (bt416.2.1 - 1)) then (if (wrap64 (bt416.2.1 - 1)) < (bt416.1.length : Int) then (if ((rd_T51 bt416.1 (wrap64 (bt416.2.1 - 1))).f2) = bt416.2.2.1 then ((impl_HasKind.f t423 1).bind fun t430 => (if t430 = true then ((impl_RootOf.f k bt416.1 bt416.2.1).bind fun t431 => (laws_FnDelegated.j0 k bt416.1 bt416.2.1 bt416.2.2.1 bt416.2.2.2.1 bt416.2.2.2.2 t425 (t431 != t423))) else (laws_FnDelegated.j0 k bt416.1 bt416.2.1 bt416.2.2.1 bt416.2.2.2.1 bt416.2.2.2.2 t425 true))) else (laws_FnDelegated.j0 k bt416.1 bt416.2.1 bt416.2.2.1 bt416.2.2.2.1 bt416.2.2.2.2 t425 true)) else (none)) else (none)) else (laws_FnDelegated.j0 k bt416.1 bt416.2.1 bt416.2.2.1 bt416.2.2.2.1 bt416.2.2.2.2 t425 true)) else (none)))))))) = some r := H
 have A2 := Aside0.mk A20
 clear A20
 by_cases c3 : t415 = true
 ·subst c3
  have H1 : (some true) = some r := by rw [if_pos rfl] at H; exact H
  clear H
  have H := H1
  clear H1
  obtain rfl := Option.some.inj H
  go_enter Try.func8, Try.ntmps8
  go_wp2_with (first | ((with_reducible refine gate_callee (f := 49) rfl ?_); refine goesL_ (some 15) rfl rfl Try.func49 (by kernel_rfl) rfl #[.slice A0 l0.length c0] rfl (by (try simp only [List.map_toArray, List.map_cons, List.map_nil]); first | done | rfl | (simp only [List.length_drop, List.length_take]; rfl)) ?_; (with_reducible refine (laws_big.calls _ _ l0 true _ ?side1 ?side2 A2.out).mono ?_); (case side1 => repeat (first | exact HR0.out | (with_reducible refine Kd.C_alloc ?_ _) | (with_reducible refine Kd.C_drewN ?_ _) | (with_reducible refine Kd.C_drew ?_))); (case side2 => exact HC0.out); rintro e w4 ⟨rfl, hb⟩; refine ⟨_, rfl, ?_⟩; have n0_ := Aside0.mk (below_step (by repeat (first | (with_reducible first | exact HB.out | apply below_alloc | apply pw_below_drewN | apply below_drew1) | exact HB.out)) hb); clear HB; have HB := n0_; clear n0_; (try clear hb); (try clear hb2); (try clear hk); (try clear hi)))
  go_ret
  exact ⟨by first | rfl | (simp [errW_none, errW_some] <;> rfl) | (simp [*, errW_none, errW_some] <;> rfl), by repeat (first | (with_reducible first | exact HB.out | apply below_alloc | apply pw_below_drewN | apply below_drew1) | exact HB.out)⟩
 ·replace c3 := Bool.eq_false_iff.mpr c3
  subst c3
  have H1 : ((spec_DrawMayActFor.f k l0).bind fun bt416 => ((impl_MayActFor.f k bt416.1 bt416.2.1 bt416.2.2.1 bt416.2.2.2.1 bt416.2.2.2.2).bind fun t423 => (if t423 = 0 then ((spec_MayActFor.f k bt416.1 bt416.2.1 bt416.2.2.1 bt416.2.2.2.1 bt416.2.2.2.2).bind fun t424 => (some (t424 == 0))) else ((impl_ChainOf.f k bt416.1 bt416.2.1).bind fun t425 => (if (t425.length : Int) = 0 then (laws_FnDelegated.j0 k bt416.1 bt416.2.1 bt416.2.2.1 bt416.2.2.2.1 bt416.2.2.2.2 t425 true) else (if 0 < (t425.length : Int) then (if (rd t425 0) = bt416.2.1 then (if 0 ≤ (wrap64 (bt416.2.1 - 1)) then (if (wrap64 (bt416.2.1 - 1)) < (bt416.1.length : Int) then (if ((rd_T51 bt416.1 (wrap64 (bt416.2.1 - 1))).f2) = bt416.2.2.1 then ((impl_HasKind.f t423 1).bind fun t430 => (if t430 = true then ((impl_RootOf.f k bt416.1 bt416.2.1).bind fun t431 => (laws_FnDelegated.j0 k bt416.1 bt416.2.1 bt416.2.2.1 bt416.2.2.2.1 bt416.2.2.2.2 t425 (t431 != t423))) else (laws_FnDelegated.j0 k bt416.1 bt416.2.1 bt416.2.2.1 bt416.2.2.2.1 bt416.2.2.2.2 t425 true))) else (laws_FnDelegated.j0 k bt416.1 bt416.2.1 bt416.2.2.1 bt416.2.2.2.1 bt416.2.2.2.2 t425 true)) else (none)) else (none)) else (laws_FnDelegated.j0 k bt416.1 bt416.2.1 bt416.2.2.1 bt416.2.2.2.1 bt416.2.2.2.2 t425 true)) else (none))))))) = some r := by rw [if_neg (show ¬ (false = true) by decide)] at H; exact H
  clear H
  have H := H1
  clear H1
  replace H := Option.bind_eq_some_iff.mp H
  obtain ⟨⟨t416, t417, t418, t419, t420⟩, A50, H⟩ := H
  replace H : ((impl_MayActFor.f k t416 t417 t418 t419 t420).bind fun t423 => (if t423 = 0 then ((spec_MayActFor.f k t416 t417 t418 t419 t420).bind fun t424 => (some (t424 == 0))) else ((impl_ChainOf.f k t416 t417).bind fun t425 => (if (t425.length : Int) = 0 then (laws_FnDelegated.j0 k t416 t417 t418 t419 t420 t425 true) else (if 0 < (t425.length : Int) then (if (rd t425 0) = t417 then (if 0 ≤ (wrap64 (t417 - 1)) then (if (wrap64 (t417 - 1)) < (t416.length : Int) then (if ((rd_T51 t416 (wrap64 (t417 - 1))).f2) = t418 then ((impl_HasKind.f t423 1).bind fun t430 => (if t430 = true then ((impl_RootOf.f k t416 t417).bind fun t431 => (laws_FnDelegated.j0 k t416 t417 t418 t419 t420 t425 (t431 != t423))) else (laws_FnDelegated.j0 k t416 t417 t418 t419 t420 t425 true))) else (laws_FnDelegated.j0 k t416 t417 t418 t419 t420 t425 true)) else (none)) else (none)) else (laws_FnDelegated.j0 k t416 t417 t418 t419 t420 t425 true)) else (none)))))) = some r := H
  have A5 := Aside0.mk A50
  clear A50
  replace H := Option.bind_eq_some_iff.mp H
  obtain ⟨t423, A60, H⟩ := H
  replace H : (if t423 = 0 then ((spec_MayActFor.f k t416 t417 t418 t419 t420).bind fun t424 => (some (t424 == 0))) else ((impl_ChainOf.f k t416 t417).bind fun t425 => (if (t425.length : Int) = 0 then (laws_FnDelegated.j0 k t416 t417 t418 t419 t420 t425 true) else (if 0 < (t425.length : Int) then (if (rd t425 0) = t417 then (if 0 ≤ (wrap64 (t417 - 1)) then (if (wrap64 (t417 - 1)) < (t416.length : Int) then (if ((rd_T51 t416 (wrap64 (t417 - 1))).f2) = t418 then ((impl_HasKind.f t423 1).bind fun t430 => (if t430 = true then ((impl_RootOf.f k t416 t417).bind fun t431 => (laws_FnDelegated.j0 k t416 t417 t418 t419 t420 t425 (t431 != t423))) else (laws_FnDelegated.j0 k t416 t417 t418 t419 t420 t425 true))) else (laws_FnDelegated.j0 k t416 t417 t418 t419 t420 t425 true)) else (none)) else (none)) else (laws_FnDelegated.j0 k t416 t417 t418 t419 t420 t425 true)) else (none))))) = some r := H
  have A6 := Aside0.mk A60
  clear A60
  replace H := ifD H; rcases H with ⟨c7, H⟩ | ⟨c7, H⟩
  ·have c7b0 : (t423 == 0) = true := beq_iff_eq.mpr c7
   have c7b1 : (t423 != 0) = false := bne_eq_false_iff_eq.mpr c7
   clear c7
   replace H := Option.bind_eq_some_iff.mp H
   obtain ⟨t424, A80, H⟩ := H
   replace H : (some (t424 == 0)) = some r := H
   have A8 := Aside0.mk A80
   clear A80
   obtain rfl := Option.some.inj H
   go_enter Try.func8, Try.ntmps8
   go_wp2_with (first | ((with_reducible refine gate_callee (f := 49) rfl ?_); refine goesL_ (some 15) rfl rfl Try.func49 (by kernel_rfl) rfl #[.slice A0 l0.length c0] rfl (by (try simp only [List.map_toArray, List.map_cons, List.map_nil]); first | done | rfl | (simp only [List.length_drop, List.length_take]; rfl)) ?_; (with_reducible refine (laws_big.calls _ _ l0 false _ ?side1 ?side2 A2.out).mono ?_); (case side1 => repeat (first | exact HR0.out | (with_reducible refine Kd.C_alloc ?_ _) | (with_reducible refine Kd.C_drewN ?_ _) | (with_reducible refine Kd.C_drew ?_))); (case side2 => exact HC0.out); rintro e w9 ⟨rfl, hb⟩; refine ⟨_, rfl, ?_⟩; have n0_ := Aside0.mk (below_step (by repeat (first | (with_reducible first | exact HB.out | apply below_alloc | apply pw_below_drewN | apply below_drew1) | exact HB.out)) hb); clear HB; have HB := n0_; clear n0_; (try clear hb); (try clear hb2); (try clear hk); (try clear hi)) | ((with_reducible refine gate_callee (f := 50) rfl ?_); refine goesL_ (some 18) rfl rfl Try.func50 (by kernel_rfl) rfl #[.slice A0 l0.length c0] rfl (by (try simp only [List.map_toArray, List.map_cons, List.map_nil]); first | done | rfl | (simp only [List.length_drop, List.length_take]; rfl)) ?_; (with_reducible refine (spec_DrawMayActFor.calls k _ _ l0 t416 t417 t418 t419 t420 _ ?side1 ?side2 A5.out).mono ?_); (case side1 => repeat (first | exact (Kd.C_below HR0.out HB.out) | (with_reducible refine Kd.C_alloc ?_ _) | (with_reducible refine Kd.C_drewN ?_ _) | (with_reducible refine Kd.C_drew ?_))); (case side2 => exact HC0.out); rintro e w10 ⟨v421, rfl, ho0, hb⟩; refine ⟨_, rfl, ?_⟩; have n0_ := Aside0.mk (Kd.S_lower ho0 (below_size (by repeat (first | (with_reducible first | exact HB.out | apply below_alloc | apply pw_below_drewN | apply below_drew1) | exact HB.out)))); have n1_ := Aside0.mk (below_step (by repeat (first | (with_reducible first | exact HB.out | apply below_alloc | apply pw_below_drewN | apply below_drew1) | exact HB.out)) hb); clear HB; have HO422 := n0_; have HB := n1_; clear n0_ n1_; (try clear hb); (try clear hb2); (try clear hk); (try clear hi); (try clear ho0); obtain ⟨Ao11, co11, eo11⟩ := Kd.S_slice HO422.out; subst eo11) | ((with_reducible refine gate_callee (f := 48) rfl ?_); refine goesL_ (some 29) rfl rfl Try.func48 (by kernel_rfl) rfl #[.slice Ao11 t416.length co11, .int .i64 t417, .int .i64 t418, .int .i64 t419, .int .i64 t420] rfl (by (try simp only [List.map_toArray, List.map_cons, List.map_nil]); first | done | rfl | (simp only [List.length_drop, List.length_take]; rfl)) ?_; (with_reducible refine (impl_MayActFor.calls k _ _ t416 t417 t418 t419 t420 t423 _ ?side1 ?side2 A6.out).mono ?_); (case side1 => repeat (first | exact (Kd.S_reads' HO422.out).2.2 | (with_reducible refine Kd.C_alloc ?_ _) | (with_reducible refine Kd.C_drewN ?_ _) | (with_reducible refine Kd.C_drew ?_))); (case side2 => exact (Kd.S_reads' HO422.out).2.1); rintro e w12 ⟨rfl, hb⟩; refine ⟨_, rfl, ?_⟩; have n0_ := Aside0.mk (Kd.S_below (by (with_reducible repeat (first | apply Kd.S_alloc | apply Kd.S_drewN | apply Kd.S_drew)); exact HO422.out) hb); have n1_ := Aside0.mk (below_step (by repeat (first | (with_reducible first | exact HB.out | apply below_alloc | apply pw_below_drewN | apply below_drew1) | exact HB.out)) hb); clear HO422; clear HB; have HO422 := n0_; have HB := n1_; clear n0_ n1_; (try clear hb); (try clear hb2); (try clear hk); (try clear hi)) | ((with_reducible refine gate_callee (f := 47) rfl ?_); refine goesL_ (some 37) rfl rfl Try.func47 (by kernel_rfl) rfl #[.slice Ao11 t416.length co11, .int .i64 t417, .int .i64 t418, .int .i64 t419, .int .i64 t420] rfl (by (try simp only [List.map_toArray, List.map_cons, List.map_nil]); first | done | rfl | (simp only [List.length_drop, List.length_take]; rfl)) ?_; (with_reducible refine (spec_MayActFor.calls k _ _ t416 t417 t418 t419 t420 t424 _ ?side1 ?side2 A8.out).mono ?_); (case side1 => repeat (first | exact (Kd.S_reads' HO422.out).2.2 | (with_reducible refine Kd.C_alloc ?_ _) | (with_reducible refine Kd.C_drewN ?_ _) | (with_reducible refine Kd.C_drew ?_))); (case side2 => exact (Kd.S_reads' HO422.out).2.1); rintro e w13 ⟨rfl, hb⟩; refine ⟨_, rfl, ?_⟩; have n0_ := Aside0.mk (Kd.S_below (by (with_reducible repeat (first | apply Kd.S_alloc | apply Kd.S_drewN | apply Kd.S_drew)); exact HO422.out) hb); have n1_ := Aside0.mk (below_step (by repeat (first | (with_reducible first | exact HB.out | apply below_alloc | apply pw_below_drewN | apply below_drew1) | exact HB.out)) hb); clear HO422; clear HB; have HO422 := n0_; have HB := n1_; clear n0_ n1_; (try clear hb); (try clear hb2); (try clear hk); (try clear hi)))
   go_ret
   exact ⟨by first | rfl | (simp [errW_none, errW_some] <;> rfl) | (simp [*, errW_none, errW_some] <;> rfl), by repeat (first | (with_reducible first | exact HB.out | apply below_alloc | apply pw_below_drewN | apply below_drew1) | exact HB.out)⟩
  ·have c7b0 : (t423 == 0) = false := beq_eq_false_iff_ne.mpr c7
   have c7b1 : (t423 != 0) = true := bne_iff_ne.mpr c7
   replace H := Option.bind_eq_some_iff.mp H
   obtain ⟨t425, A140, H⟩ := H
   replace H : (if (t425.length : Int) = 0 then (laws_FnDelegated.j0 k t416 t417 t418 t419 t420 t425 true) else (if 0 < (t425.length : Int) then (if (rd t425 0) = t417 then (if 0 ≤ (wrap64 (t417 - 1)) then (if (wrap64 (t417 - 1)) < (t416.length : Int) then (if ((rd_T51 t416 (wrap64 (t417 - 1))).f2) = t418 then ((impl_HasKind.f t423 1).bind fun t430 => (if t430 = true then ((impl_RootOf.f k t416 t417).bind fun t431 => (laws_FnDelegated.j0 k t416 t417 t418 t419 t420 t425 (t431 != t423))) else (laws_FnDelegated.j0 k t416 t417 t418 t419 t420 t425 true))) else (laws_FnDelegated.j0 k t416 t417 t418 t419 t420 t425 true)) else (none)) else (none)) else (laws_FnDelegated.j0 k t416 t417 t418 t419 t420 t425 true)) else (none))) = some r := H
   have A14 := Aside0.mk A140
   clear A140
   have HC15 := Aside0.mk H
   clear H
   go_enter Try.func8, Try.ntmps8
   go_upto_region 8 with (first | ((with_reducible refine gate_callee (f := 49) rfl ?_); refine goesL_ (some 15) rfl rfl Try.func49 (by kernel_rfl) rfl #[.slice A0 l0.length c0] rfl (by (try simp only [List.map_toArray, List.map_cons, List.map_nil]); first | done | rfl | (simp only [List.length_drop, List.length_take]; rfl)) ?_; (with_reducible refine (laws_big.calls _ _ l0 false _ ?side1 ?side2 A2.out).mono ?_); (case side1 => repeat (first | exact HR0.out | (with_reducible refine Kd.C_alloc ?_ _) | (with_reducible refine Kd.C_drewN ?_ _) | (with_reducible refine Kd.C_drew ?_))); (case side2 => exact HC0.out); rintro e w16 ⟨rfl, hb⟩; refine ⟨_, rfl, ?_⟩; have n0_ := Aside0.mk (below_step (by repeat (first | (with_reducible first | exact HB.out | apply below_alloc | apply pw_below_drewN | apply below_drew1) | exact HB.out)) hb); clear HB; have HB := n0_; clear n0_; (try clear hb); (try clear hb2); (try clear hk); (try clear hi)) | ((with_reducible refine gate_callee (f := 50) rfl ?_); refine goesL_ (some 18) rfl rfl Try.func50 (by kernel_rfl) rfl #[.slice A0 l0.length c0] rfl (by (try simp only [List.map_toArray, List.map_cons, List.map_nil]); first | done | rfl | (simp only [List.length_drop, List.length_take]; rfl)) ?_; (with_reducible refine (spec_DrawMayActFor.calls k _ _ l0 t416 t417 t418 t419 t420 _ ?side1 ?side2 A5.out).mono ?_); (case side1 => repeat (first | exact (Kd.C_below HR0.out HB.out) | (with_reducible refine Kd.C_alloc ?_ _) | (with_reducible refine Kd.C_drewN ?_ _) | (with_reducible refine Kd.C_drew ?_))); (case side2 => exact HC0.out); rintro e w17 ⟨v421, rfl, ho0, hb⟩; refine ⟨_, rfl, ?_⟩; have n0_ := Aside0.mk (Kd.S_lower ho0 (below_size (by repeat (first | (with_reducible first | exact HB.out | apply below_alloc | apply pw_below_drewN | apply below_drew1) | exact HB.out)))); have n1_ := Aside0.mk (below_step (by repeat (first | (with_reducible first | exact HB.out | apply below_alloc | apply pw_below_drewN | apply below_drew1) | exact HB.out)) hb); clear HB; have HO422 := n0_; have HB := n1_; clear n0_ n1_; (try clear hb); (try clear hb2); (try clear hk); (try clear hi); (try clear ho0); obtain ⟨Ao18, co18, eo18⟩ := Kd.S_slice HO422.out; subst eo18) | ((with_reducible refine gate_callee (f := 48) rfl ?_); refine goesL_ (some 29) rfl rfl Try.func48 (by kernel_rfl) rfl #[.slice Ao18 t416.length co18, .int .i64 t417, .int .i64 t418, .int .i64 t419, .int .i64 t420] rfl (by (try simp only [List.map_toArray, List.map_cons, List.map_nil]); first | done | rfl | (simp only [List.length_drop, List.length_take]; rfl)) ?_; (with_reducible refine (impl_MayActFor.calls k _ _ t416 t417 t418 t419 t420 t423 _ ?side1 ?side2 A6.out).mono ?_); (case side1 => repeat (first | exact (Kd.S_reads' HO422.out).2.2 | (with_reducible refine Kd.C_alloc ?_ _) | (with_reducible refine Kd.C_drewN ?_ _) | (with_reducible refine Kd.C_drew ?_))); (case side2 => exact (Kd.S_reads' HO422.out).2.1); rintro e w19 ⟨rfl, hb⟩; refine ⟨_, rfl, ?_⟩; have n0_ := Aside0.mk (Kd.S_below (by (with_reducible repeat (first | apply Kd.S_alloc | apply Kd.S_drewN | apply Kd.S_drew)); exact HO422.out) hb); have n1_ := Aside0.mk (below_step (by repeat (first | (with_reducible first | exact HB.out | apply below_alloc | apply pw_below_drewN | apply below_drew1) | exact HB.out)) hb); clear HO422; clear HB; have HO422 := n0_; have HB := n1_; clear n0_ n1_; (try clear hb); (try clear hb2); (try clear hk); (try clear hi)) | ((with_reducible refine gate_callee (f := 51) rfl ?_); refine goesL_ (some 41) rfl rfl Try.func51 (by kernel_rfl) rfl #[.slice Ao18 t416.length co18, .int .i64 t417] rfl (by (try simp only [List.map_toArray, List.map_cons, List.map_nil]); first | done | rfl | (simp only [List.length_drop, List.length_take]; rfl)) ?_; (with_reducible refine (impl_ChainOf.calls k _ _ t416 t417 t425 _ ?side1 ?side2 A14.out).mono ?_); (case side1 => repeat (first | exact (Kd.S_reads' HO422.out).2.2 | (with_reducible refine Kd.C_alloc ?_ _) | (with_reducible refine Kd.C_drewN ?_ _) | (with_reducible refine Kd.C_drew ?_))); (case side2 => exact (Kd.S_reads' HO422.out).2.1); rintro e w20 ⟨v426, rfl, ho0, hb⟩; refine ⟨_, rfl, ?_⟩; have n0_ := Aside0.mk (Kd.S_elder' (by (with_reducible repeat (first | apply Kd.S_alloc | apply Kd.S_drewN | apply Kd.S_drew)); exact HO422.out) (Kd.R_base ho0) hb); have n1_ := Aside0.mk (Kd.R_lower ho0 (below_size (by repeat (first | (with_reducible first | exact HB.out | apply below_alloc | apply pw_below_drewN | apply below_drew1) | exact HB.out)))); have n2_ := Aside0.mk (below_step (by repeat (first | (with_reducible first | exact HB.out | apply below_alloc | apply pw_below_drewN | apply below_drew1) | exact HB.out)) hb); clear HO422; clear HB; have HO422 := n0_; have HO427 := n1_; have HB := n2_; clear n0_ n1_ n2_; (try clear hb); (try clear hb2); (try clear hk); (try clear hi); (try clear ho0)))
   (try simp only [Act.put, List.setIfInBounds_toArray, List.set_cons_zero, List.set_cons_succ])
   go_cut [73] (fun v73 wc => ∃ (kq : Nat) (x73_14 : Bool), v73 = .bool x73_14 ∧ Aside0 (laws_FnDelegated.j0 kq t416 t417 t418 t419 t420 t425 x73_14 = some r) ∧ Aside0 (kq ≤ k) ∧ Aside0 (Kd.S k51 51 wc w.heap.size (fun k_ => some k_ ≠ (v426 : Value).ownBlock) (.slice Ao18 t416.length co18) t416) ∧ Aside0 (Kd.R (Kd.int .i64) 3 wc w.heap.size (fun _ => True) v426 t425) ∧ Aside0 (Below w.heap.size w wc))
   case first =>
    have H := HC15.out
    clear HC15
    replace H := ifD H; rcases H with ⟨c21, H⟩ | ⟨c21, H⟩
    ·have c21b0 : ((t425.length : Int) == 0) = true := beq_iff_eq.mpr c21
     have c21b1 : ((t425.length : Int) != 0) = false := bne_eq_false_iff_eq.mpr c21
     clear c21
     (first | rw [c21b0] | (simp only [i64_w, i32_w]; rw [c21b0]) | skip)
     have H' := Aside0.mk H
     clear H
     obtain ⟨Ao22, co22, eo22⟩ := Kd.R_slice HO427.out
     subst eo22
     go_wp2
     go_meet
     case rel => exact ⟨_, (true), (by first | rfl | (simp; done) | (simp [*]; done)), H', ⟨by first | omega | exact Nat.le_refl _⟩, ⟨by (with_reducible repeat (first | apply Kd.S_alloc | apply Kd.S_drewN | apply Kd.S_drew)); exact Kd.S_mono HO422.out (fun _ hk => hk.2)⟩, ⟨by (with_reducible repeat (first | apply Kd.R_alloc | apply Kd.R_drewN | apply Kd.R_drew)); exact HO427.out⟩, ⟨by repeat (first | (with_reducible first | exact HB.out | apply below_alloc | apply pw_below_drewN | apply below_drew1) | exact HB.out)⟩⟩
    ·have c21b0 : ((t425.length : Int) == 0) = false := beq_eq_false_iff_ne.mpr c21
     have c21b1 : ((t425.length : Int) != 0) = true := bne_iff_ne.mpr c21
     have c21b2 : ¬ (t425 = []) := fun h_ => c21 (by rw [h_]; rfl)
     (first | rw [c21b0] | (simp only [i64_w, i32_w]; rw [c21b0]) | skip)
     replace H := ifN H; obtain ⟨c23, H⟩ := H
     have c23b0 : decide (0 < (t425.length : Int)) = true := decide_eq_true c23
     have c23b1 : decide (0 < t425.length) = true := decide_eq_true (by omega)
     clear c23
     replace H := ifD H; rcases H with ⟨c24, H⟩ | ⟨c24, H⟩
     ·have c24b0 : ((rd t425 0) == t417) = true := beq_iff_eq.mpr c24
      have c24b1 : ((rd t425 0) != t417) = false := bne_eq_false_iff_eq.mpr c24
      clear c24
      obtain ⟨ji25, hji25⟩ : ∃ j_ : Int, (wrap64 (t417 - 1)) = j_ := ⟨_, rfl⟩
      replace H : (if 0 ≤ (ji25) then (if (ji25) < (t416.length : Int) then (if ((rd_T51 t416 (ji25)).f2) = t418 then ((impl_HasKind.f t423 1).bind fun t430 => (if t430 = true then ((impl_RootOf.f k t416 t417).bind fun t431 => (laws_FnDelegated.j0 k t416 t417 t418 t419 t420 t425 (t431 != t423))) else (laws_FnDelegated.j0 k t416 t417 t418 t419 t420 t425 true))) else (laws_FnDelegated.j0 k t416 t417 t418 t419 t420 t425 true)) else (none)) else (none)) = some r := by first | (rw [hji25] at H; exact H) | (simp only [hji25] at H ⊢; exact H)
      have hji25w : (IntKind.i64.wrap (t417 - 1)) = ji25 := (i64_w _).trans hji25
      replace H := ifN H; obtain ⟨c26, H⟩ := H
      have c26b0 : decide (0 ≤ (ji25)) = true := decide_eq_true c26
      clear c26
      replace H := ifN H; obtain ⟨c27, H⟩ := H
      have c27b0 : decide ((ji25) < (t416.length : Int)) = true := decide_eq_true c27
      clear c27
      replace H := ifD H; rcases H with ⟨c28, H⟩ | ⟨c28, H⟩
      ·have c28b0 : (((rd_T51 t416 (ji25)).f2) == t418) = true := beq_iff_eq.mpr c28
       have c28b1 : (((rd_T51 t416 (ji25)).f2) != t418) = false := bne_eq_false_iff_eq.mpr c28
       clear c28
       replace H := Option.bind_eq_some_iff.mp H
       obtain ⟨t430, A290, H⟩ := H
       replace H : (if t430 = true then ((impl_RootOf.f k t416 t417).bind fun t431 => (laws_FnDelegated.j0 k t416 t417 t418 t419 t420 t425 (t431 != t423))) else (laws_FnDelegated.j0 k t416 t417 t418 t419 t420 t425 true)) = some r := H
       have A29 := Aside0.mk A290
       clear A290
       by_cases c30 : t430 = true
       ·subst c30
        have H1 : ((impl_RootOf.f k t416 t417).bind fun t431 => (laws_FnDelegated.j0 k t416 t417 t418 t419 t420 t425 (t431 != t423))) = some r := by rw [if_pos rfl] at H; exact H
        clear H
        have H := H1
        clear H1
        replace H := Option.bind_eq_some_iff.mp H
        obtain ⟨t431, A310, H⟩ := H
        replace H : (laws_FnDelegated.j0 k t416 t417 t418 t419 t420 t425 (t431 != t423)) = some r := H
        have A31 := Aside0.mk A310
        clear A310
        have H' := Aside0.mk H
        clear H
        obtain ⟨Ao32, co32, eo32⟩ := Kd.R_slice HO427.out
        subst eo32
        have p428 : 0 ≤ (0 : Int) := (by omega)
        have q428 : 0 < (t425.length : Int) := of_decide_eq_true (by first | (with_reducible assumption) | assumption)
        obtain ⟨ad428, e428, hx428_0⟩ := Kd.at_int (Kd.R_reads' HO427.out).2.2 0 p428 q428
        cases e428
        have qi428 : (0 < t425.length) = True := eq_true (by omega)
        (try rw [show ((0 : Int)).toNat = 0 from rfl] at hx428_0)
        (try rw [Addr.add_zero'] at hx428_0)
        replace p428 := eq_true p428
        replace q428 := eq_true q428
        have p429 : 0 ≤ ((ji25) : Int) := of_decide_eq_true (by first | (with_reducible assumption) | assumption)
        have q429 : (ji25) < (t416.length : Int) := of_decide_eq_true (by first | (with_reducible assumption) | assumption)
        obtain ⟨ad429, A429_3, c429_3, e429, hx429_0, hx429_1, hx429_2, hx429_3, hx429_4, hx429_5, hx429_6, hl429_3, hi429_3⟩ := at_T51 (Kd.S_reads' HO422.out).2.2 (ji25) p429 q429
        cases e429
        obtain ⟨ce429, hce429, hMe429, hcc429⟩ := Kd.S_get HO422.out z51 (ji25) p429 (by first | exact q429 | exact of_decide_eq_true (by first | (with_reducible assumption) | assumption) | (have e_ := (Kd.S_reads' HO422.out).1; omega))
        obtain ⟨ve429_3, rfl, ge429_3⟩ := k51_openM hMe429
        have hv429_3 := hcc429 3 _ rfl
        rw [add_field _ _ 3 (by omega)] at hv429_3
        replace hv429_3 := Option.some.inj (hv429_3.symm.trans hx429_3)
        rw [hv429_3] at ge429_3
        have HL429_3 := Aside0.mk (show Kd.R (Kd.int .i64) 3 _ _ _ _ ((rd_T51 t416 (ji25)).f3) from ge429_3)
        clear hv429_3 ge429_3
        clear hcc429 hce429
        have HR429_3 := Aside0.mk hi429_3
        have HC429_3 := Aside0.mk hl429_3
        clear hi429_3 hl429_3
        replace p429 := eq_true p429
        replace q429 := eq_true q429
        go_wp2_with (first | (go_at_call 52; (with_reducible refine (impl_HasKind.calls t423 1 true _ A29.out).mono ?_); rintro e w33 ⟨rfl, hb⟩; have n0_ := Aside0.mk (Kd.S_below (by (with_reducible repeat (first | apply Kd.S_alloc | apply Kd.S_drewN | apply Kd.S_drew)); exact HO422.out) hb); have n1_ := Aside0.mk (Kd.R_below (by (with_reducible repeat (first | apply Kd.R_alloc | apply Kd.R_drewN | apply Kd.R_drew)); exact HO427.out) hb); have n2_ := Aside0.mk (Kd.R_below (by (with_reducible repeat (first | apply Kd.R_alloc | apply Kd.R_drewN | apply Kd.R_drew)); exact HL429_3.out) hb); have n3_ := Aside0.mk (Kd.C_below (by repeat (first | (with_reducible exact HR429_3.out) | (with_reducible refine Kd.C_alloc ?_ _) | (with_reducible refine Kd.C_drewN ?_ _) | (with_reducible refine Kd.C_drew ?_) | exact HR429_3.out)) hb); have n4_ := Aside0.mk (below_step (by repeat (first | (with_reducible first | exact HB.out | apply below_alloc | apply pw_below_drewN | apply below_drew1) | exact HB.out)) hb); clear HO422; clear HO427; clear HL429_3; clear HR429_3; clear HB; have HO422 := n0_; have HO427 := n1_; have HL429_3 := n2_; have HR429_3 := n3_; have HB := n4_; clear n0_ n1_ n2_ n3_ n4_; (try clear hb); (try clear hb2); (try clear hk); (try clear hi)) | (go_at_call 53; (with_reducible refine (impl_RootOf.calls k _ _ t416 t417 t431 _ ?side1 ?side2 A31.out).mono ?_); (case side1 => repeat (first | exact (Kd.S_reads' HO422.out).2.2 | (with_reducible refine Kd.C_alloc ?_ _) | (with_reducible refine Kd.C_drewN ?_ _) | (with_reducible refine Kd.C_drew ?_))); (case side2 => exact (Kd.S_reads' HO422.out).2.1); rintro e w34 ⟨rfl, hb⟩; have n0_ := Aside0.mk (Kd.S_below (by (with_reducible repeat (first | apply Kd.S_alloc | apply Kd.S_drewN | apply Kd.S_drew)); exact HO422.out) hb); have n1_ := Aside0.mk (Kd.R_below (by (with_reducible repeat (first | apply Kd.R_alloc | apply Kd.R_drewN | apply Kd.R_drew)); exact HO427.out) hb); have n2_ := Aside0.mk (Kd.R_below (by (with_reducible repeat (first | apply Kd.R_alloc | apply Kd.R_drewN | apply Kd.R_drew)); exact HL429_3.out) hb); have n3_ := Aside0.mk (Kd.C_below (by repeat (first | (with_reducible exact HR429_3.out) | (with_reducible refine Kd.C_alloc ?_ _) | (with_reducible refine Kd.C_drewN ?_ _) | (with_reducible refine Kd.C_drew ?_) | exact HR429_3.out)) hb); have n4_ := Aside0.mk (below_step (by repeat (first | (with_reducible first | exact HB.out | apply below_alloc | apply pw_below_drewN | apply below_drew1) | exact HB.out)) hb); clear HO422; clear HO427; clear HL429_3; clear HR429_3; clear HB; have HO422 := n0_; have HO427 := n1_; have HL429_3 := n2_; have HR429_3 := n3_; have HB := n4_; clear n0_ n1_ n2_ n3_ n4_; (try clear hb); (try clear hb2); (try clear hk); (try clear hi)))
        go_meet
        case rel => exact ⟨_, ((t431 != t423)), (by first | rfl | (simp; done) | (simp [*]; done)), H', ⟨by first | omega | exact Nat.le_refl _⟩, ⟨by (with_reducible repeat (first | apply Kd.S_alloc | apply Kd.S_drewN | apply Kd.S_drew)); exact Kd.S_mono HO422.out (fun _ hk => hk.2)⟩, ⟨by (with_reducible repeat (first | apply Kd.R_alloc | apply Kd.R_drewN | apply Kd.R_drew)); exact HO427.out⟩, ⟨by repeat (first | (with_reducible first | exact HB.out | apply below_alloc | apply pw_below_drewN | apply below_drew1) | exact HB.out)⟩⟩
       ·replace c30 := Bool.eq_false_iff.mpr c30
        subst c30
        have H1 : (laws_FnDelegated.j0 k t416 t417 t418 t419 t420 t425 true) = some r := by rw [if_neg (show ¬ (false = true) by decide)] at H; exact H
        clear H
        have H := H1
        clear H1
        have H' := Aside0.mk H
        clear H
        obtain ⟨Ao35, co35, eo35⟩ := Kd.R_slice HO427.out
        subst eo35
        have p428 : 0 ≤ (0 : Int) := (by omega)
        have q428 : 0 < (t425.length : Int) := of_decide_eq_true (by first | (with_reducible assumption) | assumption)
        obtain ⟨ad428, e428, hx428_0⟩ := Kd.at_int (Kd.R_reads' HO427.out).2.2 0 p428 q428
        cases e428
        have qi428 : (0 < t425.length) = True := eq_true (by omega)
        (try rw [show ((0 : Int)).toNat = 0 from rfl] at hx428_0)
        (try rw [Addr.add_zero'] at hx428_0)
        replace p428 := eq_true p428
        replace q428 := eq_true q428
        have p429 : 0 ≤ ((ji25) : Int) := of_decide_eq_true (by first | (with_reducible assumption) | assumption)
        have q429 : (ji25) < (t416.length : Int) := of_decide_eq_true (by first | (with_reducible assumption) | assumption)
        obtain ⟨ad429, A429_3, c429_3, e429, hx429_0, hx429_1, hx429_2, hx429_3, hx429_4, hx429_5, hx429_6, hl429_3, hi429_3⟩ := at_T51 (Kd.S_reads' HO422.out).2.2 (ji25) p429 q429
        cases e429
        obtain ⟨ce429, hce429, hMe429, hcc429⟩ := Kd.S_get HO422.out z51 (ji25) p429 (by first | exact q429 | exact of_decide_eq_true (by first | (with_reducible assumption) | assumption) | (have e_ := (Kd.S_reads' HO422.out).1; omega))
        obtain ⟨ve429_3, rfl, ge429_3⟩ := k51_openM hMe429
        have hv429_3 := hcc429 3 _ rfl
        rw [add_field _ _ 3 (by omega)] at hv429_3
        replace hv429_3 := Option.some.inj (hv429_3.symm.trans hx429_3)
        rw [hv429_3] at ge429_3
        have HL429_3 := Aside0.mk (show Kd.R (Kd.int .i64) 3 _ _ _ _ ((rd_T51 t416 (ji25)).f3) from ge429_3)
        clear hv429_3 ge429_3
        clear hcc429 hce429
        have HR429_3 := Aside0.mk hi429_3
        have HC429_3 := Aside0.mk hl429_3
        clear hi429_3 hl429_3
        replace p429 := eq_true p429
        replace q429 := eq_true q429
        go_wp2_with (first | (go_at_call 52; (with_reducible refine (impl_HasKind.calls t423 1 false _ A29.out).mono ?_); rintro e w36 ⟨rfl, hb⟩; have n0_ := Aside0.mk (Kd.S_below (by (with_reducible repeat (first | apply Kd.S_alloc | apply Kd.S_drewN | apply Kd.S_drew)); exact HO422.out) hb); have n1_ := Aside0.mk (Kd.R_below (by (with_reducible repeat (first | apply Kd.R_alloc | apply Kd.R_drewN | apply Kd.R_drew)); exact HO427.out) hb); have n2_ := Aside0.mk (Kd.R_below (by (with_reducible repeat (first | apply Kd.R_alloc | apply Kd.R_drewN | apply Kd.R_drew)); exact HL429_3.out) hb); have n3_ := Aside0.mk (Kd.C_below (by repeat (first | (with_reducible exact HR429_3.out) | (with_reducible refine Kd.C_alloc ?_ _) | (with_reducible refine Kd.C_drewN ?_ _) | (with_reducible refine Kd.C_drew ?_) | exact HR429_3.out)) hb); have n4_ := Aside0.mk (below_step (by repeat (first | (with_reducible first | exact HB.out | apply below_alloc | apply pw_below_drewN | apply below_drew1) | exact HB.out)) hb); clear HO422; clear HO427; clear HL429_3; clear HR429_3; clear HB; have HO422 := n0_; have HO427 := n1_; have HL429_3 := n2_; have HR429_3 := n3_; have HB := n4_; clear n0_ n1_ n2_ n3_ n4_; (try clear hb); (try clear hb2); (try clear hk); (try clear hi)))
        go_meet
        case rel => exact ⟨_, (true), (by first | rfl | (simp; done) | (simp [*]; done)), H', ⟨by first | omega | exact Nat.le_refl _⟩, ⟨by (with_reducible repeat (first | apply Kd.S_alloc | apply Kd.S_drewN | apply Kd.S_drew)); exact Kd.S_mono HO422.out (fun _ hk => hk.2)⟩, ⟨by (with_reducible repeat (first | apply Kd.R_alloc | apply Kd.R_drewN | apply Kd.R_drew)); exact HO427.out⟩, ⟨by repeat (first | (with_reducible first | exact HB.out | apply below_alloc | apply pw_below_drewN | apply below_drew1) | exact HB.out)⟩⟩
      ·have c28b0 : (((rd_T51 t416 (ji25)).f2) == t418) = false := beq_eq_false_iff_ne.mpr c28
       have c28b1 : (((rd_T51 t416 (ji25)).f2) != t418) = true := bne_iff_ne.mpr c28
       have H' := Aside0.mk H
       clear H
       obtain ⟨Ao37, co37, eo37⟩ := Kd.R_slice HO427.out
       subst eo37
       have p428 : 0 ≤ (0 : Int) := (by omega)
       have q428 : 0 < (t425.length : Int) := of_decide_eq_true (by first | (with_reducible assumption) | assumption)
       obtain ⟨ad428, e428, hx428_0⟩ := Kd.at_int (Kd.R_reads' HO427.out).2.2 0 p428 q428
       cases e428
       have qi428 : (0 < t425.length) = True := eq_true (by omega)
       (try rw [show ((0 : Int)).toNat = 0 from rfl] at hx428_0)
       (try rw [Addr.add_zero'] at hx428_0)
       replace p428 := eq_true p428
       replace q428 := eq_true q428
       have p429 : 0 ≤ ((ji25) : Int) := of_decide_eq_true (by first | (with_reducible assumption) | assumption)
       have q429 : (ji25) < (t416.length : Int) := of_decide_eq_true (by first | (with_reducible assumption) | assumption)
       obtain ⟨ad429, A429_3, c429_3, e429, hx429_0, hx429_1, hx429_2, hx429_3, hx429_4, hx429_5, hx429_6, hl429_3, hi429_3⟩ := at_T51 (Kd.S_reads' HO422.out).2.2 (ji25) p429 q429
       cases e429
       obtain ⟨ce429, hce429, hMe429, hcc429⟩ := Kd.S_get HO422.out z51 (ji25) p429 (by first | exact q429 | exact of_decide_eq_true (by first | (with_reducible assumption) | assumption) | (have e_ := (Kd.S_reads' HO422.out).1; omega))
       obtain ⟨ve429_3, rfl, ge429_3⟩ := k51_openM hMe429
       have hv429_3 := hcc429 3 _ rfl
       rw [add_field _ _ 3 (by omega)] at hv429_3
       replace hv429_3 := Option.some.inj (hv429_3.symm.trans hx429_3)
       rw [hv429_3] at ge429_3
       have HL429_3 := Aside0.mk (show Kd.R (Kd.int .i64) 3 _ _ _ _ ((rd_T51 t416 (ji25)).f3) from ge429_3)
       clear hv429_3 ge429_3
       clear hcc429 hce429
       have HR429_3 := Aside0.mk hi429_3
       have HC429_3 := Aside0.mk hl429_3
       clear hi429_3 hl429_3
       replace p429 := eq_true p429
       replace q429 := eq_true q429
       go_wp2
       go_meet
       case rel => exact ⟨_, (true), (by first | rfl | (simp; done) | (simp [*]; done)), H', ⟨by first | omega | exact Nat.le_refl _⟩, ⟨by (with_reducible repeat (first | apply Kd.S_alloc | apply Kd.S_drewN | apply Kd.S_drew)); exact Kd.S_mono HO422.out (fun _ hk => hk.2)⟩, ⟨by (with_reducible repeat (first | apply Kd.R_alloc | apply Kd.R_drewN | apply Kd.R_drew)); exact HO427.out⟩, ⟨by repeat (first | (with_reducible first | exact HB.out | apply below_alloc | apply pw_below_drewN | apply below_drew1) | exact HB.out)⟩⟩
     ·have c24b0 : ((rd t425 0) == t417) = false := beq_eq_false_iff_ne.mpr c24
      have c24b1 : ((rd t425 0) != t417) = true := bne_iff_ne.mpr c24
      have H' := Aside0.mk H
      clear H
      obtain ⟨Ao38, co38, eo38⟩ := Kd.R_slice HO427.out
      subst eo38
      have p428 : 0 ≤ (0 : Int) := (by omega)
      have q428 : 0 < (t425.length : Int) := of_decide_eq_true (by first | (with_reducible assumption) | assumption)
      obtain ⟨ad428, e428, hx428_0⟩ := Kd.at_int (Kd.R_reads' HO427.out).2.2 0 p428 q428
      cases e428
      have qi428 : (0 < t425.length) = True := eq_true (by omega)
      (try rw [show ((0 : Int)).toNat = 0 from rfl] at hx428_0)
      (try rw [Addr.add_zero'] at hx428_0)
      replace p428 := eq_true p428
      replace q428 := eq_true q428
      go_wp2
      go_meet
      case rel => exact ⟨_, (true), (by first | rfl | (simp; done) | (simp [*]; done)), H', ⟨by first | omega | exact Nat.le_refl _⟩, ⟨by (with_reducible repeat (first | apply Kd.S_alloc | apply Kd.S_drewN | apply Kd.S_drew)); exact Kd.S_mono HO422.out (fun _ hk => hk.2)⟩, ⟨by (with_reducible repeat (first | apply Kd.R_alloc | apply Kd.R_drewN | apply Kd.R_drew)); exact HO427.out⟩, ⟨by repeat (first | (with_reducible first | exact HB.out | apply below_alloc | apply pw_below_drewN | apply below_drew1) | exact HB.out)⟩⟩
   case rest =>
    clear HC15
    try clear c2
    try clear p2
    try clear c3
    try clear c4
    try clear p4
    try clear q4
    try clear hx4
    try clear qi4
    try clear c5
    try clear p6
    try clear c7
    try clear c7b0
    try clear c7b1
    try clear c8
    try clear c21
    try clear c21b0
    try clear c21b1
    try clear c21b2
    try clear c23
    try clear c23b0
    try clear c23b1
    try clear c24
    try clear c24b0
    try clear c24b1
    try clear c26
    try clear c26b0
    try clear c27
    try clear c27b0
    try clear c28
    try clear c28b0
    try clear c28b1
    try clear c30
    try clear hx428_0
    try clear hx429_0
    try clear hx429_1
    try clear hx429_2
    try clear hx429_3
    try clear hx429_4
    try clear hx429_5
    try clear hx429_6
    try clear p428
    try clear p429
    try clear q428
    try clear q429
    obtain ⟨kq, x73_14, rfl, HA, HJ14, HO_3, HO_9, HB⟩ := hcut
    cases kq with
    | zero => exact absurd HA.out (by simp [laws_FnDelegated.j0])
    | succ kj14 =>
     have H := HA.out
     clear HA
     simp only [laws_FnDelegated.j0] at H
     by_cases c39 : x73_14 = true
     ·subst c39
      have H1 : (some false) = some r := by rw [if_pos rfl] at H; exact H
      clear H
      have H := H1
      clear H1
      obtain rfl := Option.some.inj H
      go_wp2
      go_ret
      exact ⟨by first | rfl | (simp [errW_none, errW_some] <;> rfl) | (simp [*, errW_none, errW_some] <;> rfl), by repeat (first | (with_reducible first | exact HB.out | apply below_alloc | apply pw_below_drewN | apply below_drew1) | exact HB.out)⟩
     ·replace c39 := Bool.eq_false_iff.mpr c39
      subst c39
      have H1 : (laws_FnDelegated.l0 kj14 t416 t417 t418 t419 t420 t425 0) = some r := by rw [if_neg (show ¬ (false = true) by decide)] at H; exact H
      clear H
      have H := H1
      clear H1
      have H' := Aside0.mk H
      clear H
      go_wp2
      go_loopg [10] kj14 (fun kq v10 w' => ∃ (x10_2 : Int), v10 = .int .i64 x10_2 ∧ Aside0 (laws_FnDelegated.l0 kq t416 t417 t418 t419 t420 t425 x10_2 = some r) ∧ Aside0 (kq ≤ kj14) ∧ Aside0 (Kd.S k51 51 w' w.heap.size (fun k_ => some k_ ≠ (v426 : Value).ownBlock) (.slice Ao18 t416.length co18) t416) ∧ Aside0 (Kd.R (Kd.int .i64) 3 w' w.heap.size (fun _ => True) v426 t425) ∧ Aside0 (Below w.heap.size w w'))
      case atStart => exact ⟨(0), (by first | rfl | (simp; done) | (simp [*]; done)), H', ⟨Nat.le_refl _⟩, ⟨by (with_reducible repeat (first | apply Kd.S_alloc | apply Kd.S_drewN | apply Kd.S_drew)); exact HO_3.out⟩, ⟨by (with_reducible repeat (first | apply Kd.R_alloc | apply Kd.R_drewN | apply Kd.R_drew)); exact HO_9.out⟩, ⟨by repeat (first | (with_reducible first | exact HB.out | apply below_alloc | apply pw_below_drewN | apply below_drew1) | exact HB.out)⟩⟩
      case round =>
       clear H'
       try clear c2
       try clear p2
       try clear c3
       try clear c4
       try clear p4
       try clear q4
       try clear hx4
       try clear qi4
       try clear c5
       try clear p6
       try clear c7
       try clear c7b0
       try clear c7b1
       try clear c8
       try clear c21
       try clear c21b0
       try clear c21b1
       try clear c21b2
       try clear c23
       try clear c23b0
       try clear c23b1
       try clear c24
       try clear c24b0
       try clear c24b1
       try clear c26
       try clear c26b0
       try clear c27
       try clear c27b0
       try clear c28
       try clear c28b0
       try clear c28b1
       try clear c30
       try clear c39
       try clear hx428_0
       try clear hx429_0
       try clear hx429_1
       try clear hx429_2
       try clear hx429_3
       try clear hx429_4
       try clear hx429_5
       try clear hx429_6
       try clear p2
       try clear p4
       try clear p428
       try clear p429
       try clear p6
       try clear q4
       try clear q428
       try clear q429
       obtain ⟨x10_2, rfl, HA, HK2, HO_3, HO_9, HB⟩ := hrel
       cases gk with
       | zero => exact absurd HA.out (by simp [laws_FnDelegated.l0])
       | succ k2 =>
        have H := HA.out
        clear HA
        simp only [laws_FnDelegated.l0] at H
        replace H := ifD H; rcases H with ⟨c40, H⟩ | ⟨c40, H⟩
        ·have c40b0 : decide (x10_2 < (t425.length : Int)) = true := decide_eq_true c40
         clear c40
         replace H := ifN H; obtain ⟨c41, H⟩ := H
         have c41b0 : decide (0 ≤ x10_2) = true := decide_eq_true c41
         clear c41
         obtain ⟨ji42, hji42⟩ : ∃ j_ : Int, (wrap64 ((rd t425 x10_2) - 1)) = j_ := ⟨_, rfl⟩
         replace H : (if 0 ≤ (ji42) then (if (ji42) < (t416.length : Int) then (if (rd_T51 t416 (ji42)).f6 = true then (laws_FnDelegated.j2 k2 t416 t417 t418 t419 t420 t425 x10_2 true) else (if ((rd_T51 t416 (ji42)).f4) < t420 then (laws_FnDelegated.j2 k2 t416 t417 t418 t419 t420 t425 x10_2 true) else ((laws_contains.f k2 ((rd_T51 t416 (ji42)).f3) t419).bind fun t437 => (if t437 = true then (if x10_2 > 0 then (if 0 ≤ (wrap64 (x10_2 - 1)) then (if (wrap64 (x10_2 - 1)) < (t425.length : Int) then (if 0 ≤ (wrap64 ((rd t425 (wrap64 (x10_2 - 1))) - 1)) then (if (wrap64 ((rd t425 (wrap64 (x10_2 - 1))) - 1)) < (t416.length : Int) then (laws_FnDelegated.j2 k2 t416 t417 t418 t419 t420 t425 x10_2 (((rd_T51 t416 (ji42)).f2) != ((rd_T51 t416 (wrap64 ((rd t425 (wrap64 (x10_2 - 1))) - 1))).f1))) else (none)) else (none)) else (none)) else (none)) else (laws_FnDelegated.j2 k2 t416 t417 t418 t419 t420 t425 x10_2 false)) else (laws_FnDelegated.j2 k2 t416 t417 t418 t419 t420 t425 x10_2 true))))) else (none)) else (none)) = some r := by first | (rw [hji42] at H; exact H) | (simp only [hji42] at H ⊢; exact H)
         have hji42w : (IntKind.i64.wrap ((rd t425 x10_2) - 1)) = ji42 := (i64_w _).trans hji42
         replace H := ifN H; obtain ⟨c43, H⟩ := H
         have c43b0 : decide (0 ≤ (ji42)) = true := decide_eq_true c43
         clear c43
         replace H := ifN H; obtain ⟨c44, H⟩ := H
         have c44b0 : decide ((ji42) < (t416.length : Int)) = true := decide_eq_true c44
         clear c44
         have HC45 := Aside0.mk H
         clear H
         obtain ⟨Ao46, co46, eo46⟩ := Kd.R_slice HO_9.out
         subst eo46
         have p434 : 0 ≤ (x10_2 : Int) := of_decide_eq_true (by first | (with_reducible assumption) | assumption)
         have q434 : x10_2 < (t425.length : Int) := of_decide_eq_true (by first | (with_reducible assumption) | assumption)
         obtain ⟨ad434, e434, hx434_0⟩ := Kd.at_int (Kd.R_reads' HO_9.out).2.2 x10_2 p434 q434
         cases e434
         replace p434 := eq_true p434
         replace q434 := eq_true q434
         have p435 : 0 ≤ ((ji42) : Int) := of_decide_eq_true (by first | (with_reducible assumption) | assumption)
         have q435 : (ji42) < (t416.length : Int) := of_decide_eq_true (by first | (with_reducible assumption) | assumption)
         obtain ⟨ad435, A435_3, c435_3, e435, hx435_0, hx435_1, hx435_2, hx435_3, hx435_4, hx435_5, hx435_6, hl435_3, hi435_3⟩ := at_T51 (Kd.S_reads' HO_3.out).2.2 (ji42) p435 q435
         cases e435
         obtain ⟨ce435, hce435, hMe435, hcc435⟩ := Kd.S_get HO_3.out z51 (ji42) p435 (by first | exact q435 | exact of_decide_eq_true (by first | (with_reducible assumption) | assumption) | (have e_ := (Kd.S_reads' HO_3.out).1; omega))
         obtain ⟨ve435_3, rfl, ge435_3⟩ := k51_openM hMe435
         have hv435_3 := hcc435 3 _ rfl
         rw [add_field _ _ 3 (by omega)] at hv435_3
         replace hv435_3 := Option.some.inj (hv435_3.symm.trans hx435_3)
         rw [hv435_3] at ge435_3
         have HL435_3 := Aside0.mk (show Kd.R (Kd.int .i64) 3 _ _ _ _ ((rd_T51 t416 (ji42)).f3) from ge435_3)
         clear hv435_3 ge435_3
         clear hcc435 hce435
         have HR435_3 := Aside0.mk hi435_3
         have HC435_3 := Aside0.mk hl435_3
         clear hi435_3 hl435_3
         replace p435 := eq_true p435
         replace q435 := eq_true q435
         go_upto_region 14 with (first | ((with_reducible refine gate_dst (N := 11) rfl ?_); refine box_event ?hg (N := 11) ?hd (cs := #[.int .i64 0, .int .i64 0, .int .i64 0, .slice none 0 0, .int .i64 0, .int .i64 0, .bool false]) (t := 51) ?hr ?_; (case hd => rfl); (case hg => rfl); (case hr => first | (go_simp; done) | (go_simp; rfl)); intro gb436 hg w47 hbox hb; have n0_ := Aside0.mk (Kd.S_below (Kd.S_elderB (by (with_reducible repeat (first | apply Kd.S_alloc | apply Kd.S_drewN | apply Kd.S_drew)); exact HO_3.out) gb436 (Nat.le_of_eq hg.symm)) hb); have n1_ := Aside0.mk (Kd.R_below (by (with_reducible repeat (first | apply Kd.R_alloc | apply Kd.R_drewN | apply Kd.R_drew)); exact HO_9.out) hb); have n2_ := Aside0.mk (Kd.R_below (by (with_reducible repeat (first | apply Kd.R_alloc | apply Kd.R_drewN | apply Kd.R_drew)); exact HL435_3.out) hb); have n3_ := Aside0.mk (Kd.C_below (by repeat (first | (with_reducible exact HR435_3.out) | (with_reducible refine Kd.C_alloc ?_ _) | (with_reducible refine Kd.C_drewN ?_ _) | (with_reducible refine Kd.C_drew ?_) | exact HR435_3.out)) hb); have n4_ := Aside0.mk (below_step (by repeat (first | (with_reducible first | exact HB.out | apply below_alloc | apply pw_below_drewN | apply below_drew1) | exact HB.out)) hb); have n5_ := Aside0.mk (hbox); have n6_ := Aside0.mk ((by rw [hg]; exact (below_size (by repeat (first | (with_reducible first | exact HB.out | apply below_alloc | apply pw_below_drewN | apply below_drew1) | exact HB.out))) : w.heap.size ≤ gb436)); have n7_ := Aside0.mk ((by rw [hg]; exact (below_size (by repeat (first | (with_reducible first | exact HB.out | apply below_alloc | apply pw_below_drewN | apply below_drew1) | exact HB.out))) : w.heap.size ≤ gb436)); clear HO_3; clear HO_9; clear HL435_3; clear HR435_3; clear HB; have HO_3 := n0_; have HO_9 := n1_; have HL435_3 := n2_; have HR435_3 := n3_; have HB := n4_; have BK436 := n5_; have GW436 := n6_; have GE436 := n7_; clear n0_ n1_ n2_ n3_ n4_ n5_ n6_ n7_; clear hb hbox hg; have hcz48_0 : w47.cell? ⟨gb436, 0, none⟩ = some (.int .i64 0) := (blk_cell BK436.out 0).trans rfl; have hcz48_1 : w47.cell? ⟨gb436, 1, none⟩ = some (.int .i64 0) := (blk_cell BK436.out 1).trans rfl; have hcz48_2 : w47.cell? ⟨gb436, 2, none⟩ = some (.int .i64 0) := (blk_cell BK436.out 2).trans rfl; have hcz48_3 : w47.cell? ⟨gb436, 3, none⟩ = some (.slice none 0 0) := (blk_cell BK436.out 3).trans rfl; have hcz48_4 : w47.cell? ⟨gb436, 4, none⟩ = some (.int .i64 0) := (blk_cell BK436.out 4).trans rfl; have hcz48_5 : w47.cell? ⟨gb436, 5, none⟩ = some (.int .i64 0) := (blk_cell BK436.out 5).trans rfl; have hcz48_6 : w47.cell? ⟨gb436, 6, none⟩ = some (.bool false) := (blk_cell BK436.out 6).trans rfl; have hfz48_0 := blk_frozen BK436.out 0; have hfz48_1 := blk_frozen BK436.out 1; have hfz48_2 := blk_frozen BK436.out 2; have hfz48_3 := blk_frozen BK436.out 3; have hfz48_4 := blk_frozen BK436.out 4; have hfz48_5 := blk_frozen BK436.out 5; have hfz48_6 := blk_frozen BK436.out 6))
         (try simp only [Act.put, List.setIfInBounds_toArray, List.set_cons_zero, List.set_cons_succ])
         go_cut [121] (fun v121 wc => ∃ (kq : Nat) (x121_44 : Bool), v121 = .bool x121_44 ∧ Aside0 (laws_FnDelegated.j2 kq t416 t417 t418 t419 t420 t425 x10_2 x121_44 = some r) ∧ Aside0 (kq ≤ k2) ∧ Aside0 (Kd.S k51 51 wc w.heap.size (fun k_ => some k_ ≠ ((.slice (some ad434) t425.length co46) : Value).ownBlock) (.slice (some ad435) t416.length co18) t416) ∧ Aside0 (Kd.R (Kd.int .i64) 3 wc w.heap.size (fun _ => True) (.slice (some ad434) t425.length co46) t425) ∧ Aside0 (Below w.heap.size w wc))
         case first =>
          have H := HC45.out
          clear HC45
          obtain ⟨bq49, hbq49⟩ : ∃ b_ : Bool, b_ = ((rd_T51 t416 (ji42)).f6) := ⟨_, rfl⟩
          replace H : (if bq49 = true then (laws_FnDelegated.j2 k2 t416 t417 t418 t419 t420 t425 x10_2 true) else (if ((rd_T51 t416 (ji42)).f4) < t420 then (laws_FnDelegated.j2 k2 t416 t417 t418 t419 t420 t425 x10_2 true) else ((laws_contains.f k2 ((rd_T51 t416 (ji42)).f3) t419).bind fun t437 => (if t437 = true then (if x10_2 > 0 then (if 0 ≤ (wrap64 (x10_2 - 1)) then (if (wrap64 (x10_2 - 1)) < (t425.length : Int) then (if 0 ≤ (wrap64 ((rd t425 (wrap64 (x10_2 - 1))) - 1)) then (if (wrap64 ((rd t425 (wrap64 (x10_2 - 1))) - 1)) < (t416.length : Int) then (laws_FnDelegated.j2 k2 t416 t417 t418 t419 t420 t425 x10_2 (((rd_T51 t416 (ji42)).f2) != ((rd_T51 t416 (wrap64 ((rd t425 (wrap64 (x10_2 - 1))) - 1))).f1))) else (none)) else (none)) else (none)) else (none)) else (laws_FnDelegated.j2 k2 t416 t417 t418 t419 t420 t425 x10_2 false)) else (laws_FnDelegated.j2 k2 t416 t417 t418 t419 t420 t425 x10_2 true))))) = some r := by rw [← hbq49] at H; exact H
          have Nbq49 := Aside0.mk hbq49
          clear hbq49
          (try rw [← Nbq49.out])
          by_cases c50 : bq49 = true
          ·subst c50
           have H1 : (laws_FnDelegated.j2 k2 t416 t417 t418 t419 t420 t425 x10_2 true) = some r := by rw [if_pos rfl] at H; exact H
           clear H
           have H := H1
           clear H1
           have H' := Aside0.mk H
           clear H
           try go_wp2
           have n0_ : Aside0 (Kd.S k51 51 (((((((w47.setCell ⟨gb436, 0, none⟩ (.int .i64 ((rd_T51 t416 (ji42)).f0))).setCell ⟨gb436, 1, none⟩ (.int .i64 ((rd_T51 t416 (ji42)).f1))).setCell ⟨gb436, 2, none⟩ (.int .i64 ((rd_T51 t416 (ji42)).f2))).setCell ⟨gb436, 3, none⟩ (.slice A435_3 ((rd_T51 t416 (ji42)).f3).length c435_3)).setCell ⟨gb436, 4, none⟩ (.int .i64 ((rd_T51 t416 (ji42)).f4))).setCell ⟨gb436, 5, none⟩ (.int .i64 ((rd_T51 t416 (ji42)).f5))).setCell ⟨gb436, 6, none⟩ (.bool (true))) w.heap.size (fun k_ => some k_ ≠ (.slice (some ad434) t425.length co46 : Value).ownBlock ∧ k_ ≠ gb436) (.slice (some ad435) t416.length co18) t416) := ⟨by (with_reducible repeat (first | apply Kd.S_alloc | apply Kd.S_drewN | apply Kd.S_drew)); exact Kd.S_mono (Kd.S_far (p := ⟨gb436, 6, none⟩) (Kd.S_far (p := ⟨gb436, 5, none⟩) (Kd.S_far (p := ⟨gb436, 4, none⟩) (Kd.S_far (p := ⟨gb436, 3, none⟩) (Kd.S_far (p := ⟨gb436, 2, none⟩) (Kd.S_far (p := ⟨gb436, 1, none⟩) (Kd.S_far (p := ⟨gb436, 0, none⟩) (Kd.S_mono HO_3.out (fun k_ hk => (⟨hk, hk.2⟩ : _ ∧ k_ ≠ gb436))) (fun _ hk => hk.2) (.int .i64 ((rd_T51 t416 (ji42)).f0))) (fun _ hk => hk.2) (.int .i64 ((rd_T51 t416 (ji42)).f1))) (fun _ hk => hk.2) (.int .i64 ((rd_T51 t416 (ji42)).f2))) (fun _ hk => hk.2) (.slice A435_3 ((rd_T51 t416 (ji42)).f3).length c435_3)) (fun _ hk => hk.2) (.int .i64 ((rd_T51 t416 (ji42)).f4))) (fun _ hk => hk.2) (.int .i64 ((rd_T51 t416 (ji42)).f5))) (fun _ hk => hk.2) (.bool (true))) (fun _ hk => ⟨hk.1.1, hk.1.2⟩)⟩
           have n1_ : Aside0 (Kd.R (Kd.int .i64) 3 (((((((w47.setCell ⟨gb436, 0, none⟩ (.int .i64 ((rd_T51 t416 (ji42)).f0))).setCell ⟨gb436, 1, none⟩ (.int .i64 ((rd_T51 t416 (ji42)).f1))).setCell ⟨gb436, 2, none⟩ (.int .i64 ((rd_T51 t416 (ji42)).f2))).setCell ⟨gb436, 3, none⟩ (.slice A435_3 ((rd_T51 t416 (ji42)).f3).length c435_3)).setCell ⟨gb436, 4, none⟩ (.int .i64 ((rd_T51 t416 (ji42)).f4))).setCell ⟨gb436, 5, none⟩ (.int .i64 ((rd_T51 t416 (ji42)).f5))).setCell ⟨gb436, 6, none⟩ (.bool (true))) w.heap.size (fun _ => True) (.slice (some ad434) t425.length co46) t425) := ⟨by (with_reducible repeat (first | apply Kd.R_alloc | apply Kd.R_drewN | apply Kd.R_drew)); exact Kd.R_mono (Kd.R_far (p := ⟨gb436, 6, none⟩) (Kd.R_far (p := ⟨gb436, 5, none⟩) (Kd.R_far (p := ⟨gb436, 4, none⟩) (Kd.R_far (p := ⟨gb436, 3, none⟩) (Kd.R_far (p := ⟨gb436, 2, none⟩) (Kd.R_far (p := ⟨gb436, 1, none⟩) (Kd.R_far (p := ⟨gb436, 0, none⟩) (Kd.R_types HO_9.out BK436.out (by decide)) (fun _ hk => hk.2) (.int .i64 ((rd_T51 t416 (ji42)).f0))) (fun _ hk => hk.2) (.int .i64 ((rd_T51 t416 (ji42)).f1))) (fun _ hk => hk.2) (.int .i64 ((rd_T51 t416 (ji42)).f2))) (fun _ hk => hk.2) (.slice A435_3 ((rd_T51 t416 (ji42)).f3).length c435_3)) (fun _ hk => hk.2) (.int .i64 ((rd_T51 t416 (ji42)).f4))) (fun _ hk => hk.2) (.int .i64 ((rd_T51 t416 (ji42)).f5))) (fun _ hk => hk.2) (.bool (true))) (fun _ hk => trivial)⟩
           have n2_ : Aside0 (Kd.R (Kd.int .i64) 3 (((((((w47.setCell ⟨gb436, 0, none⟩ (.int .i64 ((rd_T51 t416 (ji42)).f0))).setCell ⟨gb436, 1, none⟩ (.int .i64 ((rd_T51 t416 (ji42)).f1))).setCell ⟨gb436, 2, none⟩ (.int .i64 ((rd_T51 t416 (ji42)).f2))).setCell ⟨gb436, 3, none⟩ (.slice A435_3 ((rd_T51 t416 (ji42)).f3).length c435_3)).setCell ⟨gb436, 4, none⟩ (.int .i64 ((rd_T51 t416 (ji42)).f4))).setCell ⟨gb436, 5, none⟩ (.int .i64 ((rd_T51 t416 (ji42)).f5))).setCell ⟨gb436, 6, none⟩ (.bool (true))) w.heap.size (fun k_ => some k_ ≠ (.slice (some ad435) t416.length co18 : Value).ownBlock ∧ some k_ ≠ (.slice (some ad434) t425.length co46 : Value).ownBlock) (.slice A435_3 ((rd_T51 t416 (ji42)).f3).length c435_3) ((rd_T51 t416 (ji42)).f3)) := ⟨by (with_reducible repeat (first | apply Kd.R_alloc | apply Kd.R_drewN | apply Kd.R_drew)); exact Kd.R_mono (Kd.R_far (p := ⟨gb436, 6, none⟩) (Kd.R_far (p := ⟨gb436, 5, none⟩) (Kd.R_far (p := ⟨gb436, 4, none⟩) (Kd.R_far (p := ⟨gb436, 3, none⟩) (Kd.R_far (p := ⟨gb436, 2, none⟩) (Kd.R_far (p := ⟨gb436, 1, none⟩) (Kd.R_far (p := ⟨gb436, 0, none⟩) (Kd.R_types HL435_3.out BK436.out (by decide)) (fun _ hk => hk.2) (.int .i64 ((rd_T51 t416 (ji42)).f0))) (fun _ hk => hk.2) (.int .i64 ((rd_T51 t416 (ji42)).f1))) (fun _ hk => hk.2) (.int .i64 ((rd_T51 t416 (ji42)).f2))) (fun _ hk => hk.2) (.slice A435_3 ((rd_T51 t416 (ji42)).f3).length c435_3)) (fun _ hk => hk.2) (.int .i64 ((rd_T51 t416 (ji42)).f4))) (fun _ hk => hk.2) (.int .i64 ((rd_T51 t416 (ji42)).f5))) (fun _ hk => hk.2) (.bool (true))) (fun _ hk => ⟨hk.1.2, hk.1.1⟩)⟩
           have n3_ : Aside0 ((((((((w47.setCell ⟨gb436, 0, none⟩ (.int .i64 ((rd_T51 t416 (ji42)).f0))).setCell ⟨gb436, 1, none⟩ (.int .i64 ((rd_T51 t416 (ji42)).f1))).setCell ⟨gb436, 2, none⟩ (.int .i64 ((rd_T51 t416 (ji42)).f2))).setCell ⟨gb436, 3, none⟩ (.slice A435_3 ((rd_T51 t416 (ji42)).f3).length c435_3)).setCell ⟨gb436, 4, none⟩ (.int .i64 ((rd_T51 t416 (ji42)).f4))).setCell ⟨gb436, 5, none⟩ (.int .i64 ((rd_T51 t416 (ji42)).f5))).setCell ⟨gb436, 6, none⟩ (.bool (true))).heap[gb436]? = some (.cells #[.int .i64 ((rd_T51 t416 (ji42)).f0), .int .i64 ((rd_T51 t416 (ji42)).f1), .int .i64 ((rd_T51 t416 (ji42)).f2), .slice A435_3 ((rd_T51 t416 (ji42)).f3).length c435_3, .int .i64 ((rd_T51 t416 (ji42)).f4), .int .i64 ((rd_T51 t416 (ji42)).f5), .bool true] 51 (0, 0))) := ⟨by (with_reducible repeat (first | refine blk_drewN ?_ _ | refine blk_drew ?_ | refine blk_alloc ?_ _)); refine blk_put (cs := #[.int .i64 ((rd_T51 t416 (ji42)).f0), .int .i64 ((rd_T51 t416 (ji42)).f1), .int .i64 ((rd_T51 t416 (ji42)).f2), .slice A435_3 ((rd_T51 t416 (ji42)).f3).length c435_3, .int .i64 ((rd_T51 t416 (ji42)).f4), .int .i64 ((rd_T51 t416 (ji42)).f5), .bool false]) ?_ 6 _ rfl; (with_reducible repeat (first | refine blk_drewN ?_ _ | refine blk_drew ?_ | refine blk_alloc ?_ _)); refine blk_put (cs := #[.int .i64 ((rd_T51 t416 (ji42)).f0), .int .i64 ((rd_T51 t416 (ji42)).f1), .int .i64 ((rd_T51 t416 (ji42)).f2), .slice A435_3 ((rd_T51 t416 (ji42)).f3).length c435_3, .int .i64 ((rd_T51 t416 (ji42)).f4), .int .i64 0, .bool false]) ?_ 5 _ rfl; (with_reducible repeat (first | refine blk_drewN ?_ _ | refine blk_drew ?_ | refine blk_alloc ?_ _)); refine blk_put (cs := #[.int .i64 ((rd_T51 t416 (ji42)).f0), .int .i64 ((rd_T51 t416 (ji42)).f1), .int .i64 ((rd_T51 t416 (ji42)).f2), .slice A435_3 ((rd_T51 t416 (ji42)).f3).length c435_3, .int .i64 0, .int .i64 0, .bool false]) ?_ 4 _ rfl; (with_reducible repeat (first | refine blk_drewN ?_ _ | refine blk_drew ?_ | refine blk_alloc ?_ _)); refine blk_put (cs := #[.int .i64 ((rd_T51 t416 (ji42)).f0), .int .i64 ((rd_T51 t416 (ji42)).f1), .int .i64 ((rd_T51 t416 (ji42)).f2), .slice none 0 0, .int .i64 0, .int .i64 0, .bool false]) ?_ 3 _ rfl; (with_reducible repeat (first | refine blk_drewN ?_ _ | refine blk_drew ?_ | refine blk_alloc ?_ _)); refine blk_put (cs := #[.int .i64 ((rd_T51 t416 (ji42)).f0), .int .i64 ((rd_T51 t416 (ji42)).f1), .int .i64 0, .slice none 0 0, .int .i64 0, .int .i64 0, .bool false]) ?_ 2 _ rfl; (with_reducible repeat (first | refine blk_drewN ?_ _ | refine blk_drew ?_ | refine blk_alloc ?_ _)); refine blk_put (cs := #[.int .i64 ((rd_T51 t416 (ji42)).f0), .int .i64 0, .int .i64 0, .slice none 0 0, .int .i64 0, .int .i64 0, .bool false]) ?_ 1 _ rfl; (with_reducible repeat (first | refine blk_drewN ?_ _ | refine blk_drew ?_ | refine blk_alloc ?_ _)); refine blk_put (cs := #[.int .i64 0, .int .i64 0, .int .i64 0, .slice none 0 0, .int .i64 0, .int .i64 0, .bool false]) ?_ 0 _ rfl; (with_reducible repeat (first | refine blk_drewN ?_ _ | refine blk_drew ?_ | refine blk_alloc ?_ _)); exact BK436.out⟩
           have n4_ : Aside0 (Below w.heap.size w (((((((w47.setCell ⟨gb436, 0, none⟩ (.int .i64 ((rd_T51 t416 (ji42)).f0))).setCell ⟨gb436, 1, none⟩ (.int .i64 ((rd_T51 t416 (ji42)).f1))).setCell ⟨gb436, 2, none⟩ (.int .i64 ((rd_T51 t416 (ji42)).f2))).setCell ⟨gb436, 3, none⟩ (.slice A435_3 ((rd_T51 t416 (ji42)).f3).length c435_3)).setCell ⟨gb436, 4, none⟩ (.int .i64 ((rd_T51 t416 (ji42)).f4))).setCell ⟨gb436, 5, none⟩ (.int .i64 ((rd_T51 t416 (ji42)).f5))).setCell ⟨gb436, 6, none⟩ (.bool (true)))) := ⟨by repeat (first | (with_reducible first | exact HB.out | apply below_alloc | apply pw_below_drewN | apply below_drew1 | refine below_set ?_ GE436.out) | exact HB.out)⟩
           (try clear HO_3)
           (try clear HO_9)
           (try clear HL435_3)
           (try clear BK436)
           (try clear HB)
           generalize (((((((w47.setCell ⟨gb436, 0, none⟩ (.int .i64 ((rd_T51 t416 (ji42)).f0))).setCell ⟨gb436, 1, none⟩ (.int .i64 ((rd_T51 t416 (ji42)).f1))).setCell ⟨gb436, 2, none⟩ (.int .i64 ((rd_T51 t416 (ji42)).f2))).setCell ⟨gb436, 3, none⟩ (.slice A435_3 ((rd_T51 t416 (ji42)).f3).length c435_3)).setCell ⟨gb436, 4, none⟩ (.int .i64 ((rd_T51 t416 (ji42)).f4))).setCell ⟨gb436, 5, none⟩ (.int .i64 ((rd_T51 t416 (ji42)).f5))).setCell ⟨gb436, 6, none⟩ (.bool (true))) = w51 at n0_ n1_ n2_ n3_ n4_ ⊢
           have HO_3 := n0_
           have HO_9 := n1_
           have HL435_3 := n2_
           have BK436 := n3_
           have HB := n4_
           clear n0_ n1_ n2_ n3_ n4_
           have n0_ := Aside0.mk (Kd.S_drew HO_3.out)
           have n1_ := Aside0.mk (Kd.R_drew HO_9.out)
           have n2_ := Aside0.mk (Kd.R_drew HL435_3.out)
           have n3_ := Aside0.mk (blk_drew BK436.out)
           have n4_ := Aside0.mk (below_drew1 HB.out)
           clear HO_3
           clear HO_9
           clear HL435_3
           clear BK436
           clear HB
           have HO_3 := n0_
           have HO_9 := n1_
           have HL435_3 := n2_
           have BK436 := n3_
           have HB := n4_
           clear n0_ n1_ n2_ n3_ n4_
           refine start_ (n := 34) (S := fun w' => w'.cell? ⟨gb436, 0, none⟩ = some (.int .i64 ((rd_T51 t416 (ji42)).f0)) ∧ w'.cell? ⟨gb436, 1, none⟩ = some (.int .i64 ((rd_T51 t416 (ji42)).f1)) ∧ w'.cell? ⟨gb436, 2, none⟩ = some (.int .i64 ((rd_T51 t416 (ji42)).f2)) ∧ w'.cell? ⟨gb436, 3, none⟩ = some (.slice A435_3 ((rd_T51 t416 (ji42)).f3).length c435_3) ∧ w'.cell? ⟨gb436, 4, none⟩ = some (.int .i64 ((rd_T51 t416 (ji42)).f4)) ∧ w'.cell? ⟨gb436, 5, none⟩ = some (.int .i64 ((rd_T51 t416 (ji42)).f5)) ∧ w'.cell? ⟨gb436, 6, none⟩ = some (.bool true)) (ds := []) b1_0 (by kernel_rfl) rfl rfl ⟨(blk_cell BK436.out 0).trans rfl, (blk_cell BK436.out 1).trans rfl, (blk_cell BK436.out 2).trans rfl, (blk_cell BK436.out 3).trans rfl, (blk_cell BK436.out 4).trans rfl, (blk_cell BK436.out 5).trans rfl, (blk_cell BK436.out 6).trans rfl⟩ (fun hHeld => ?_); refine with_tabW laws_FnDelegated.tab14 laws_FnDelegated.bits14 (fun HT_ HW_ => ?_)
           generalize w51.drew = w52 at HO_3 HO_9 HL435_3 BK436 HB hHeld ⊢
           refine pure_ (i := 0) (N := some 88) (v := ?_) (a' := ?_) b1_1 rfl rfl (any_of HT_.out (by kernel_rfl)) (fun _ _ _ h => h) (Or.inl ⟨by rfl, ?_⟩) ?_ ?_
           rotate_left
           ·intro w'
            go_simp
            with_reducible rfl
           rotate_left
           ·simp only [Act.put, List.setIfInBounds_toArray, List.set_cons_zero, List.set_cons_succ, i64_w, i32_w]
            rfl
           refine take_ (i := 1) (N := some 89) (v := ?_) (a' := ?_) b1_2 rfl rfl (take_ofW HT_.out HW_.out (by kernel_rfl)) (fun _ _ _ h => h) (Or.inl ⟨by rfl, ?_⟩) hHeld ?_ ?_
           rotate_left
           ·rintro w' ⟨s0, s1, s2, s3, s4, s5, s6⟩
            go_simp
            with_reducible rfl
           rotate_left
           ·simp only [Act.put, List.setIfInBounds_toArray, List.set_cons_zero, List.set_cons_succ, i64_w, i32_w]
            rfl
           refine pure_ (i := 2) (N := some 90) (v := ?_) (a' := ?_) b1_3 rfl rfl (any_of HT_.out (by kernel_rfl)) (fun _ _ _ h => h) (Or.inl ⟨by rfl, ?_⟩) ?_ ?_
           rotate_left
           ·intro w'
            go_simp
            with_reducible rfl
           rotate_left
           ·simp only [Act.put, List.setIfInBounds_toArray, List.set_cons_zero, List.set_cons_succ, i64_w, i32_w]
            rfl
           refine pure_ (i := 3) (N := some 91) (v := undef) (a' := ?_) b1_4 rfl rfl (any_of HT_.out (by kernel_rfl)) (fun _ _ _ h => h) (Or.inr ⟨by rfl, rfl⟩) ?_ ?_
           rotate_left
           ·simp only [Act.put, List.setIfInBounds_toArray, List.set_cons_zero, List.set_cons_succ, i64_w, i32_w]
            rfl
           refine pure_ (i := 4) (N := some 92) (v := undef) (a' := ?_) b1_6 rfl rfl (any_of HT_.out (by kernel_rfl)) (fun _ _ _ h => h) (Or.inr ⟨by rfl, rfl⟩) ?_ ?_
           rotate_left
           ·simp only [Act.put, List.setIfInBounds_toArray, List.set_cons_zero, List.set_cons_succ, i64_w, i32_w]
            rfl
           refine pure_ (i := 5) (N := some 93) (v := undef) (a' := ?_) b1_7 rfl rfl (any_of HT_.out (by kernel_rfl)) (fun _ _ _ h => h) (Or.inr ⟨by rfl, rfl⟩) ?_ ?_
           rotate_left
           ·simp only [Act.put, List.setIfInBounds_toArray, List.set_cons_zero, List.set_cons_succ, i64_w, i32_w]
            rfl
           refine pure_ (i := 6) (N := some 94) (v := undef) (a' := ?_) b1_8 rfl rfl (any_of HT_.out (by kernel_rfl)) (fun _ _ _ h => h) (Or.inr ⟨by rfl, rfl⟩) ?_ ?_
           rotate_left
           ·simp only [Act.put, List.setIfInBounds_toArray, List.set_cons_zero, List.set_cons_succ, i64_w, i32_w]
            rfl
           refine pure_ (i := 7) (N := some 95) (v := ?_) (a' := ?_) b1_9 rfl rfl (any_of HT_.out (by kernel_rfl)) (fun _ _ _ h => h) (Or.inl ⟨by rfl, ?_⟩) ?_ ?_
           rotate_left
           ·intro w'
            go_simp
            with_reducible rfl
           rotate_left
           ·simp only [Act.put, List.setIfInBounds_toArray, List.set_cons_zero, List.set_cons_succ, i64_w, i32_w]
            rfl
           refine pure_ (i := 8) (N := some 96) (v := ?_) (a' := ?_) b1_10 rfl rfl (any_of HT_.out (by kernel_rfl)) (fun _ _ _ h => h) (Or.inl ⟨by rfl, ?_⟩) ?_ ?_
           rotate_left
           ·intro w'
            go_simp
            with_reducible rfl
           rotate_left
           ·simp only [Act.put, List.setIfInBounds_toArray, List.set_cons_zero, List.set_cons_succ, i64_w, i32_w]
            rfl
           refine pure_ (i := 9) (N := some 97) (v := undef) (a' := ?_) b1_11 rfl rfl (any_of HT_.out (by kernel_rfl)) (fun _ _ _ h => h) (Or.inr ⟨by rfl, rfl⟩) ?_ ?_
           rotate_left
           ·simp only [Act.put, List.setIfInBounds_toArray, List.set_cons_zero, List.set_cons_succ, i64_w, i32_w]
            rfl
           refine pure_ (i := 10) (N := some 98) (v := undef) (a' := ?_) b1_13 rfl rfl (any_of HT_.out (by kernel_rfl)) (fun _ _ _ h => h) (Or.inr ⟨by rfl, rfl⟩) ?_ ?_
           rotate_left
           ·simp only [Act.put, List.setIfInBounds_toArray, List.set_cons_zero, List.set_cons_succ, i64_w, i32_w]
            rfl
           refine pure_ (i := 11) (N := some 99) (v := undef) (a' := ?_) b1_14 rfl rfl (any_of HT_.out (by kernel_rfl)) (fun _ _ _ h => h) (Or.inr ⟨by rfl, rfl⟩) ?_ ?_
           rotate_left
           ·simp only [Act.put, List.setIfInBounds_toArray, List.set_cons_zero, List.set_cons_succ, i64_w, i32_w]
            rfl
           refine pure_ (i := 12) (N := some 100) (v := undef) (a' := ?_) b1_15 rfl rfl (any_of HT_.out (by kernel_rfl)) (fun _ _ _ h => h) (Or.inr ⟨by rfl, rfl⟩) ?_ ?_
           rotate_left
           ·simp only [Act.put, List.setIfInBounds_toArray, List.set_cons_zero, List.set_cons_succ, i64_w, i32_w]
            rfl
           refine pure_ (i := 13) (N := some 101) (v := undef) (a' := ?_) b1_16 rfl rfl (any_of HT_.out (by kernel_rfl)) (fun _ _ _ h => h) (Or.inr ⟨by rfl, rfl⟩) ?_ ?_
           rotate_left
           ·simp only [Act.put, List.setIfInBounds_toArray, List.set_cons_zero, List.set_cons_succ, i64_w, i32_w]
            rfl
           refine pure_ (i := 14) (N := some 102) (v := ?_) (a' := ?_) b1_17 rfl rfl (any_of HT_.out (by kernel_rfl)) (fun _ _ _ h => h) (Or.inl ⟨by rfl, ?_⟩) ?_ ?_
           rotate_left
           ·intro w'
            go_simp
            with_reducible rfl
           rotate_left
           ·simp only [Act.put, List.setIfInBounds_toArray, List.set_cons_zero, List.set_cons_succ, i64_w, i32_w]
            rfl
           refine pure_ (i := 15) (N := some 103) (v := ?_) (a' := ?_) b1_18 rfl rfl (any_of HT_.out (by kernel_rfl)) (fun _ _ _ h => h) (Or.inl ⟨by rfl, ?_⟩) ?_ ?_
           rotate_left
           ·intro w'
            go_simp
            with_reducible rfl
           rotate_left
           ·simp only [Act.put, List.setIfInBounds_toArray, List.set_cons_zero, List.set_cons_succ, i64_w, i32_w]
            rfl
           refine pure_ (i := 16) (N := some 104) (v := undef) (a' := ?_) b1_19 rfl rfl (any_of HT_.out (by kernel_rfl)) (fun _ _ _ h => h) (Or.inr ⟨by rfl, rfl⟩) ?_ ?_
           rotate_left
           ·simp only [Act.put, List.setIfInBounds_toArray, List.set_cons_zero, List.set_cons_succ, i64_w, i32_w]
            rfl
           refine pure_ (i := 17) (N := some 105) (v := undef) (a' := ?_) b1_20 rfl rfl (any_of HT_.out (by kernel_rfl)) (fun _ _ _ h => h) (Or.inr ⟨by rfl, rfl⟩) ?_ ?_
           rotate_left
           ·simp only [Act.put, List.setIfInBounds_toArray, List.set_cons_zero, List.set_cons_succ, i64_w, i32_w]
            rfl
           refine pure_ (i := 18) (N := some 106) (v := undef) (a' := ?_) b1_21 rfl rfl (any_of HT_.out (by kernel_rfl)) (fun _ _ _ h => h) (Or.inr ⟨by rfl, rfl⟩) ?_ ?_
           rotate_left
           ·simp only [Act.put, List.setIfInBounds_toArray, List.set_cons_zero, List.set_cons_succ, i64_w, i32_w]
            rfl
           refine pure_ (i := 19) (N := some 107) (v := undef) (a' := ?_) b1_22 rfl rfl (any_of HT_.out (by kernel_rfl)) (fun _ _ _ h => h) (Or.inr ⟨by rfl, rfl⟩) ?_ ?_
           rotate_left
           ·simp only [Act.put, List.setIfInBounds_toArray, List.set_cons_zero, List.set_cons_succ, i64_w, i32_w]
            rfl
           refine pure_ (i := 20) (N := some 108) (v := undef) (a' := ?_) b1_28 rfl rfl (any_of HT_.out (by kernel_rfl)) (fun _ _ _ h => h) (Or.inr ⟨by rfl, rfl⟩) ?_ ?_
           rotate_left
           ·simp only [Act.put, List.setIfInBounds_toArray, List.set_cons_zero, List.set_cons_succ, i64_w, i32_w]
            rfl
           refine pure_ (i := 21) (N := some 109) (v := undef) (a' := ?_) b1_29 rfl rfl (any_of HT_.out (by kernel_rfl)) (fun _ _ _ h => h) (Or.inr ⟨by rfl, rfl⟩) ?_ ?_
           rotate_left
           ·simp only [Act.put, List.setIfInBounds_toArray, List.set_cons_zero, List.set_cons_succ, i64_w, i32_w]
            rfl
           refine pure_ (i := 22) (N := some 110) (v := undef) (a' := ?_) b1_30 rfl rfl (any_of HT_.out (by kernel_rfl)) (fun _ _ _ h => h) (Or.inr ⟨by rfl, rfl⟩) ?_ ?_
           rotate_left
           ·simp only [Act.put, List.setIfInBounds_toArray, List.set_cons_zero, List.set_cons_succ, i64_w, i32_w]
            rfl
           refine pure_ (i := 23) (N := some 111) (v := undef) (a' := ?_) b1_31 rfl rfl (any_of HT_.out (by kernel_rfl)) (fun _ _ _ h => h) (Or.inr ⟨by rfl, rfl⟩) ?_ ?_
           rotate_left
           ·simp only [Act.put, List.setIfInBounds_toArray, List.set_cons_zero, List.set_cons_succ, i64_w, i32_w]
            rfl
           refine pure_ (i := 24) (N := some 112) (v := undef) (a' := ?_) b1_32 rfl rfl (any_of HT_.out (by kernel_rfl)) (fun _ _ _ h => h) (Or.inr ⟨by rfl, rfl⟩) ?_ ?_
           rotate_left
           ·simp only [Act.put, List.setIfInBounds_toArray, List.set_cons_zero, List.set_cons_succ, i64_w, i32_w]
            rfl
           refine pure_ (i := 25) (N := some 113) (v := undef) (a' := ?_) b1_33 rfl rfl (any_of HT_.out (by kernel_rfl)) (fun _ _ _ h => h) (Or.inr ⟨by rfl, rfl⟩) ?_ ?_
           rotate_left
           ·simp only [Act.put, List.setIfInBounds_toArray, List.set_cons_zero, List.set_cons_succ, i64_w, i32_w]
            rfl
           refine pure_ (i := 26) (N := some 114) (v := undef) (a' := ?_) b1_34 rfl rfl (any_of HT_.out (by kernel_rfl)) (fun _ _ _ h => h) (Or.inr ⟨by rfl, rfl⟩) ?_ ?_
           rotate_left
           ·simp only [Act.put, List.setIfInBounds_toArray, List.set_cons_zero, List.set_cons_succ, i64_w, i32_w]
            rfl
           refine pure_ (i := 27) (N := some 115) (v := undef) (a' := ?_) b1_35 rfl rfl (any_of HT_.out (by kernel_rfl)) (fun _ _ _ h => h) (Or.inr ⟨by rfl, rfl⟩) ?_ ?_
           rotate_left
           ·simp only [Act.put, List.setIfInBounds_toArray, List.set_cons_zero, List.set_cons_succ, i64_w, i32_w]
            rfl
           refine pure_ (i := 28) (N := some 116) (v := undef) (a' := ?_) b1_36 rfl rfl (any_of HT_.out (by kernel_rfl)) (fun _ _ _ h => h) (Or.inr ⟨by rfl, rfl⟩) ?_ ?_
           rotate_left
           ·simp only [Act.put, List.setIfInBounds_toArray, List.set_cons_zero, List.set_cons_succ, i64_w, i32_w]
            rfl
           refine pure_ (i := 29) (N := some 117) (v := undef) (a' := ?_) b1_37 rfl rfl (any_of HT_.out (by kernel_rfl)) (fun _ _ _ h => h) (Or.inr ⟨by rfl, rfl⟩) ?_ ?_
           rotate_left
           ·simp only [Act.put, List.setIfInBounds_toArray, List.set_cons_zero, List.set_cons_succ, i64_w, i32_w]
            rfl
           refine pure_ (i := 30) (N := some 118) (v := undef) (a' := ?_) b1_38 rfl rfl (any_of HT_.out (by kernel_rfl)) (fun _ _ _ h => h) (Or.inr ⟨by rfl, rfl⟩) ?_ ?_
           rotate_left
           ·simp only [Act.put, List.setIfInBounds_toArray, List.set_cons_zero, List.set_cons_succ, i64_w, i32_w]
            rfl
           refine pure_ (i := 31) (N := some 119) (v := undef) (a' := ?_) b1_39 rfl rfl (any_of HT_.out (by kernel_rfl)) (fun _ _ _ h => h) (Or.inr ⟨by rfl, rfl⟩) ?_ ?_
           rotate_left
           ·simp only [Act.put, List.setIfInBounds_toArray, List.set_cons_zero, List.set_cons_succ, i64_w, i32_w]
            rfl
           refine pure_ (i := 32) (N := some 120) (v := undef) (a' := ?_) b1_40 rfl rfl (any_of HT_.out (by kernel_rfl)) (fun _ _ _ h => h) (Or.inr ⟨by rfl, rfl⟩) ?_ ?_
           rotate_left
           ·simp only [Act.put, List.setIfInBounds_toArray, List.set_cons_zero, List.set_cons_succ, i64_w, i32_w]
            rfl
           refine pure_ (i := 33) (N := some 121) (v := ?_) (a' := ?_) b1_41 rfl rfl (any_of HT_.out (by kernel_rfl)) (fun _ _ _ h => h) (Or.inl ⟨by rfl, ?_⟩) ?_ ?_
           rotate_left
           ·intro w'
            go_simp
            with_reducible rfl
           rotate_left
           ·simp only [Act.put, List.setIfInBounds_toArray, List.set_cons_zero, List.set_cons_succ, i64_w, i32_w]
            rfl
           refine done_ (done_of HT_.out (by kernel_rfl)) ?_
           try go_wp2
           go_meet
           case rel => exact ⟨_, (true), (by first | rfl | (simp; done) | (simp [*]; done)), H', ⟨by have := HJ14.out; have := HK2.out; first | omega | exact Nat.le_refl _⟩, ⟨by (with_reducible repeat (first | apply Kd.S_alloc | apply Kd.S_drewN | apply Kd.S_drew)); exact Kd.S_mono HO_3.out (fun _ hk => hk.1)⟩, ⟨by (with_reducible repeat (first | apply Kd.R_alloc | apply Kd.R_drewN | apply Kd.R_drew)); exact HO_9.out⟩, ⟨by repeat (first | (with_reducible first | exact HB.out | apply below_alloc | apply pw_below_drewN | apply below_drew1 | refine below_set ?_ GE436.out) | exact HB.out)⟩⟩
          ·replace c50 := Bool.eq_false_iff.mpr c50
           subst c50
           have H1 : (if ((rd_T51 t416 (ji42)).f4) < t420 then (laws_FnDelegated.j2 k2 t416 t417 t418 t419 t420 t425 x10_2 true) else ((laws_contains.f k2 ((rd_T51 t416 (ji42)).f3) t419).bind fun t437 => (if t437 = true then (if x10_2 > 0 then (if 0 ≤ (wrap64 (x10_2 - 1)) then (if (wrap64 (x10_2 - 1)) < (t425.length : Int) then (if 0 ≤ (wrap64 ((rd t425 (wrap64 (x10_2 - 1))) - 1)) then (if (wrap64 ((rd t425 (wrap64 (x10_2 - 1))) - 1)) < (t416.length : Int) then (laws_FnDelegated.j2 k2 t416 t417 t418 t419 t420 t425 x10_2 (((rd_T51 t416 (ji42)).f2) != ((rd_T51 t416 (wrap64 ((rd t425 (wrap64 (x10_2 - 1))) - 1))).f1))) else (none)) else (none)) else (none)) else (none)) else (laws_FnDelegated.j2 k2 t416 t417 t418 t419 t420 t425 x10_2 false)) else (laws_FnDelegated.j2 k2 t416 t417 t418 t419 t420 t425 x10_2 true)))) = some r := by rw [if_neg (show ¬ (false = true) by decide)] at H; exact H
           clear H
           have H := H1
           clear H1
           replace H := ifD H; rcases H with ⟨c53, H⟩ | ⟨c53, H⟩
           ·have c53b0 : decide (((rd_T51 t416 (ji42)).f4) < t420) = true := decide_eq_true c53
            clear c53
            have H' := Aside0.mk H
            clear H
            try go_wp2
            have n0_ : Aside0 (Kd.S k51 51 (((((((w47.setCell ⟨gb436, 0, none⟩ (.int .i64 ((rd_T51 t416 (ji42)).f0))).setCell ⟨gb436, 1, none⟩ (.int .i64 ((rd_T51 t416 (ji42)).f1))).setCell ⟨gb436, 2, none⟩ (.int .i64 ((rd_T51 t416 (ji42)).f2))).setCell ⟨gb436, 3, none⟩ (.slice A435_3 ((rd_T51 t416 (ji42)).f3).length c435_3)).setCell ⟨gb436, 4, none⟩ (.int .i64 ((rd_T51 t416 (ji42)).f4))).setCell ⟨gb436, 5, none⟩ (.int .i64 ((rd_T51 t416 (ji42)).f5))).setCell ⟨gb436, 6, none⟩ (.bool (false))) w.heap.size (fun k_ => some k_ ≠ (.slice (some ad434) t425.length co46 : Value).ownBlock ∧ k_ ≠ gb436) (.slice (some ad435) t416.length co18) t416) := ⟨by (with_reducible repeat (first | apply Kd.S_alloc | apply Kd.S_drewN | apply Kd.S_drew)); exact Kd.S_mono (Kd.S_far (p := ⟨gb436, 6, none⟩) (Kd.S_far (p := ⟨gb436, 5, none⟩) (Kd.S_far (p := ⟨gb436, 4, none⟩) (Kd.S_far (p := ⟨gb436, 3, none⟩) (Kd.S_far (p := ⟨gb436, 2, none⟩) (Kd.S_far (p := ⟨gb436, 1, none⟩) (Kd.S_far (p := ⟨gb436, 0, none⟩) (Kd.S_mono HO_3.out (fun k_ hk => (⟨hk, hk.2⟩ : _ ∧ k_ ≠ gb436))) (fun _ hk => hk.2) (.int .i64 ((rd_T51 t416 (ji42)).f0))) (fun _ hk => hk.2) (.int .i64 ((rd_T51 t416 (ji42)).f1))) (fun _ hk => hk.2) (.int .i64 ((rd_T51 t416 (ji42)).f2))) (fun _ hk => hk.2) (.slice A435_3 ((rd_T51 t416 (ji42)).f3).length c435_3)) (fun _ hk => hk.2) (.int .i64 ((rd_T51 t416 (ji42)).f4))) (fun _ hk => hk.2) (.int .i64 ((rd_T51 t416 (ji42)).f5))) (fun _ hk => hk.2) (.bool (false))) (fun _ hk => ⟨hk.1.1, hk.1.2⟩)⟩
            have n1_ : Aside0 (Kd.R (Kd.int .i64) 3 (((((((w47.setCell ⟨gb436, 0, none⟩ (.int .i64 ((rd_T51 t416 (ji42)).f0))).setCell ⟨gb436, 1, none⟩ (.int .i64 ((rd_T51 t416 (ji42)).f1))).setCell ⟨gb436, 2, none⟩ (.int .i64 ((rd_T51 t416 (ji42)).f2))).setCell ⟨gb436, 3, none⟩ (.slice A435_3 ((rd_T51 t416 (ji42)).f3).length c435_3)).setCell ⟨gb436, 4, none⟩ (.int .i64 ((rd_T51 t416 (ji42)).f4))).setCell ⟨gb436, 5, none⟩ (.int .i64 ((rd_T51 t416 (ji42)).f5))).setCell ⟨gb436, 6, none⟩ (.bool (false))) w.heap.size (fun _ => True) (.slice (some ad434) t425.length co46) t425) := ⟨by (with_reducible repeat (first | apply Kd.R_alloc | apply Kd.R_drewN | apply Kd.R_drew)); exact Kd.R_mono (Kd.R_far (p := ⟨gb436, 6, none⟩) (Kd.R_far (p := ⟨gb436, 5, none⟩) (Kd.R_far (p := ⟨gb436, 4, none⟩) (Kd.R_far (p := ⟨gb436, 3, none⟩) (Kd.R_far (p := ⟨gb436, 2, none⟩) (Kd.R_far (p := ⟨gb436, 1, none⟩) (Kd.R_far (p := ⟨gb436, 0, none⟩) (Kd.R_types HO_9.out BK436.out (by decide)) (fun _ hk => hk.2) (.int .i64 ((rd_T51 t416 (ji42)).f0))) (fun _ hk => hk.2) (.int .i64 ((rd_T51 t416 (ji42)).f1))) (fun _ hk => hk.2) (.int .i64 ((rd_T51 t416 (ji42)).f2))) (fun _ hk => hk.2) (.slice A435_3 ((rd_T51 t416 (ji42)).f3).length c435_3)) (fun _ hk => hk.2) (.int .i64 ((rd_T51 t416 (ji42)).f4))) (fun _ hk => hk.2) (.int .i64 ((rd_T51 t416 (ji42)).f5))) (fun _ hk => hk.2) (.bool (false))) (fun _ hk => trivial)⟩
            have n2_ : Aside0 (Kd.R (Kd.int .i64) 3 (((((((w47.setCell ⟨gb436, 0, none⟩ (.int .i64 ((rd_T51 t416 (ji42)).f0))).setCell ⟨gb436, 1, none⟩ (.int .i64 ((rd_T51 t416 (ji42)).f1))).setCell ⟨gb436, 2, none⟩ (.int .i64 ((rd_T51 t416 (ji42)).f2))).setCell ⟨gb436, 3, none⟩ (.slice A435_3 ((rd_T51 t416 (ji42)).f3).length c435_3)).setCell ⟨gb436, 4, none⟩ (.int .i64 ((rd_T51 t416 (ji42)).f4))).setCell ⟨gb436, 5, none⟩ (.int .i64 ((rd_T51 t416 (ji42)).f5))).setCell ⟨gb436, 6, none⟩ (.bool (false))) w.heap.size (fun k_ => some k_ ≠ (.slice (some ad435) t416.length co18 : Value).ownBlock ∧ some k_ ≠ (.slice (some ad434) t425.length co46 : Value).ownBlock) (.slice A435_3 ((rd_T51 t416 (ji42)).f3).length c435_3) ((rd_T51 t416 (ji42)).f3)) := ⟨by (with_reducible repeat (first | apply Kd.R_alloc | apply Kd.R_drewN | apply Kd.R_drew)); exact Kd.R_mono (Kd.R_far (p := ⟨gb436, 6, none⟩) (Kd.R_far (p := ⟨gb436, 5, none⟩) (Kd.R_far (p := ⟨gb436, 4, none⟩) (Kd.R_far (p := ⟨gb436, 3, none⟩) (Kd.R_far (p := ⟨gb436, 2, none⟩) (Kd.R_far (p := ⟨gb436, 1, none⟩) (Kd.R_far (p := ⟨gb436, 0, none⟩) (Kd.R_types HL435_3.out BK436.out (by decide)) (fun _ hk => hk.2) (.int .i64 ((rd_T51 t416 (ji42)).f0))) (fun _ hk => hk.2) (.int .i64 ((rd_T51 t416 (ji42)).f1))) (fun _ hk => hk.2) (.int .i64 ((rd_T51 t416 (ji42)).f2))) (fun _ hk => hk.2) (.slice A435_3 ((rd_T51 t416 (ji42)).f3).length c435_3)) (fun _ hk => hk.2) (.int .i64 ((rd_T51 t416 (ji42)).f4))) (fun _ hk => hk.2) (.int .i64 ((rd_T51 t416 (ji42)).f5))) (fun _ hk => hk.2) (.bool (false))) (fun _ hk => ⟨hk.1.2, hk.1.1⟩)⟩
            have n3_ : Aside0 ((((((((w47.setCell ⟨gb436, 0, none⟩ (.int .i64 ((rd_T51 t416 (ji42)).f0))).setCell ⟨gb436, 1, none⟩ (.int .i64 ((rd_T51 t416 (ji42)).f1))).setCell ⟨gb436, 2, none⟩ (.int .i64 ((rd_T51 t416 (ji42)).f2))).setCell ⟨gb436, 3, none⟩ (.slice A435_3 ((rd_T51 t416 (ji42)).f3).length c435_3)).setCell ⟨gb436, 4, none⟩ (.int .i64 ((rd_T51 t416 (ji42)).f4))).setCell ⟨gb436, 5, none⟩ (.int .i64 ((rd_T51 t416 (ji42)).f5))).setCell ⟨gb436, 6, none⟩ (.bool (false))).heap[gb436]? = some (.cells #[.int .i64 ((rd_T51 t416 (ji42)).f0), .int .i64 ((rd_T51 t416 (ji42)).f1), .int .i64 ((rd_T51 t416 (ji42)).f2), .slice A435_3 ((rd_T51 t416 (ji42)).f3).length c435_3, .int .i64 ((rd_T51 t416 (ji42)).f4), .int .i64 ((rd_T51 t416 (ji42)).f5), .bool false] 51 (0, 0))) := ⟨by (with_reducible repeat (first | refine blk_drewN ?_ _ | refine blk_drew ?_ | refine blk_alloc ?_ _)); refine blk_put (cs := #[.int .i64 ((rd_T51 t416 (ji42)).f0), .int .i64 ((rd_T51 t416 (ji42)).f1), .int .i64 ((rd_T51 t416 (ji42)).f2), .slice A435_3 ((rd_T51 t416 (ji42)).f3).length c435_3, .int .i64 ((rd_T51 t416 (ji42)).f4), .int .i64 ((rd_T51 t416 (ji42)).f5), .bool false]) ?_ 6 _ rfl; (with_reducible repeat (first | refine blk_drewN ?_ _ | refine blk_drew ?_ | refine blk_alloc ?_ _)); refine blk_put (cs := #[.int .i64 ((rd_T51 t416 (ji42)).f0), .int .i64 ((rd_T51 t416 (ji42)).f1), .int .i64 ((rd_T51 t416 (ji42)).f2), .slice A435_3 ((rd_T51 t416 (ji42)).f3).length c435_3, .int .i64 ((rd_T51 t416 (ji42)).f4), .int .i64 0, .bool false]) ?_ 5 _ rfl; (with_reducible repeat (first | refine blk_drewN ?_ _ | refine blk_drew ?_ | refine blk_alloc ?_ _)); refine blk_put (cs := #[.int .i64 ((rd_T51 t416 (ji42)).f0), .int .i64 ((rd_T51 t416 (ji42)).f1), .int .i64 ((rd_T51 t416 (ji42)).f2), .slice A435_3 ((rd_T51 t416 (ji42)).f3).length c435_3, .int .i64 0, .int .i64 0, .bool false]) ?_ 4 _ rfl; (with_reducible repeat (first | refine blk_drewN ?_ _ | refine blk_drew ?_ | refine blk_alloc ?_ _)); refine blk_put (cs := #[.int .i64 ((rd_T51 t416 (ji42)).f0), .int .i64 ((rd_T51 t416 (ji42)).f1), .int .i64 ((rd_T51 t416 (ji42)).f2), .slice none 0 0, .int .i64 0, .int .i64 0, .bool false]) ?_ 3 _ rfl; (with_reducible repeat (first | refine blk_drewN ?_ _ | refine blk_drew ?_ | refine blk_alloc ?_ _)); refine blk_put (cs := #[.int .i64 ((rd_T51 t416 (ji42)).f0), .int .i64 ((rd_T51 t416 (ji42)).f1), .int .i64 0, .slice none 0 0, .int .i64 0, .int .i64 0, .bool false]) ?_ 2 _ rfl; (with_reducible repeat (first | refine blk_drewN ?_ _ | refine blk_drew ?_ | refine blk_alloc ?_ _)); refine blk_put (cs := #[.int .i64 ((rd_T51 t416 (ji42)).f0), .int .i64 0, .int .i64 0, .slice none 0 0, .int .i64 0, .int .i64 0, .bool false]) ?_ 1 _ rfl; (with_reducible repeat (first | refine blk_drewN ?_ _ | refine blk_drew ?_ | refine blk_alloc ?_ _)); refine blk_put (cs := #[.int .i64 0, .int .i64 0, .int .i64 0, .slice none 0 0, .int .i64 0, .int .i64 0, .bool false]) ?_ 0 _ rfl; (with_reducible repeat (first | refine blk_drewN ?_ _ | refine blk_drew ?_ | refine blk_alloc ?_ _)); exact BK436.out⟩
            have n4_ : Aside0 (Below w.heap.size w (((((((w47.setCell ⟨gb436, 0, none⟩ (.int .i64 ((rd_T51 t416 (ji42)).f0))).setCell ⟨gb436, 1, none⟩ (.int .i64 ((rd_T51 t416 (ji42)).f1))).setCell ⟨gb436, 2, none⟩ (.int .i64 ((rd_T51 t416 (ji42)).f2))).setCell ⟨gb436, 3, none⟩ (.slice A435_3 ((rd_T51 t416 (ji42)).f3).length c435_3)).setCell ⟨gb436, 4, none⟩ (.int .i64 ((rd_T51 t416 (ji42)).f4))).setCell ⟨gb436, 5, none⟩ (.int .i64 ((rd_T51 t416 (ji42)).f5))).setCell ⟨gb436, 6, none⟩ (.bool (false)))) := ⟨by repeat (first | (with_reducible first | exact HB.out | apply below_alloc | apply pw_below_drewN | apply below_drew1 | refine below_set ?_ GE436.out) | exact HB.out)⟩
            (try clear HO_3)
            (try clear HO_9)
            (try clear HL435_3)
            (try clear BK436)
            (try clear HB)
            generalize (((((((w47.setCell ⟨gb436, 0, none⟩ (.int .i64 ((rd_T51 t416 (ji42)).f0))).setCell ⟨gb436, 1, none⟩ (.int .i64 ((rd_T51 t416 (ji42)).f1))).setCell ⟨gb436, 2, none⟩ (.int .i64 ((rd_T51 t416 (ji42)).f2))).setCell ⟨gb436, 3, none⟩ (.slice A435_3 ((rd_T51 t416 (ji42)).f3).length c435_3)).setCell ⟨gb436, 4, none⟩ (.int .i64 ((rd_T51 t416 (ji42)).f4))).setCell ⟨gb436, 5, none⟩ (.int .i64 ((rd_T51 t416 (ji42)).f5))).setCell ⟨gb436, 6, none⟩ (.bool (false))) = w54 at n0_ n1_ n2_ n3_ n4_ ⊢
            have HO_3 := n0_
            have HO_9 := n1_
            have HL435_3 := n2_
            have BK436 := n3_
            have HB := n4_
            clear n0_ n1_ n2_ n3_ n4_
            have n0_ := Aside0.mk (Kd.S_drew HO_3.out)
            have n1_ := Aside0.mk (Kd.R_drew HO_9.out)
            have n2_ := Aside0.mk (Kd.R_drew HL435_3.out)
            have n3_ := Aside0.mk (blk_drew BK436.out)
            have n4_ := Aside0.mk (below_drew1 HB.out)
            clear HO_3
            clear HO_9
            clear HL435_3
            clear BK436
            clear HB
            have HO_3 := n0_
            have HO_9 := n1_
            have HL435_3 := n2_
            have BK436 := n3_
            have HB := n4_
            clear n0_ n1_ n2_ n3_ n4_
            refine start_ (n := 34) (S := fun w' => w'.cell? ⟨gb436, 0, none⟩ = some (.int .i64 ((rd_T51 t416 (ji42)).f0)) ∧ w'.cell? ⟨gb436, 1, none⟩ = some (.int .i64 ((rd_T51 t416 (ji42)).f1)) ∧ w'.cell? ⟨gb436, 2, none⟩ = some (.int .i64 ((rd_T51 t416 (ji42)).f2)) ∧ w'.cell? ⟨gb436, 3, none⟩ = some (.slice A435_3 ((rd_T51 t416 (ji42)).f3).length c435_3) ∧ w'.cell? ⟨gb436, 4, none⟩ = some (.int .i64 ((rd_T51 t416 (ji42)).f4)) ∧ w'.cell? ⟨gb436, 5, none⟩ = some (.int .i64 ((rd_T51 t416 (ji42)).f5)) ∧ w'.cell? ⟨gb436, 6, none⟩ = some (.bool false)) (ds := []) b1_0 (by kernel_rfl) rfl rfl ⟨(blk_cell BK436.out 0).trans rfl, (blk_cell BK436.out 1).trans rfl, (blk_cell BK436.out 2).trans rfl, (blk_cell BK436.out 3).trans rfl, (blk_cell BK436.out 4).trans rfl, (blk_cell BK436.out 5).trans rfl, (blk_cell BK436.out 6).trans rfl⟩ (fun hHeld => ?_); refine with_tabW laws_FnDelegated.tab14 laws_FnDelegated.bits14 (fun HT_ HW_ => ?_)
            generalize w54.drew = w55 at HO_3 HO_9 HL435_3 BK436 HB hHeld ⊢
            refine pure_ (i := 0) (N := some 88) (v := ?_) (a' := ?_) b1_1 rfl rfl (any_of HT_.out (by kernel_rfl)) (fun _ _ _ h => h) (Or.inl ⟨by rfl, ?_⟩) ?_ ?_
            rotate_left
            ·intro w'
             go_simp
             with_reducible rfl
            rotate_left
            ·simp only [Act.put, List.setIfInBounds_toArray, List.set_cons_zero, List.set_cons_succ, i64_w, i32_w]
             rfl
            refine take_ (i := 1) (N := some 89) (v := ?_) (a' := ?_) b1_2 rfl rfl (take_ofW HT_.out HW_.out (by kernel_rfl)) (fun _ _ _ h => h) (Or.inl ⟨by rfl, ?_⟩) hHeld ?_ ?_
            rotate_left
            ·rintro w' ⟨s0, s1, s2, s3, s4, s5, s6⟩
             go_simp
             with_reducible rfl
            rotate_left
            ·simp only [Act.put, List.setIfInBounds_toArray, List.set_cons_zero, List.set_cons_succ, i64_w, i32_w]
             rfl
            refine pure_ (i := 2) (N := some 90) (v := ?_) (a' := ?_) b1_3 rfl rfl (any_of HT_.out (by kernel_rfl)) (fun _ _ _ h => h) (Or.inl ⟨by rfl, ?_⟩) ?_ ?_
            rotate_left
            ·intro w'
             go_simp
             with_reducible rfl
            rotate_left
            ·simp only [Act.put, List.setIfInBounds_toArray, List.set_cons_zero, List.set_cons_succ, i64_w, i32_w]
             rfl
            refine pure_ (i := 3) (N := some 91) (v := ?_) (a' := ?_) b1_4 rfl rfl (any_of HT_.out (by kernel_rfl)) (fun _ _ _ h => h) (Or.inl ⟨by rfl, ?_⟩) ?_ ?_
            rotate_left
            ·intro w'
             go_simp
             with_reducible rfl
            rotate_left
            ·simp only [Act.put, List.setIfInBounds_toArray, List.set_cons_zero, List.set_cons_succ, i64_w, i32_w]
             rfl
            refine pure_ (i := 5) (N := some 93) (v := ?_) (a' := ?_) b1_5 rfl rfl (any_of HT_.out (by kernel_rfl)) (fun _ _ _ h => h) (Or.inl ⟨by rfl, ?_⟩) ?_ ?_
            rotate_left
            ·intro w'
             go_simp
             with_reducible rfl
            rotate_left
            ·simp only [Act.put, List.setIfInBounds_toArray, List.set_cons_zero, List.set_cons_succ, i64_w, i32_w]
             rfl
            refine take_ (i := 4) (N := some 92) (v := ?_) (a' := ?_) b1_7 rfl rfl (take_ofW HT_.out HW_.out (by kernel_rfl)) (fun _ _ _ h => h) (Or.inl ⟨by rfl, ?_⟩) hHeld ?_ ?_
            rotate_left
            ·rintro w' ⟨s0, s1, s2, s3, s4, s5, s6⟩
             go_simp
             with_reducible rfl
            rotate_left
            ·simp only [Act.put, List.setIfInBounds_toArray, List.set_cons_zero, List.set_cons_succ, i64_w, i32_w]
             rfl
            refine pure_ (i := 6) (N := some 94) (v := ?_) (a' := ?_) b1_8 rfl rfl (any_of HT_.out (by kernel_rfl)) (fun _ _ _ h => h) (Or.inl ⟨by rfl, ?_⟩) ?_ ?_
            rotate_left
            ·intro w'
             go_simp
             with_reducible rfl
            rotate_left
            ·simp only [Act.put, List.setIfInBounds_toArray, List.set_cons_zero, List.set_cons_succ, i64_w, i32_w]
             rfl
            refine pure_ (i := 7) (N := some 95) (v := ?_) (a' := ?_) b1_9 rfl rfl (any_of HT_.out (by kernel_rfl)) (fun _ _ _ h => h) (Or.inl ⟨by rfl, ?_⟩) ?_ ?_
            rotate_left
            ·intro w'
             go_simp
             with_reducible rfl
            rotate_left
            ·simp only [Act.put, List.setIfInBounds_toArray, List.set_cons_zero, List.set_cons_succ, i64_w, i32_w]
             rfl
            refine pure_ (i := 8) (N := some 96) (v := ?_) (a' := ?_) b1_10 rfl rfl (any_of HT_.out (by kernel_rfl)) (fun _ _ _ h => h) (Or.inl ⟨by rfl, ?_⟩) ?_ ?_
            rotate_left
            ·intro w'
             go_simp
             with_reducible rfl
            rotate_left
            ·simp only [Act.put, List.setIfInBounds_toArray, List.set_cons_zero, List.set_cons_succ, i64_w, i32_w]
             rfl
            refine pure_ (i := 9) (N := some 97) (v := undef) (a' := ?_) b1_11 rfl rfl (any_of HT_.out (by kernel_rfl)) (fun _ _ _ h => h) (Or.inr ⟨by rfl, rfl⟩) ?_ ?_
            rotate_left
            ·simp only [Act.put, List.setIfInBounds_toArray, List.set_cons_zero, List.set_cons_succ, i64_w, i32_w]
             rfl
            refine pure_ (i := 10) (N := some 98) (v := undef) (a' := ?_) b1_13 rfl rfl (any_of HT_.out (by kernel_rfl)) (fun _ _ _ h => h) (Or.inr ⟨by rfl, rfl⟩) ?_ ?_
            rotate_left
            ·simp only [Act.put, List.setIfInBounds_toArray, List.set_cons_zero, List.set_cons_succ, i64_w, i32_w]
             rfl
            refine pure_ (i := 11) (N := some 99) (v := undef) (a' := ?_) b1_14 rfl rfl (any_of HT_.out (by kernel_rfl)) (fun _ _ _ h => h) (Or.inr ⟨by rfl, rfl⟩) ?_ ?_
            rotate_left
            ·simp only [Act.put, List.setIfInBounds_toArray, List.set_cons_zero, List.set_cons_succ, i64_w, i32_w]
             rfl
            refine pure_ (i := 12) (N := some 100) (v := undef) (a' := ?_) b1_15 rfl rfl (any_of HT_.out (by kernel_rfl)) (fun _ _ _ h => h) (Or.inr ⟨by rfl, rfl⟩) ?_ ?_
            rotate_left
            ·simp only [Act.put, List.setIfInBounds_toArray, List.set_cons_zero, List.set_cons_succ, i64_w, i32_w]
             rfl
            refine pure_ (i := 13) (N := some 101) (v := undef) (a' := ?_) b1_16 rfl rfl (any_of HT_.out (by kernel_rfl)) (fun _ _ _ h => h) (Or.inr ⟨by rfl, rfl⟩) ?_ ?_
            rotate_left
            ·simp only [Act.put, List.setIfInBounds_toArray, List.set_cons_zero, List.set_cons_succ, i64_w, i32_w]
             rfl
            refine pure_ (i := 14) (N := some 102) (v := ?_) (a' := ?_) b1_17 rfl rfl (any_of HT_.out (by kernel_rfl)) (fun _ _ _ h => h) (Or.inl ⟨by rfl, ?_⟩) ?_ ?_
            rotate_left
            ·intro w'
             go_simp
             with_reducible rfl
            rotate_left
            ·simp only [Act.put, List.setIfInBounds_toArray, List.set_cons_zero, List.set_cons_succ, i64_w, i32_w]
             rfl
            refine pure_ (i := 15) (N := some 103) (v := ?_) (a' := ?_) b1_18 rfl rfl (any_of HT_.out (by kernel_rfl)) (fun _ _ _ h => h) (Or.inl ⟨by rfl, ?_⟩) ?_ ?_
            rotate_left
            ·intro w'
             go_simp
             with_reducible rfl
            rotate_left
            ·simp only [Act.put, List.setIfInBounds_toArray, List.set_cons_zero, List.set_cons_succ, i64_w, i32_w]
             rfl
            refine pure_ (i := 16) (N := some 104) (v := undef) (a' := ?_) b1_19 rfl rfl (any_of HT_.out (by kernel_rfl)) (fun _ _ _ h => h) (Or.inr ⟨by rfl, rfl⟩) ?_ ?_
            rotate_left
            ·simp only [Act.put, List.setIfInBounds_toArray, List.set_cons_zero, List.set_cons_succ, i64_w, i32_w]
             rfl
            refine pure_ (i := 17) (N := some 105) (v := undef) (a' := ?_) b1_20 rfl rfl (any_of HT_.out (by kernel_rfl)) (fun _ _ _ h => h) (Or.inr ⟨by rfl, rfl⟩) ?_ ?_
            rotate_left
            ·simp only [Act.put, List.setIfInBounds_toArray, List.set_cons_zero, List.set_cons_succ, i64_w, i32_w]
             rfl
            refine pure_ (i := 18) (N := some 106) (v := undef) (a' := ?_) b1_21 rfl rfl (any_of HT_.out (by kernel_rfl)) (fun _ _ _ h => h) (Or.inr ⟨by rfl, rfl⟩) ?_ ?_
            rotate_left
            ·simp only [Act.put, List.setIfInBounds_toArray, List.set_cons_zero, List.set_cons_succ, i64_w, i32_w]
             rfl
            refine pure_ (i := 19) (N := some 107) (v := undef) (a' := ?_) b1_22 rfl rfl (any_of HT_.out (by kernel_rfl)) (fun _ _ _ h => h) (Or.inr ⟨by rfl, rfl⟩) ?_ ?_
            rotate_left
            ·simp only [Act.put, List.setIfInBounds_toArray, List.set_cons_zero, List.set_cons_succ, i64_w, i32_w]
             rfl
            refine pure_ (i := 20) (N := some 108) (v := undef) (a' := ?_) b1_28 rfl rfl (any_of HT_.out (by kernel_rfl)) (fun _ _ _ h => h) (Or.inr ⟨by rfl, rfl⟩) ?_ ?_
            rotate_left
            ·simp only [Act.put, List.setIfInBounds_toArray, List.set_cons_zero, List.set_cons_succ, i64_w, i32_w]
             rfl
            refine pure_ (i := 21) (N := some 109) (v := undef) (a' := ?_) b1_29 rfl rfl (any_of HT_.out (by kernel_rfl)) (fun _ _ _ h => h) (Or.inr ⟨by rfl, rfl⟩) ?_ ?_
            rotate_left
            ·simp only [Act.put, List.setIfInBounds_toArray, List.set_cons_zero, List.set_cons_succ, i64_w, i32_w]
             rfl
            refine pure_ (i := 22) (N := some 110) (v := undef) (a' := ?_) b1_30 rfl rfl (any_of HT_.out (by kernel_rfl)) (fun _ _ _ h => h) (Or.inr ⟨by rfl, rfl⟩) ?_ ?_
            rotate_left
            ·simp only [Act.put, List.setIfInBounds_toArray, List.set_cons_zero, List.set_cons_succ, i64_w, i32_w]
             rfl
            refine pure_ (i := 23) (N := some 111) (v := undef) (a' := ?_) b1_31 rfl rfl (any_of HT_.out (by kernel_rfl)) (fun _ _ _ h => h) (Or.inr ⟨by rfl, rfl⟩) ?_ ?_
            rotate_left
            ·simp only [Act.put, List.setIfInBounds_toArray, List.set_cons_zero, List.set_cons_succ, i64_w, i32_w]
             rfl
            refine pure_ (i := 24) (N := some 112) (v := undef) (a' := ?_) b1_32 rfl rfl (any_of HT_.out (by kernel_rfl)) (fun _ _ _ h => h) (Or.inr ⟨by rfl, rfl⟩) ?_ ?_
            rotate_left
            ·simp only [Act.put, List.setIfInBounds_toArray, List.set_cons_zero, List.set_cons_succ, i64_w, i32_w]
             rfl
            refine pure_ (i := 25) (N := some 113) (v := undef) (a' := ?_) b1_33 rfl rfl (any_of HT_.out (by kernel_rfl)) (fun _ _ _ h => h) (Or.inr ⟨by rfl, rfl⟩) ?_ ?_
            rotate_left
            ·simp only [Act.put, List.setIfInBounds_toArray, List.set_cons_zero, List.set_cons_succ, i64_w, i32_w]
             rfl
            refine pure_ (i := 26) (N := some 114) (v := undef) (a' := ?_) b1_34 rfl rfl (any_of HT_.out (by kernel_rfl)) (fun _ _ _ h => h) (Or.inr ⟨by rfl, rfl⟩) ?_ ?_
            rotate_left
            ·simp only [Act.put, List.setIfInBounds_toArray, List.set_cons_zero, List.set_cons_succ, i64_w, i32_w]
             rfl
            refine pure_ (i := 27) (N := some 115) (v := undef) (a' := ?_) b1_35 rfl rfl (any_of HT_.out (by kernel_rfl)) (fun _ _ _ h => h) (Or.inr ⟨by rfl, rfl⟩) ?_ ?_
            rotate_left
            ·simp only [Act.put, List.setIfInBounds_toArray, List.set_cons_zero, List.set_cons_succ, i64_w, i32_w]
             rfl
            refine pure_ (i := 28) (N := some 116) (v := undef) (a' := ?_) b1_36 rfl rfl (any_of HT_.out (by kernel_rfl)) (fun _ _ _ h => h) (Or.inr ⟨by rfl, rfl⟩) ?_ ?_
            rotate_left
            ·simp only [Act.put, List.setIfInBounds_toArray, List.set_cons_zero, List.set_cons_succ, i64_w, i32_w]
             rfl
            refine pure_ (i := 29) (N := some 117) (v := undef) (a' := ?_) b1_37 rfl rfl (any_of HT_.out (by kernel_rfl)) (fun _ _ _ h => h) (Or.inr ⟨by rfl, rfl⟩) ?_ ?_
            rotate_left
            ·simp only [Act.put, List.setIfInBounds_toArray, List.set_cons_zero, List.set_cons_succ, i64_w, i32_w]
             rfl
            refine pure_ (i := 30) (N := some 118) (v := undef) (a' := ?_) b1_38 rfl rfl (any_of HT_.out (by kernel_rfl)) (fun _ _ _ h => h) (Or.inr ⟨by rfl, rfl⟩) ?_ ?_
            rotate_left
            ·simp only [Act.put, List.setIfInBounds_toArray, List.set_cons_zero, List.set_cons_succ, i64_w, i32_w]
             rfl
            refine pure_ (i := 31) (N := some 119) (v := undef) (a' := ?_) b1_39 rfl rfl (any_of HT_.out (by kernel_rfl)) (fun _ _ _ h => h) (Or.inr ⟨by rfl, rfl⟩) ?_ ?_
            rotate_left
            ·simp only [Act.put, List.setIfInBounds_toArray, List.set_cons_zero, List.set_cons_succ, i64_w, i32_w]
             rfl
            refine pure_ (i := 32) (N := some 120) (v := undef) (a' := ?_) b1_40 rfl rfl (any_of HT_.out (by kernel_rfl)) (fun _ _ _ h => h) (Or.inr ⟨by rfl, rfl⟩) ?_ ?_
            rotate_left
            ·simp only [Act.put, List.setIfInBounds_toArray, List.set_cons_zero, List.set_cons_succ, i64_w, i32_w]
             rfl
            refine pure_ (i := 33) (N := some 121) (v := ?_) (a' := ?_) b1_41 rfl rfl (any_of HT_.out (by kernel_rfl)) (fun _ _ _ h => h) (Or.inl ⟨by rfl, ?_⟩) ?_ ?_
            rotate_left
            ·intro w'
             go_simp
             with_reducible rfl
            rotate_left
            ·simp only [Act.put, List.setIfInBounds_toArray, List.set_cons_zero, List.set_cons_succ, i64_w, i32_w]
             rfl
            refine done_ (done_of HT_.out (by kernel_rfl)) ?_
            try go_wp2
            go_meet
            case rel => exact ⟨_, (true), (by first | rfl | (simp; done) | (simp [*]; done)), H', ⟨by have := HJ14.out; have := HK2.out; first | omega | exact Nat.le_refl _⟩, ⟨by (with_reducible repeat (first | apply Kd.S_alloc | apply Kd.S_drewN | apply Kd.S_drew)); exact Kd.S_mono HO_3.out (fun _ hk => hk.1)⟩, ⟨by (with_reducible repeat (first | apply Kd.R_alloc | apply Kd.R_drewN | apply Kd.R_drew)); exact HO_9.out⟩, ⟨by repeat (first | (with_reducible first | exact HB.out | apply below_alloc | apply pw_below_drewN | apply below_drew1 | refine below_set ?_ GE436.out) | exact HB.out)⟩⟩
           ·have c53b0 : decide (((rd_T51 t416 (ji42)).f4) < t420) = false := decide_eq_false c53
            clear c53
            replace H := Option.bind_eq_some_iff.mp H
            obtain ⟨t437, A560, H⟩ := H
            replace H : (if t437 = true then (if x10_2 > 0 then (if 0 ≤ (wrap64 (x10_2 - 1)) then (if (wrap64 (x10_2 - 1)) < (t425.length : Int) then (if 0 ≤ (wrap64 ((rd t425 (wrap64 (x10_2 - 1))) - 1)) then (if (wrap64 ((rd t425 (wrap64 (x10_2 - 1))) - 1)) < (t416.length : Int) then (laws_FnDelegated.j2 k2 t416 t417 t418 t419 t420 t425 x10_2 (((rd_T51 t416 (ji42)).f2) != ((rd_T51 t416 (wrap64 ((rd t425 (wrap64 (x10_2 - 1))) - 1))).f1))) else (none)) else (none)) else (none)) else (none)) else (laws_FnDelegated.j2 k2 t416 t417 t418 t419 t420 t425 x10_2 false)) else (laws_FnDelegated.j2 k2 t416 t417 t418 t419 t420 t425 x10_2 true)) = some r := H
            have A56 := Aside0.mk A560
            clear A560
            by_cases c57 : t437 = true
            ·subst c57
             have H1 : (if x10_2 > 0 then (if 0 ≤ (wrap64 (x10_2 - 1)) then (if (wrap64 (x10_2 - 1)) < (t425.length : Int) then (if 0 ≤ (wrap64 ((rd t425 (wrap64 (x10_2 - 1))) - 1)) then (if (wrap64 ((rd t425 (wrap64 (x10_2 - 1))) - 1)) < (t416.length : Int) then (laws_FnDelegated.j2 k2 t416 t417 t418 t419 t420 t425 x10_2 (((rd_T51 t416 (ji42)).f2) != ((rd_T51 t416 (wrap64 ((rd t425 (wrap64 (x10_2 - 1))) - 1))).f1))) else (none)) else (none)) else (none)) else (none)) else (laws_FnDelegated.j2 k2 t416 t417 t418 t419 t420 t425 x10_2 false)) = some r := by rw [if_pos rfl] at H; exact H
             clear H
             have H := H1
             clear H1
             replace H := ifD H; rcases H with ⟨c58, H⟩ | ⟨c58, H⟩
             ·have c58b0 : decide (0 < x10_2) = true := decide_eq_true c58
              clear c58
              obtain ⟨ji59, hji59⟩ : ∃ j_ : Int, (wrap64 (x10_2 - 1)) = j_ := ⟨_, rfl⟩
              replace H : (if 0 ≤ (ji59) then (if (ji59) < (t425.length : Int) then (if 0 ≤ (wrap64 ((rd t425 (ji59)) - 1)) then (if (wrap64 ((rd t425 (ji59)) - 1)) < (t416.length : Int) then (laws_FnDelegated.j2 k2 t416 t417 t418 t419 t420 t425 x10_2 (((rd_T51 t416 (ji42)).f2) != ((rd_T51 t416 (wrap64 ((rd t425 (ji59)) - 1))).f1))) else (none)) else (none)) else (none)) else (none)) = some r := by first | (rw [hji59] at H; exact H) | (simp only [hji59] at H ⊢; exact H)
              (try rw [hji59] at A56)
              have hji59w : (IntKind.i64.wrap (x10_2 - 1)) = ji59 := (i64_w _).trans hji59
              replace H := ifN H; obtain ⟨c60, H⟩ := H
              have c60b0 : decide (0 ≤ (ji59)) = true := decide_eq_true c60
              clear c60
              replace H := ifN H; obtain ⟨c61, H⟩ := H
              have c61b0 : decide ((ji59) < (t425.length : Int)) = true := decide_eq_true c61
              clear c61
              obtain ⟨ji62, hji62⟩ : ∃ j_ : Int, (wrap64 ((rd t425 (ji59)) - 1)) = j_ := ⟨_, rfl⟩
              replace H : (if 0 ≤ (ji62) then (if (ji62) < (t416.length : Int) then (laws_FnDelegated.j2 k2 t416 t417 t418 t419 t420 t425 x10_2 (((rd_T51 t416 (ji42)).f2) != ((rd_T51 t416 (ji62)).f1))) else (none)) else (none)) = some r := by first | (rw [hji62] at H; exact H) | (simp only [hji62] at H ⊢; exact H)
              (try rw [hji62] at A56)
              have hji62w : (IntKind.i64.wrap ((rd t425 (ji59)) - 1)) = ji62 := (i64_w _).trans hji62
              replace H := ifN H; obtain ⟨c63, H⟩ := H
              have c63b0 : decide (0 ≤ (ji62)) = true := decide_eq_true c63
              clear c63
              replace H := ifN H; obtain ⟨c64, H⟩ := H
              have c64b0 : decide ((ji62) < (t416.length : Int)) = true := decide_eq_true c64
              clear c64
              have H' := Aside0.mk H
              clear H
              try go_wp2
              have n0_ : Aside0 (Kd.S k51 51 (((((((w47.setCell ⟨gb436, 0, none⟩ (.int .i64 ((rd_T51 t416 (ji42)).f0))).setCell ⟨gb436, 1, none⟩ (.int .i64 ((rd_T51 t416 (ji42)).f1))).setCell ⟨gb436, 2, none⟩ (.int .i64 ((rd_T51 t416 (ji42)).f2))).setCell ⟨gb436, 3, none⟩ (.slice A435_3 ((rd_T51 t416 (ji42)).f3).length c435_3)).setCell ⟨gb436, 4, none⟩ (.int .i64 ((rd_T51 t416 (ji42)).f4))).setCell ⟨gb436, 5, none⟩ (.int .i64 ((rd_T51 t416 (ji42)).f5))).setCell ⟨gb436, 6, none⟩ (.bool (false))) w.heap.size (fun k_ => some k_ ≠ (.slice (some ad434) t425.length co46 : Value).ownBlock ∧ k_ ≠ gb436) (.slice (some ad435) t416.length co18) t416) := ⟨by (with_reducible repeat (first | apply Kd.S_alloc | apply Kd.S_drewN | apply Kd.S_drew)); exact Kd.S_mono (Kd.S_far (p := ⟨gb436, 6, none⟩) (Kd.S_far (p := ⟨gb436, 5, none⟩) (Kd.S_far (p := ⟨gb436, 4, none⟩) (Kd.S_far (p := ⟨gb436, 3, none⟩) (Kd.S_far (p := ⟨gb436, 2, none⟩) (Kd.S_far (p := ⟨gb436, 1, none⟩) (Kd.S_far (p := ⟨gb436, 0, none⟩) (Kd.S_mono HO_3.out (fun k_ hk => (⟨hk, hk.2⟩ : _ ∧ k_ ≠ gb436))) (fun _ hk => hk.2) (.int .i64 ((rd_T51 t416 (ji42)).f0))) (fun _ hk => hk.2) (.int .i64 ((rd_T51 t416 (ji42)).f1))) (fun _ hk => hk.2) (.int .i64 ((rd_T51 t416 (ji42)).f2))) (fun _ hk => hk.2) (.slice A435_3 ((rd_T51 t416 (ji42)).f3).length c435_3)) (fun _ hk => hk.2) (.int .i64 ((rd_T51 t416 (ji42)).f4))) (fun _ hk => hk.2) (.int .i64 ((rd_T51 t416 (ji42)).f5))) (fun _ hk => hk.2) (.bool (false))) (fun _ hk => ⟨hk.1.1, hk.1.2⟩)⟩
              have n1_ : Aside0 (Kd.R (Kd.int .i64) 3 (((((((w47.setCell ⟨gb436, 0, none⟩ (.int .i64 ((rd_T51 t416 (ji42)).f0))).setCell ⟨gb436, 1, none⟩ (.int .i64 ((rd_T51 t416 (ji42)).f1))).setCell ⟨gb436, 2, none⟩ (.int .i64 ((rd_T51 t416 (ji42)).f2))).setCell ⟨gb436, 3, none⟩ (.slice A435_3 ((rd_T51 t416 (ji42)).f3).length c435_3)).setCell ⟨gb436, 4, none⟩ (.int .i64 ((rd_T51 t416 (ji42)).f4))).setCell ⟨gb436, 5, none⟩ (.int .i64 ((rd_T51 t416 (ji42)).f5))).setCell ⟨gb436, 6, none⟩ (.bool (false))) w.heap.size (fun _ => True) (.slice (some ad434) t425.length co46) t425) := ⟨by (with_reducible repeat (first | apply Kd.R_alloc | apply Kd.R_drewN | apply Kd.R_drew)); exact Kd.R_mono (Kd.R_far (p := ⟨gb436, 6, none⟩) (Kd.R_far (p := ⟨gb436, 5, none⟩) (Kd.R_far (p := ⟨gb436, 4, none⟩) (Kd.R_far (p := ⟨gb436, 3, none⟩) (Kd.R_far (p := ⟨gb436, 2, none⟩) (Kd.R_far (p := ⟨gb436, 1, none⟩) (Kd.R_far (p := ⟨gb436, 0, none⟩) (Kd.R_types HO_9.out BK436.out (by decide)) (fun _ hk => hk.2) (.int .i64 ((rd_T51 t416 (ji42)).f0))) (fun _ hk => hk.2) (.int .i64 ((rd_T51 t416 (ji42)).f1))) (fun _ hk => hk.2) (.int .i64 ((rd_T51 t416 (ji42)).f2))) (fun _ hk => hk.2) (.slice A435_3 ((rd_T51 t416 (ji42)).f3).length c435_3)) (fun _ hk => hk.2) (.int .i64 ((rd_T51 t416 (ji42)).f4))) (fun _ hk => hk.2) (.int .i64 ((rd_T51 t416 (ji42)).f5))) (fun _ hk => hk.2) (.bool (false))) (fun _ hk => trivial)⟩
              have n2_ : Aside0 (Kd.R (Kd.int .i64) 3 (((((((w47.setCell ⟨gb436, 0, none⟩ (.int .i64 ((rd_T51 t416 (ji42)).f0))).setCell ⟨gb436, 1, none⟩ (.int .i64 ((rd_T51 t416 (ji42)).f1))).setCell ⟨gb436, 2, none⟩ (.int .i64 ((rd_T51 t416 (ji42)).f2))).setCell ⟨gb436, 3, none⟩ (.slice A435_3 ((rd_T51 t416 (ji42)).f3).length c435_3)).setCell ⟨gb436, 4, none⟩ (.int .i64 ((rd_T51 t416 (ji42)).f4))).setCell ⟨gb436, 5, none⟩ (.int .i64 ((rd_T51 t416 (ji42)).f5))).setCell ⟨gb436, 6, none⟩ (.bool (false))) w.heap.size (fun k_ => some k_ ≠ (.slice (some ad435) t416.length co18 : Value).ownBlock ∧ some k_ ≠ (.slice (some ad434) t425.length co46 : Value).ownBlock) (.slice A435_3 ((rd_T51 t416 (ji42)).f3).length c435_3) ((rd_T51 t416 (ji42)).f3)) := ⟨by (with_reducible repeat (first | apply Kd.R_alloc | apply Kd.R_drewN | apply Kd.R_drew)); exact Kd.R_mono (Kd.R_far (p := ⟨gb436, 6, none⟩) (Kd.R_far (p := ⟨gb436, 5, none⟩) (Kd.R_far (p := ⟨gb436, 4, none⟩) (Kd.R_far (p := ⟨gb436, 3, none⟩) (Kd.R_far (p := ⟨gb436, 2, none⟩) (Kd.R_far (p := ⟨gb436, 1, none⟩) (Kd.R_far (p := ⟨gb436, 0, none⟩) (Kd.R_types HL435_3.out BK436.out (by decide)) (fun _ hk => hk.2) (.int .i64 ((rd_T51 t416 (ji42)).f0))) (fun _ hk => hk.2) (.int .i64 ((rd_T51 t416 (ji42)).f1))) (fun _ hk => hk.2) (.int .i64 ((rd_T51 t416 (ji42)).f2))) (fun _ hk => hk.2) (.slice A435_3 ((rd_T51 t416 (ji42)).f3).length c435_3)) (fun _ hk => hk.2) (.int .i64 ((rd_T51 t416 (ji42)).f4))) (fun _ hk => hk.2) (.int .i64 ((rd_T51 t416 (ji42)).f5))) (fun _ hk => hk.2) (.bool (false))) (fun _ hk => ⟨hk.1.2, hk.1.1⟩)⟩
              have n3_ : Aside0 ((((((((w47.setCell ⟨gb436, 0, none⟩ (.int .i64 ((rd_T51 t416 (ji42)).f0))).setCell ⟨gb436, 1, none⟩ (.int .i64 ((rd_T51 t416 (ji42)).f1))).setCell ⟨gb436, 2, none⟩ (.int .i64 ((rd_T51 t416 (ji42)).f2))).setCell ⟨gb436, 3, none⟩ (.slice A435_3 ((rd_T51 t416 (ji42)).f3).length c435_3)).setCell ⟨gb436, 4, none⟩ (.int .i64 ((rd_T51 t416 (ji42)).f4))).setCell ⟨gb436, 5, none⟩ (.int .i64 ((rd_T51 t416 (ji42)).f5))).setCell ⟨gb436, 6, none⟩ (.bool (false))).heap[gb436]? = some (.cells #[.int .i64 ((rd_T51 t416 (ji42)).f0), .int .i64 ((rd_T51 t416 (ji42)).f1), .int .i64 ((rd_T51 t416 (ji42)).f2), .slice A435_3 ((rd_T51 t416 (ji42)).f3).length c435_3, .int .i64 ((rd_T51 t416 (ji42)).f4), .int .i64 ((rd_T51 t416 (ji42)).f5), .bool false] 51 (0, 0))) := ⟨by (with_reducible repeat (first | refine blk_drewN ?_ _ | refine blk_drew ?_ | refine blk_alloc ?_ _)); refine blk_put (cs := #[.int .i64 ((rd_T51 t416 (ji42)).f0), .int .i64 ((rd_T51 t416 (ji42)).f1), .int .i64 ((rd_T51 t416 (ji42)).f2), .slice A435_3 ((rd_T51 t416 (ji42)).f3).length c435_3, .int .i64 ((rd_T51 t416 (ji42)).f4), .int .i64 ((rd_T51 t416 (ji42)).f5), .bool false]) ?_ 6 _ rfl; (with_reducible repeat (first | refine blk_drewN ?_ _ | refine blk_drew ?_ | refine blk_alloc ?_ _)); refine blk_put (cs := #[.int .i64 ((rd_T51 t416 (ji42)).f0), .int .i64 ((rd_T51 t416 (ji42)).f1), .int .i64 ((rd_T51 t416 (ji42)).f2), .slice A435_3 ((rd_T51 t416 (ji42)).f3).length c435_3, .int .i64 ((rd_T51 t416 (ji42)).f4), .int .i64 0, .bool false]) ?_ 5 _ rfl; (with_reducible repeat (first | refine blk_drewN ?_ _ | refine blk_drew ?_ | refine blk_alloc ?_ _)); refine blk_put (cs := #[.int .i64 ((rd_T51 t416 (ji42)).f0), .int .i64 ((rd_T51 t416 (ji42)).f1), .int .i64 ((rd_T51 t416 (ji42)).f2), .slice A435_3 ((rd_T51 t416 (ji42)).f3).length c435_3, .int .i64 0, .int .i64 0, .bool false]) ?_ 4 _ rfl; (with_reducible repeat (first | refine blk_drewN ?_ _ | refine blk_drew ?_ | refine blk_alloc ?_ _)); refine blk_put (cs := #[.int .i64 ((rd_T51 t416 (ji42)).f0), .int .i64 ((rd_T51 t416 (ji42)).f1), .int .i64 ((rd_T51 t416 (ji42)).f2), .slice none 0 0, .int .i64 0, .int .i64 0, .bool false]) ?_ 3 _ rfl; (with_reducible repeat (first | refine blk_drewN ?_ _ | refine blk_drew ?_ | refine blk_alloc ?_ _)); refine blk_put (cs := #[.int .i64 ((rd_T51 t416 (ji42)).f0), .int .i64 ((rd_T51 t416 (ji42)).f1), .int .i64 0, .slice none 0 0, .int .i64 0, .int .i64 0, .bool false]) ?_ 2 _ rfl; (with_reducible repeat (first | refine blk_drewN ?_ _ | refine blk_drew ?_ | refine blk_alloc ?_ _)); refine blk_put (cs := #[.int .i64 ((rd_T51 t416 (ji42)).f0), .int .i64 0, .int .i64 0, .slice none 0 0, .int .i64 0, .int .i64 0, .bool false]) ?_ 1 _ rfl; (with_reducible repeat (first | refine blk_drewN ?_ _ | refine blk_drew ?_ | refine blk_alloc ?_ _)); refine blk_put (cs := #[.int .i64 0, .int .i64 0, .int .i64 0, .slice none 0 0, .int .i64 0, .int .i64 0, .bool false]) ?_ 0 _ rfl; (with_reducible repeat (first | refine blk_drewN ?_ _ | refine blk_drew ?_ | refine blk_alloc ?_ _)); exact BK436.out⟩
              have n4_ : Aside0 (Below w.heap.size w (((((((w47.setCell ⟨gb436, 0, none⟩ (.int .i64 ((rd_T51 t416 (ji42)).f0))).setCell ⟨gb436, 1, none⟩ (.int .i64 ((rd_T51 t416 (ji42)).f1))).setCell ⟨gb436, 2, none⟩ (.int .i64 ((rd_T51 t416 (ji42)).f2))).setCell ⟨gb436, 3, none⟩ (.slice A435_3 ((rd_T51 t416 (ji42)).f3).length c435_3)).setCell ⟨gb436, 4, none⟩ (.int .i64 ((rd_T51 t416 (ji42)).f4))).setCell ⟨gb436, 5, none⟩ (.int .i64 ((rd_T51 t416 (ji42)).f5))).setCell ⟨gb436, 6, none⟩ (.bool (false)))) := ⟨by repeat (first | (with_reducible first | exact HB.out | apply below_alloc | apply pw_below_drewN | apply below_drew1 | refine below_set ?_ GE436.out) | exact HB.out)⟩
              (try clear HO_3)
              (try clear HO_9)
              (try clear HL435_3)
              (try clear BK436)
              (try clear HB)
              generalize (((((((w47.setCell ⟨gb436, 0, none⟩ (.int .i64 ((rd_T51 t416 (ji42)).f0))).setCell ⟨gb436, 1, none⟩ (.int .i64 ((rd_T51 t416 (ji42)).f1))).setCell ⟨gb436, 2, none⟩ (.int .i64 ((rd_T51 t416 (ji42)).f2))).setCell ⟨gb436, 3, none⟩ (.slice A435_3 ((rd_T51 t416 (ji42)).f3).length c435_3)).setCell ⟨gb436, 4, none⟩ (.int .i64 ((rd_T51 t416 (ji42)).f4))).setCell ⟨gb436, 5, none⟩ (.int .i64 ((rd_T51 t416 (ji42)).f5))).setCell ⟨gb436, 6, none⟩ (.bool (false))) = w65 at n0_ n1_ n2_ n3_ n4_ ⊢
              have HO_3 := n0_
              have HO_9 := n1_
              have HL435_3 := n2_
              have BK436 := n3_
              have HB := n4_
              clear n0_ n1_ n2_ n3_ n4_
              have n0_ := Aside0.mk (Kd.S_drew HO_3.out)
              have n1_ := Aside0.mk (Kd.R_drew HO_9.out)
              have n2_ := Aside0.mk (Kd.R_drew HL435_3.out)
              have n3_ := Aside0.mk (blk_drew BK436.out)
              have n4_ := Aside0.mk (below_drew1 HB.out)
              clear HO_3
              clear HO_9
              clear HL435_3
              clear BK436
              clear HB
              have HO_3 := n0_
              have HO_9 := n1_
              have HL435_3 := n2_
              have BK436 := n3_
              have HB := n4_
              clear n0_ n1_ n2_ n3_ n4_
              have p438 : 0 ≤ ((ji59) : Int) := of_decide_eq_true (by first | (with_reducible assumption) | assumption)
              have q438 : (ji59) < (t425.length : Int) := of_decide_eq_true (by first | (with_reducible assumption) | assumption)
              obtain ⟨ad438, e438, hx438_0⟩ := Kd.at_int (Kd.R_reads' HO_9.out).2.2 (ji59) p438 q438
              obtain rfl : ad434 = ad438 := (by injection e438)
              replace p438 := eq_true p438
              replace q438 := eq_true q438
              have p439 : 0 ≤ ((ji62) : Int) := of_decide_eq_true (by first | (with_reducible assumption) | assumption)
              have q439 : (ji62) < (t416.length : Int) := of_decide_eq_true (by first | (with_reducible assumption) | assumption)
              obtain ⟨ad439, A439_3, c439_3, e439, hx439_0, hx439_1, hx439_2, hx439_3, hx439_4, hx439_5, hx439_6, hl439_3, hi439_3⟩ := at_T51 (Kd.S_reads' HO_3.out).2.2 (ji62) p439 q439
              (try rw [← Nbq49.out] at hx439_6)
              obtain rfl : ad435 = ad439 := (by injection e439)
              obtain ⟨ce439, hce439, hMe439, hcc439⟩ := Kd.S_get HO_3.out z51 (ji62) p439 (by first | exact q439 | exact of_decide_eq_true (by first | (with_reducible assumption) | assumption) | (have e_ := (Kd.S_reads' HO_3.out).1; omega))
              obtain ⟨ve439_3, rfl, ge439_3⟩ := k51_openM hMe439
              have hv439_3 := hcc439 3 _ rfl
              rw [add_field _ _ 3 (by omega)] at hv439_3
              replace hv439_3 := Option.some.inj (hv439_3.symm.trans hx439_3)
              rw [hv439_3] at ge439_3
              have HL439_3 := Aside0.mk (show Kd.R (Kd.int .i64) 3 _ _ _ _ ((rd_T51 t416 (ji62)).f3) from ge439_3)
              clear hv439_3 ge439_3
              clear hcc439 hce439
              have HR439_3 := Aside0.mk hi439_3
              have HC439_3 := Aside0.mk hl439_3
              clear hi439_3 hl439_3
              replace p439 := eq_true p439
              replace q439 := eq_true q439
              refine start_ (n := 34) (S := fun w' => w'.cell? ⟨gb436, 0, none⟩ = some (.int .i64 ((rd_T51 t416 (ji42)).f0)) ∧ w'.cell? ⟨gb436, 1, none⟩ = some (.int .i64 ((rd_T51 t416 (ji42)).f1)) ∧ w'.cell? ⟨gb436, 2, none⟩ = some (.int .i64 ((rd_T51 t416 (ji42)).f2)) ∧ w'.cell? ⟨gb436, 3, none⟩ = some (.slice A435_3 ((rd_T51 t416 (ji42)).f3).length c435_3) ∧ w'.cell? ⟨gb436, 4, none⟩ = some (.int .i64 ((rd_T51 t416 (ji42)).f4)) ∧ w'.cell? ⟨gb436, 5, none⟩ = some (.int .i64 ((rd_T51 t416 (ji42)).f5)) ∧ w'.cell? ⟨gb436, 6, none⟩ = some (.bool false) ∧ w'.cell? (ad434.add ((ji59)).toNat) = some (.int .i64 (rd t425 (ji59))) ∧ w'.cell? (ad435.add (((ji62)).toNat * 7)) = some (.int .i64 ((rd_T51 t416 (ji62)).f0)) ∧ w'.cell? ⟨(ad435.add (((ji62)).toNat * 7)).block, (ad435.add (((ji62)).toNat * 7)).off + 1, none⟩ = some (.int .i64 ((rd_T51 t416 (ji62)).f1)) ∧ w'.cell? ⟨(ad435.add (((ji62)).toNat * 7)).block, (ad435.add (((ji62)).toNat * 7)).off + 2, none⟩ = some (.int .i64 ((rd_T51 t416 (ji62)).f2)) ∧ w'.cell? ⟨(ad435.add (((ji62)).toNat * 7)).block, (ad435.add (((ji62)).toNat * 7)).off + 3, none⟩ = some (.slice A439_3 ((rd_T51 t416 (ji62)).f3).length c439_3) ∧ w'.cell? ⟨(ad435.add (((ji62)).toNat * 7)).block, (ad435.add (((ji62)).toNat * 7)).off + 4, none⟩ = some (.int .i64 ((rd_T51 t416 (ji62)).f4)) ∧ w'.cell? ⟨(ad435.add (((ji62)).toNat * 7)).block, (ad435.add (((ji62)).toNat * 7)).off + 5, none⟩ = some (.int .i64 ((rd_T51 t416 (ji62)).f5)) ∧ w'.cell? ⟨(ad435.add (((ji62)).toNat * 7)).block, (ad435.add (((ji62)).toNat * 7)).off + 6, none⟩ = some (.bool ((rd_T51 t416 (ji62)).f6))) (ds := []) b1_0 (by kernel_rfl) rfl rfl ⟨(blk_cell BK436.out 0).trans rfl, (blk_cell BK436.out 1).trans rfl, (blk_cell BK436.out 2).trans rfl, (blk_cell BK436.out 3).trans rfl, (blk_cell BK436.out 4).trans rfl, (blk_cell BK436.out 5).trans rfl, (blk_cell BK436.out 6).trans rfl, hx438_0, hx439_0, hx439_1, hx439_2, hx439_3, hx439_4, hx439_5, hx439_6⟩ (fun hHeld => ?_); refine with_tabW laws_FnDelegated.tab14 laws_FnDelegated.bits14 (fun HT_ HW_ => ?_)
              generalize w65.drew = w66 at HO_3 HO_9 HL435_3 BK436 HB HL439_3 HR439_3 hx438_0 hx439_0 hx439_1 hx439_2 hx439_3 hx439_4 hx439_5 hx439_6 hHeld ⊢
              refine pure_ (i := 0) (N := some 88) (v := ?_) (a' := ?_) b1_1 rfl rfl (any_of HT_.out (by kernel_rfl)) (fun _ _ _ h => h) (Or.inl ⟨by rfl, ?_⟩) ?_ ?_
              rotate_left
              ·intro w'
               go_simp
               with_reducible rfl
              rotate_left
              ·simp only [Act.put, List.setIfInBounds_toArray, List.set_cons_zero, List.set_cons_succ, i64_w, i32_w]
               rfl
              refine take_ (i := 1) (N := some 89) (v := ?_) (a' := ?_) b1_2 rfl rfl (take_ofW HT_.out HW_.out (by kernel_rfl)) (fun _ _ _ h => h) (Or.inl ⟨by rfl, ?_⟩) hHeld ?_ ?_
              rotate_left
              ·rintro w' ⟨s0, s1, s2, s3, s4, s5, s6, s7, s8, s9, s10, s11, s12, s13, s14⟩
               go_simp
               with_reducible rfl
              rotate_left
              ·simp only [Act.put, List.setIfInBounds_toArray, List.set_cons_zero, List.set_cons_succ, i64_w, i32_w]
               rfl
              refine pure_ (i := 2) (N := some 90) (v := ?_) (a' := ?_) b1_3 rfl rfl (any_of HT_.out (by kernel_rfl)) (fun _ _ _ h => h) (Or.inl ⟨by rfl, ?_⟩) ?_ ?_
              rotate_left
              ·intro w'
               go_simp
               with_reducible rfl
              rotate_left
              ·simp only [Act.put, List.setIfInBounds_toArray, List.set_cons_zero, List.set_cons_succ, i64_w, i32_w]
               rfl
              refine pure_ (i := 3) (N := some 91) (v := ?_) (a' := ?_) b1_4 rfl rfl (any_of HT_.out (by kernel_rfl)) (fun _ _ _ h => h) (Or.inl ⟨by rfl, ?_⟩) ?_ ?_
              rotate_left
              ·intro w'
               go_simp
               with_reducible rfl
              rotate_left
              ·simp only [Act.put, List.setIfInBounds_toArray, List.set_cons_zero, List.set_cons_succ, i64_w, i32_w]
               rfl
              refine pure_ (i := 5) (N := some 93) (v := ?_) (a' := ?_) b1_5 rfl rfl (any_of HT_.out (by kernel_rfl)) (fun _ _ _ h => h) (Or.inl ⟨by rfl, ?_⟩) ?_ ?_
              rotate_left
              ·intro w'
               go_simp
               with_reducible rfl
              rotate_left
              ·simp only [Act.put, List.setIfInBounds_toArray, List.set_cons_zero, List.set_cons_succ, i64_w, i32_w]
               rfl
              refine take_ (i := 4) (N := some 92) (v := ?_) (a' := ?_) b1_7 rfl rfl (take_ofW HT_.out HW_.out (by kernel_rfl)) (fun _ _ _ h => h) (Or.inl ⟨by rfl, ?_⟩) hHeld ?_ ?_
              rotate_left
              ·rintro w' ⟨s0, s1, s2, s3, s4, s5, s6, s7, s8, s9, s10, s11, s12, s13, s14⟩
               go_simp
               with_reducible rfl
              rotate_left
              ·simp only [Act.put, List.setIfInBounds_toArray, List.set_cons_zero, List.set_cons_succ, i64_w, i32_w]
               rfl
              refine pure_ (i := 6) (N := some 94) (v := ?_) (a' := ?_) b1_8 rfl rfl (any_of HT_.out (by kernel_rfl)) (fun _ _ _ h => h) (Or.inl ⟨by rfl, ?_⟩) ?_ ?_
              rotate_left
              ·intro w'
               go_simp
               with_reducible rfl
              rotate_left
              ·simp only [Act.put, List.setIfInBounds_toArray, List.set_cons_zero, List.set_cons_succ, i64_w, i32_w]
               rfl
              refine pure_ (i := 7) (N := some 95) (v := ?_) (a' := ?_) b1_9 rfl rfl (any_of HT_.out (by kernel_rfl)) (fun _ _ _ h => h) (Or.inl ⟨by rfl, ?_⟩) ?_ ?_
              rotate_left
              ·intro w'
               go_simp
               with_reducible rfl
              rotate_left
              ·simp only [Act.put, List.setIfInBounds_toArray, List.set_cons_zero, List.set_cons_succ, i64_w, i32_w]
               rfl
              refine pure_ (i := 8) (N := some 96) (v := ?_) (a' := ?_) b1_10 rfl rfl (any_of HT_.out (by kernel_rfl)) (fun _ _ _ h => h) (Or.inl ⟨by rfl, ?_⟩) ?_ ?_
              rotate_left
              ·intro w'
               go_simp
               with_reducible rfl
              rotate_left
              ·simp only [Act.put, List.setIfInBounds_toArray, List.set_cons_zero, List.set_cons_succ, i64_w, i32_w]
               rfl
              refine pure_ (i := 9) (N := some 97) (v := ?_) (a' := ?_) b1_11 rfl rfl (any_of HT_.out (by kernel_rfl)) (fun _ _ _ h => h) (Or.inl ⟨by rfl, ?_⟩) ?_ ?_
              rotate_left
              ·intro w'
               go_simp
               with_reducible rfl
              rotate_left
              ·simp only [Act.put, List.setIfInBounds_toArray, List.set_cons_zero, List.set_cons_succ, i64_w, i32_w]
               rfl
              refine pure_ (i := 11) (N := some 99) (v := ?_) (a' := ?_) b1_12 rfl rfl (any_of HT_.out (by kernel_rfl)) (fun _ _ _ h => h) (Or.inl ⟨by rfl, ?_⟩) ?_ ?_
              rotate_left
              ·intro w'
               go_simp
               with_reducible rfl
              rotate_left
              ·simp only [Act.put, List.setIfInBounds_toArray, List.set_cons_zero, List.set_cons_succ, i64_w, i32_w]
               rfl
              refine take_ (i := 10) (N := some 98) (v := ?_) (a' := ?_) b1_14 rfl rfl (take_ofW HT_.out HW_.out (by kernel_rfl)) (fun _ _ _ h => h) (Or.inl ⟨by rfl, ?_⟩) hHeld ?_ ?_
              rotate_left
              ·rintro w' ⟨s0, s1, s2, s3, s4, s5, s6, s7, s8, s9, s10, s11, s12, s13, s14⟩
               go_simp
               with_reducible rfl
              rotate_left
              ·simp only [Act.put, List.setIfInBounds_toArray, List.set_cons_zero, List.set_cons_succ, i64_w, i32_w]
               rfl
              refine one_ (i := 12) (N := some 100) b1_15 rfl rfl (one_of HT_.out (by kernel_rfl)) (by decide) (fun K hK => ?_)
              refine goes_ Try.func54 (by kernel_rfl) rfl #[.slice A435_3 ((rd_T51 t416 (ji42)).f3).length c435_3, .int .i64 t419] (by rfl) rfl rfl (by (try simp only [List.map_toArray, List.map_cons, List.map_nil]); first | done | (simp only [hji42]; rfl) | rfl | (simp only [List.length_drop, List.length_take]; rfl)) ?_
              with_reducible refine (laws_contains.calls k2 _ _ ((rd_T51 t416 (ji42)).f3) t419 true _ ?side1 ?side2 A56.out).mono ?_
              (case side1 => repeat (first | exact ((Kd.R_reads' (by (with_reducible repeat (first | apply Kd.R_alloc | apply Kd.R_drewN | apply Kd.R_drew)); exact HL435_3.out)).2.2) | (with_reducible refine Kd.C_alloc ?_ _) | (with_reducible refine Kd.C_drewN ?_ _) | (with_reducible refine Kd.C_drew ?_)))
              (case side2 => exact HC435_3.out)
              rintro e w67 ⟨rfl, hb⟩
              have HS7_ := (hb.cell (World.block_lt_of_cell? _ _ (hHeld.2.2.2.2.2.2.2.1))).trans (hHeld.2.2.2.2.2.2.2.1)
              have HS8_ := (hb.cell (World.block_lt_of_cell? _ _ (hHeld.2.2.2.2.2.2.2.2.1))).trans (hHeld.2.2.2.2.2.2.2.2.1)
              have HS9_ := (hb.cell (World.block_lt_of_cell? _ _ (hHeld.2.2.2.2.2.2.2.2.2.1))).trans (hHeld.2.2.2.2.2.2.2.2.2.1)
              have HS10_ := (hb.cell (World.block_lt_of_cell? _ _ (hHeld.2.2.2.2.2.2.2.2.2.2.1))).trans (hHeld.2.2.2.2.2.2.2.2.2.2.1)
              have HS11_ := (hb.cell (World.block_lt_of_cell? _ _ (hHeld.2.2.2.2.2.2.2.2.2.2.2.1))).trans (hHeld.2.2.2.2.2.2.2.2.2.2.2.1)
              have HS12_ := (hb.cell (World.block_lt_of_cell? _ _ (hHeld.2.2.2.2.2.2.2.2.2.2.2.2.1))).trans (hHeld.2.2.2.2.2.2.2.2.2.2.2.2.1)
              have HS13_ := (hb.cell (World.block_lt_of_cell? _ _ (hHeld.2.2.2.2.2.2.2.2.2.2.2.2.2.1))).trans (hHeld.2.2.2.2.2.2.2.2.2.2.2.2.2.1)
              have HS14_ := (hb.cell (World.block_lt_of_cell? _ _ (hHeld.2.2.2.2.2.2.2.2.2.2.2.2.2.2))).trans (hHeld.2.2.2.2.2.2.2.2.2.2.2.2.2.2)
              refine ⟨_, rfl, ?_⟩
              have n0_ := Aside0.mk (Kd.S_below (by (with_reducible repeat (first | apply Kd.S_alloc | apply Kd.S_drewN | apply Kd.S_drew)); exact HO_3.out) hb)
              have n1_ := Aside0.mk (Kd.R_below (by (with_reducible repeat (first | apply Kd.R_alloc | apply Kd.R_drewN | apply Kd.R_drew)); exact HO_9.out) hb)
              have n2_ := Aside0.mk (Kd.R_below (by (with_reducible repeat (first | apply Kd.R_alloc | apply Kd.R_drewN | apply Kd.R_drew)); exact HL435_3.out) hb)
              have n3_ := Aside0.mk (blk_below (g := gb436) (o := .cells #[.int .i64 ((rd_T51 t416 (ji42)).f0), .int .i64 ((rd_T51 t416 (ji42)).f1), .int .i64 ((rd_T51 t416 (ji42)).f2), .slice A435_3 ((rd_T51 t416 (ji42)).f3).length c435_3, .int .i64 ((rd_T51 t416 (ji42)).f4), .int .i64 ((rd_T51 t416 (ji42)).f5), .bool false] 51 (0, 0)) (by (with_reducible repeat (first | refine blk_drewN ?_ _ | refine blk_drew ?_ | refine blk_alloc ?_ _)); exact BK436.out) hb)
              have n4_ := Aside0.mk (below_step (by repeat (first | (with_reducible first | exact HB.out | apply below_alloc | apply pw_below_drewN | apply below_drew1 | refine below_set ?_ GE436.out) | exact HB.out)) hb)
              clear HO_3
              clear HO_9
              clear HL435_3
              clear BK436
              clear HB
              have HO_3 := n0_
              have HO_9 := n1_
              have HL435_3 := n2_
              have BK436 := n3_
              have HB := n4_
              clear n0_ n1_ n2_ n3_ n4_
              (try clear hb)
              (try clear hb2)
              (try clear hk)
              (try clear hi)
              refine hK.out _ _ ⟨(blk_cell BK436.out 0).trans rfl, (blk_cell BK436.out 1).trans rfl, (blk_cell BK436.out 2).trans rfl, (blk_cell BK436.out 3).trans rfl, (blk_cell BK436.out 4).trans rfl, (blk_cell BK436.out 5).trans rfl, (blk_cell BK436.out 6).trans rfl, HS7_, HS8_, HS9_, HS10_, HS11_, HS12_, HS13_, HS14_⟩ (fun hHeld => ?_)
              clear hK K
              refine norm_ (a' := ?_) ?_ ?_
              rotate_left
              ·show Act.put _ (some 100) _ = _
               simp only [Act.put, List.setIfInBounds_toArray, List.set_cons_zero, List.set_cons_succ, i64_w, i32_w]
               rfl
              refine pure_ (i := 13) (N := some 101) (v := ?_) (a' := ?_) b1_16 rfl rfl (any_of HT_.out (by kernel_rfl)) (fun _ _ _ h => h) (Or.inl ⟨by rfl, ?_⟩) ?_ ?_
              rotate_left
              ·intro w'
               go_simp
               with_reducible rfl
              rotate_left
              ·simp only [Act.put, List.setIfInBounds_toArray, List.set_cons_zero, List.set_cons_succ, i64_w, i32_w]
               rfl
              refine pure_ (i := 14) (N := some 102) (v := ?_) (a' := ?_) b1_17 rfl rfl (any_of HT_.out (by kernel_rfl)) (fun _ _ _ h => h) (Or.inl ⟨by rfl, ?_⟩) ?_ ?_
              rotate_left
              ·intro w'
               go_simp
               with_reducible rfl
              rotate_left
              ·simp only [Act.put, List.setIfInBounds_toArray, List.set_cons_zero, List.set_cons_succ, i64_w, i32_w]
               rfl
              refine pure_ (i := 15) (N := some 103) (v := ?_) (a' := ?_) b1_18 rfl rfl (any_of HT_.out (by kernel_rfl)) (fun _ _ _ h => h) (Or.inl ⟨by rfl, ?_⟩) ?_ ?_
              rotate_left
              ·intro w'
               go_simp
               with_reducible rfl
              rotate_left
              ·simp only [Act.put, List.setIfInBounds_toArray, List.set_cons_zero, List.set_cons_succ, i64_w, i32_w]
               rfl
              refine pure_ (i := 16) (N := some 104) (v := ?_) (a' := ?_) b1_19 rfl rfl (any_of HT_.out (by kernel_rfl)) (fun _ _ _ h => h) (Or.inl ⟨by rfl, ?_⟩) ?_ ?_
              rotate_left
              ·intro w'
               go_simp
               with_reducible rfl
              rotate_left
              ·simp only [Act.put, List.setIfInBounds_toArray, List.set_cons_zero, List.set_cons_succ, i64_w, i32_w]
               rfl
              refine pure_ (i := 17) (N := some 105) (v := ?_) (a' := ?_) b1_20 rfl rfl (any_of HT_.out (by kernel_rfl)) (fun _ _ _ h => h) (Or.inl ⟨by rfl, ?_⟩) ?_ ?_
              rotate_left
              ·intro w'
               go_simp
               with_reducible rfl
              rotate_left
              ·simp only [Act.put, List.setIfInBounds_toArray, List.set_cons_zero, List.set_cons_succ, i64_w, i32_w]
               rfl
              refine pure_ (i := 18) (N := some 106) (v := ?_) (a' := ?_) b1_21 rfl rfl (any_of HT_.out (by kernel_rfl)) (fun _ _ _ h => h) (Or.inl ⟨by rfl, ?_⟩) ?_ ?_
              rotate_left
              ·intro w'
               go_simp
               with_reducible rfl
              rotate_left
              ·simp only [Act.put, List.setIfInBounds_toArray, List.set_cons_zero, List.set_cons_succ, i64_w, i32_w]
               rfl
              refine pure_ (i := 19) (N := some 107) (v := ?_) (a' := ?_) b1_22 rfl rfl (any_of HT_.out (by kernel_rfl)) (fun _ _ _ h => h) (Or.inl ⟨by rfl, ?_⟩) ?_ ?_
              rotate_left
              ·intro w'
               go_simp
               with_reducible rfl
              rotate_left
              ·simp only [Act.put, List.setIfInBounds_toArray, List.set_cons_zero, List.set_cons_succ, i64_w, i32_w]
               rfl
              refine pure_ (i := 21) (N := some 109) (v := ?_) (a' := ?_) b1_23 rfl rfl (any_of HT_.out (by kernel_rfl)) (fun _ _ _ h => h) (Or.inl ⟨by rfl, ?_⟩) ?_ ?_
              rotate_left
              ·intro w'
               go_simp
               with_reducible rfl
              rotate_left
              ·simp only [Act.put, List.setIfInBounds_toArray, List.set_cons_zero, List.set_cons_succ, i64_w, i32_w]
               rfl
              refine pure_ (i := 22) (N := some 110) (v := ?_) (a' := ?_) b1_24 rfl rfl (any_of HT_.out (by kernel_rfl)) (fun _ _ _ h => h) (Or.inl ⟨by rfl, ?_⟩) ?_ ?_
              rotate_left
              ·intro w'
               go_simp
               with_reducible rfl
              rotate_left
              ·simp only [Act.put, List.setIfInBounds_toArray, List.set_cons_zero, List.set_cons_succ, i64_w, i32_w]
               rfl
              refine pure_ (i := 23) (N := some 111) (v := ?_) (a' := ?_) b1_25 rfl rfl (any_of HT_.out (by kernel_rfl)) (fun _ _ _ h => h) (Or.inl ⟨by rfl, ?_⟩) ?_ ?_
              rotate_left
              ·intro w'
               go_simp
               with_reducible rfl
              rotate_left
              ·simp only [Act.put, List.setIfInBounds_toArray, List.set_cons_zero, List.set_cons_succ, i64_w, i32_w]
               rfl
              refine pure_ (i := 24) (N := some 112) (v := ?_) (a' := ?_) b1_26 rfl rfl (any_of HT_.out (by kernel_rfl)) (fun _ _ _ h => h) (Or.inl ⟨by rfl, ?_⟩) ?_ ?_
              rotate_left
              ·intro w'
               go_simp
               with_reducible rfl
              rotate_left
              ·simp only [Act.put, List.setIfInBounds_toArray, List.set_cons_zero, List.set_cons_succ, i64_w, i32_w]
               rfl
              refine pure_ (i := 25) (N := some 113) (v := ?_) (a' := ?_) b1_27 rfl rfl (any_of HT_.out (by kernel_rfl)) (fun _ _ _ h => h) (Or.inl ⟨by rfl, ?_⟩) ?_ ?_
              rotate_left
              ·intro w'
               go_simp
               with_reducible rfl
              rotate_left
              ·simp only [Act.put, List.setIfInBounds_toArray, List.set_cons_zero, List.set_cons_succ, i64_w, i32_w]
               rfl
              refine take_ (i := 20) (N := some 108) (v := ?_) (a' := ?_) b1_33 rfl rfl (take_ofW HT_.out HW_.out (by kernel_rfl)) (fun _ _ _ h => h) (Or.inl ⟨by rfl, ?_⟩) hHeld ?_ ?_
              rotate_left
              ·rintro w' ⟨s0, s1, s2, s3, s4, s5, s6, s7, s8, s9, s10, s11, s12, s13, s14⟩
               go_simp
               with_reducible rfl
              rotate_left
              ·simp only [Act.put, List.setIfInBounds_toArray, List.set_cons_zero, List.set_cons_succ, i64_w, i32_w]
               rfl
              refine take_ (i := 26) (N := some 114) (v := ?_) (a' := ?_) b1_34 rfl rfl (take_ofW HT_.out HW_.out (by kernel_rfl)) (fun _ _ _ h => h) (Or.inl ⟨by rfl, ?_⟩) hHeld ?_ ?_
              rotate_left
              ·rintro w' ⟨s0, s1, s2, s3, s4, s5, s6, s7, s8, s9, s10, s11, s12, s13, s14⟩
               go_simp
               with_reducible rfl
              rotate_left
              ·simp only [Act.put, List.setIfInBounds_toArray, List.set_cons_zero, List.set_cons_succ, i64_w, i32_w]
               rfl
              refine pure_ (i := 27) (N := some 115) (v := ?_) (a' := ?_) b1_35 rfl rfl (any_of HT_.out (by kernel_rfl)) (fun _ _ _ h => h) (Or.inl ⟨by rfl, ?_⟩) ?_ ?_
              rotate_left
              ·intro w'
               go_simp
               with_reducible rfl
              rotate_left
              ·simp only [Act.put, List.setIfInBounds_toArray, List.set_cons_zero, List.set_cons_succ, i64_w, i32_w]
               rfl
              refine pure_ (i := 28) (N := some 116) (v := ?_) (a' := ?_) b1_36 rfl rfl (any_of HT_.out (by kernel_rfl)) (fun _ _ _ h => h) (Or.inl ⟨by rfl, ?_⟩) ?_ ?_
              rotate_left
              ·intro w'
               go_simp
               with_reducible rfl
              rotate_left
              ·simp only [Act.put, List.setIfInBounds_toArray, List.set_cons_zero, List.set_cons_succ, i64_w, i32_w]
               rfl
              refine pure_ (i := 29) (N := some 117) (v := ?_) (a' := ?_) b1_37 rfl rfl (any_of HT_.out (by kernel_rfl)) (fun _ _ _ h => h) (Or.inl ⟨by rfl, ?_⟩) ?_ ?_
              rotate_left
              ·intro w'
               go_simp
               with_reducible rfl
              rotate_left
              ·simp only [Act.put, List.setIfInBounds_toArray, List.set_cons_zero, List.set_cons_succ, i64_w, i32_w]
               rfl
              refine take_ (i := 30) (N := some 118) (v := ?_) (a' := ?_) b1_38 rfl rfl (take_ofW HT_.out HW_.out (by kernel_rfl)) (fun _ _ _ h => h) (Or.inl ⟨by rfl, ?_⟩) hHeld ?_ ?_
              rotate_left
              ·rintro w' ⟨s0, s1, s2, s3, s4, s5, s6, s7, s8, s9, s10, s11, s12, s13, s14⟩
               go_simp
               with_reducible rfl
              rotate_left
              ·simp only [Act.put, List.setIfInBounds_toArray, List.set_cons_zero, List.set_cons_succ, i64_w, i32_w]
               rfl
              refine pure_ (i := 31) (N := some 119) (v := ?_) (a' := ?_) b1_39 rfl rfl (any_of HT_.out (by kernel_rfl)) (fun _ _ _ h => h) (Or.inl ⟨by rfl, ?_⟩) ?_ ?_
              rotate_left
              ·intro w'
               go_simp
               with_reducible rfl
              rotate_left
              ·simp only [Act.put, List.setIfInBounds_toArray, List.set_cons_zero, List.set_cons_succ, i64_w, i32_w]
               rfl
              refine pure_ (i := 32) (N := some 120) (v := ?_) (a' := ?_) b1_40 rfl rfl (any_of HT_.out (by kernel_rfl)) (fun _ _ _ h => h) (Or.inl ⟨by rfl, ?_⟩) ?_ ?_
              rotate_left
              ·intro w'
               go_simp
               with_reducible rfl
              rotate_left
              ·simp only [Act.put, List.setIfInBounds_toArray, List.set_cons_zero, List.set_cons_succ, i64_w, i32_w]
               rfl
              refine pure_ (i := 33) (N := some 121) (v := ?_) (a' := ?_) b1_41 rfl rfl (any_of HT_.out (by kernel_rfl)) (fun _ _ _ h => h) (Or.inl ⟨by rfl, ?_⟩) ?_ ?_
              rotate_left
              ·intro w'
               go_simp
               with_reducible rfl
              rotate_left
              ·simp only [Act.put, List.setIfInBounds_toArray, List.set_cons_zero, List.set_cons_succ, i64_w, i32_w]
               rfl
              refine done_ (done_of HT_.out (by kernel_rfl)) ?_
              try go_wp2
              go_meet
              case rel => exact ⟨_, ((((rd_T51 t416 (ji42)).f2) != ((rd_T51 t416 (ji62)).f1))), (by first | rfl | (simp; done) | (simp only [← hji42, ← hji62] <;> (first | rfl | simp)) | (simp [*]; done)), H', ⟨by have := HJ14.out; have := HK2.out; first | omega | exact Nat.le_refl _⟩, ⟨by (with_reducible repeat (first | apply Kd.S_alloc | apply Kd.S_drewN | apply Kd.S_drew)); exact Kd.S_mono HO_3.out (fun _ hk => hk.1)⟩, ⟨by (with_reducible repeat (first | apply Kd.R_alloc | apply Kd.R_drewN | apply Kd.R_drew)); exact HO_9.out⟩, ⟨by repeat (first | (with_reducible first | exact HB.out | apply below_alloc | apply pw_below_drewN | apply below_drew1 | refine below_set ?_ GE436.out) | exact HB.out)⟩⟩
             ·have c58b0 : decide (0 < x10_2) = false := decide_eq_false c58
              clear c58
              have H' := Aside0.mk H
              clear H
              try go_wp2
              have n0_ : Aside0 (Kd.S k51 51 (((((((w47.setCell ⟨gb436, 0, none⟩ (.int .i64 ((rd_T51 t416 (ji42)).f0))).setCell ⟨gb436, 1, none⟩ (.int .i64 ((rd_T51 t416 (ji42)).f1))).setCell ⟨gb436, 2, none⟩ (.int .i64 ((rd_T51 t416 (ji42)).f2))).setCell ⟨gb436, 3, none⟩ (.slice A435_3 ((rd_T51 t416 (ji42)).f3).length c435_3)).setCell ⟨gb436, 4, none⟩ (.int .i64 ((rd_T51 t416 (ji42)).f4))).setCell ⟨gb436, 5, none⟩ (.int .i64 ((rd_T51 t416 (ji42)).f5))).setCell ⟨gb436, 6, none⟩ (.bool (false))) w.heap.size (fun k_ => some k_ ≠ (.slice (some ad434) t425.length co46 : Value).ownBlock ∧ k_ ≠ gb436) (.slice (some ad435) t416.length co18) t416) := ⟨by (with_reducible repeat (first | apply Kd.S_alloc | apply Kd.S_drewN | apply Kd.S_drew)); exact Kd.S_mono (Kd.S_far (p := ⟨gb436, 6, none⟩) (Kd.S_far (p := ⟨gb436, 5, none⟩) (Kd.S_far (p := ⟨gb436, 4, none⟩) (Kd.S_far (p := ⟨gb436, 3, none⟩) (Kd.S_far (p := ⟨gb436, 2, none⟩) (Kd.S_far (p := ⟨gb436, 1, none⟩) (Kd.S_far (p := ⟨gb436, 0, none⟩) (Kd.S_mono HO_3.out (fun k_ hk => (⟨hk, hk.2⟩ : _ ∧ k_ ≠ gb436))) (fun _ hk => hk.2) (.int .i64 ((rd_T51 t416 (ji42)).f0))) (fun _ hk => hk.2) (.int .i64 ((rd_T51 t416 (ji42)).f1))) (fun _ hk => hk.2) (.int .i64 ((rd_T51 t416 (ji42)).f2))) (fun _ hk => hk.2) (.slice A435_3 ((rd_T51 t416 (ji42)).f3).length c435_3)) (fun _ hk => hk.2) (.int .i64 ((rd_T51 t416 (ji42)).f4))) (fun _ hk => hk.2) (.int .i64 ((rd_T51 t416 (ji42)).f5))) (fun _ hk => hk.2) (.bool (false))) (fun _ hk => ⟨hk.1.1, hk.1.2⟩)⟩
              have n1_ : Aside0 (Kd.R (Kd.int .i64) 3 (((((((w47.setCell ⟨gb436, 0, none⟩ (.int .i64 ((rd_T51 t416 (ji42)).f0))).setCell ⟨gb436, 1, none⟩ (.int .i64 ((rd_T51 t416 (ji42)).f1))).setCell ⟨gb436, 2, none⟩ (.int .i64 ((rd_T51 t416 (ji42)).f2))).setCell ⟨gb436, 3, none⟩ (.slice A435_3 ((rd_T51 t416 (ji42)).f3).length c435_3)).setCell ⟨gb436, 4, none⟩ (.int .i64 ((rd_T51 t416 (ji42)).f4))).setCell ⟨gb436, 5, none⟩ (.int .i64 ((rd_T51 t416 (ji42)).f5))).setCell ⟨gb436, 6, none⟩ (.bool (false))) w.heap.size (fun _ => True) (.slice (some ad434) t425.length co46) t425) := ⟨by (with_reducible repeat (first | apply Kd.R_alloc | apply Kd.R_drewN | apply Kd.R_drew)); exact Kd.R_mono (Kd.R_far (p := ⟨gb436, 6, none⟩) (Kd.R_far (p := ⟨gb436, 5, none⟩) (Kd.R_far (p := ⟨gb436, 4, none⟩) (Kd.R_far (p := ⟨gb436, 3, none⟩) (Kd.R_far (p := ⟨gb436, 2, none⟩) (Kd.R_far (p := ⟨gb436, 1, none⟩) (Kd.R_far (p := ⟨gb436, 0, none⟩) (Kd.R_types HO_9.out BK436.out (by decide)) (fun _ hk => hk.2) (.int .i64 ((rd_T51 t416 (ji42)).f0))) (fun _ hk => hk.2) (.int .i64 ((rd_T51 t416 (ji42)).f1))) (fun _ hk => hk.2) (.int .i64 ((rd_T51 t416 (ji42)).f2))) (fun _ hk => hk.2) (.slice A435_3 ((rd_T51 t416 (ji42)).f3).length c435_3)) (fun _ hk => hk.2) (.int .i64 ((rd_T51 t416 (ji42)).f4))) (fun _ hk => hk.2) (.int .i64 ((rd_T51 t416 (ji42)).f5))) (fun _ hk => hk.2) (.bool (false))) (fun _ hk => trivial)⟩
              have n2_ : Aside0 (Kd.R (Kd.int .i64) 3 (((((((w47.setCell ⟨gb436, 0, none⟩ (.int .i64 ((rd_T51 t416 (ji42)).f0))).setCell ⟨gb436, 1, none⟩ (.int .i64 ((rd_T51 t416 (ji42)).f1))).setCell ⟨gb436, 2, none⟩ (.int .i64 ((rd_T51 t416 (ji42)).f2))).setCell ⟨gb436, 3, none⟩ (.slice A435_3 ((rd_T51 t416 (ji42)).f3).length c435_3)).setCell ⟨gb436, 4, none⟩ (.int .i64 ((rd_T51 t416 (ji42)).f4))).setCell ⟨gb436, 5, none⟩ (.int .i64 ((rd_T51 t416 (ji42)).f5))).setCell ⟨gb436, 6, none⟩ (.bool (false))) w.heap.size (fun k_ => some k_ ≠ (.slice (some ad435) t416.length co18 : Value).ownBlock ∧ some k_ ≠ (.slice (some ad434) t425.length co46 : Value).ownBlock) (.slice A435_3 ((rd_T51 t416 (ji42)).f3).length c435_3) ((rd_T51 t416 (ji42)).f3)) := ⟨by (with_reducible repeat (first | apply Kd.R_alloc | apply Kd.R_drewN | apply Kd.R_drew)); exact Kd.R_mono (Kd.R_far (p := ⟨gb436, 6, none⟩) (Kd.R_far (p := ⟨gb436, 5, none⟩) (Kd.R_far (p := ⟨gb436, 4, none⟩) (Kd.R_far (p := ⟨gb436, 3, none⟩) (Kd.R_far (p := ⟨gb436, 2, none⟩) (Kd.R_far (p := ⟨gb436, 1, none⟩) (Kd.R_far (p := ⟨gb436, 0, none⟩) (Kd.R_types HL435_3.out BK436.out (by decide)) (fun _ hk => hk.2) (.int .i64 ((rd_T51 t416 (ji42)).f0))) (fun _ hk => hk.2) (.int .i64 ((rd_T51 t416 (ji42)).f1))) (fun _ hk => hk.2) (.int .i64 ((rd_T51 t416 (ji42)).f2))) (fun _ hk => hk.2) (.slice A435_3 ((rd_T51 t416 (ji42)).f3).length c435_3)) (fun _ hk => hk.2) (.int .i64 ((rd_T51 t416 (ji42)).f4))) (fun _ hk => hk.2) (.int .i64 ((rd_T51 t416 (ji42)).f5))) (fun _ hk => hk.2) (.bool (false))) (fun _ hk => ⟨hk.1.2, hk.1.1⟩)⟩
              have n3_ : Aside0 ((((((((w47.setCell ⟨gb436, 0, none⟩ (.int .i64 ((rd_T51 t416 (ji42)).f0))).setCell ⟨gb436, 1, none⟩ (.int .i64 ((rd_T51 t416 (ji42)).f1))).setCell ⟨gb436, 2, none⟩ (.int .i64 ((rd_T51 t416 (ji42)).f2))).setCell ⟨gb436, 3, none⟩ (.slice A435_3 ((rd_T51 t416 (ji42)).f3).length c435_3)).setCell ⟨gb436, 4, none⟩ (.int .i64 ((rd_T51 t416 (ji42)).f4))).setCell ⟨gb436, 5, none⟩ (.int .i64 ((rd_T51 t416 (ji42)).f5))).setCell ⟨gb436, 6, none⟩ (.bool (false))).heap[gb436]? = some (.cells #[.int .i64 ((rd_T51 t416 (ji42)).f0), .int .i64 ((rd_T51 t416 (ji42)).f1), .int .i64 ((rd_T51 t416 (ji42)).f2), .slice A435_3 ((rd_T51 t416 (ji42)).f3).length c435_3, .int .i64 ((rd_T51 t416 (ji42)).f4), .int .i64 ((rd_T51 t416 (ji42)).f5), .bool false] 51 (0, 0))) := ⟨by (with_reducible repeat (first | refine blk_drewN ?_ _ | refine blk_drew ?_ | refine blk_alloc ?_ _)); refine blk_put (cs := #[.int .i64 ((rd_T51 t416 (ji42)).f0), .int .i64 ((rd_T51 t416 (ji42)).f1), .int .i64 ((rd_T51 t416 (ji42)).f2), .slice A435_3 ((rd_T51 t416 (ji42)).f3).length c435_3, .int .i64 ((rd_T51 t416 (ji42)).f4), .int .i64 ((rd_T51 t416 (ji42)).f5), .bool false]) ?_ 6 _ rfl; (with_reducible repeat (first | refine blk_drewN ?_ _ | refine blk_drew ?_ | refine blk_alloc ?_ _)); refine blk_put (cs := #[.int .i64 ((rd_T51 t416 (ji42)).f0), .int .i64 ((rd_T51 t416 (ji42)).f1), .int .i64 ((rd_T51 t416 (ji42)).f2), .slice A435_3 ((rd_T51 t416 (ji42)).f3).length c435_3, .int .i64 ((rd_T51 t416 (ji42)).f4), .int .i64 0, .bool false]) ?_ 5 _ rfl; (with_reducible repeat (first | refine blk_drewN ?_ _ | refine blk_drew ?_ | refine blk_alloc ?_ _)); refine blk_put (cs := #[.int .i64 ((rd_T51 t416 (ji42)).f0), .int .i64 ((rd_T51 t416 (ji42)).f1), .int .i64 ((rd_T51 t416 (ji42)).f2), .slice A435_3 ((rd_T51 t416 (ji42)).f3).length c435_3, .int .i64 0, .int .i64 0, .bool false]) ?_ 4 _ rfl; (with_reducible repeat (first | refine blk_drewN ?_ _ | refine blk_drew ?_ | refine blk_alloc ?_ _)); refine blk_put (cs := #[.int .i64 ((rd_T51 t416 (ji42)).f0), .int .i64 ((rd_T51 t416 (ji42)).f1), .int .i64 ((rd_T51 t416 (ji42)).f2), .slice none 0 0, .int .i64 0, .int .i64 0, .bool false]) ?_ 3 _ rfl; (with_reducible repeat (first | refine blk_drewN ?_ _ | refine blk_drew ?_ | refine blk_alloc ?_ _)); refine blk_put (cs := #[.int .i64 ((rd_T51 t416 (ji42)).f0), .int .i64 ((rd_T51 t416 (ji42)).f1), .int .i64 0, .slice none 0 0, .int .i64 0, .int .i64 0, .bool false]) ?_ 2 _ rfl; (with_reducible repeat (first | refine blk_drewN ?_ _ | refine blk_drew ?_ | refine blk_alloc ?_ _)); refine blk_put (cs := #[.int .i64 ((rd_T51 t416 (ji42)).f0), .int .i64 0, .int .i64 0, .slice none 0 0, .int .i64 0, .int .i64 0, .bool false]) ?_ 1 _ rfl; (with_reducible repeat (first | refine blk_drewN ?_ _ | refine blk_drew ?_ | refine blk_alloc ?_ _)); refine blk_put (cs := #[.int .i64 0, .int .i64 0, .int .i64 0, .slice none 0 0, .int .i64 0, .int .i64 0, .bool false]) ?_ 0 _ rfl; (with_reducible repeat (first | refine blk_drewN ?_ _ | refine blk_drew ?_ | refine blk_alloc ?_ _)); exact BK436.out⟩
              have n4_ : Aside0 (Below w.heap.size w (((((((w47.setCell ⟨gb436, 0, none⟩ (.int .i64 ((rd_T51 t416 (ji42)).f0))).setCell ⟨gb436, 1, none⟩ (.int .i64 ((rd_T51 t416 (ji42)).f1))).setCell ⟨gb436, 2, none⟩ (.int .i64 ((rd_T51 t416 (ji42)).f2))).setCell ⟨gb436, 3, none⟩ (.slice A435_3 ((rd_T51 t416 (ji42)).f3).length c435_3)).setCell ⟨gb436, 4, none⟩ (.int .i64 ((rd_T51 t416 (ji42)).f4))).setCell ⟨gb436, 5, none⟩ (.int .i64 ((rd_T51 t416 (ji42)).f5))).setCell ⟨gb436, 6, none⟩ (.bool (false)))) := ⟨by repeat (first | (with_reducible first | exact HB.out | apply below_alloc | apply pw_below_drewN | apply below_drew1 | refine below_set ?_ GE436.out) | exact HB.out)⟩
              (try clear HO_3)
              (try clear HO_9)
              (try clear HL435_3)
              (try clear BK436)
              (try clear HB)
              generalize (((((((w47.setCell ⟨gb436, 0, none⟩ (.int .i64 ((rd_T51 t416 (ji42)).f0))).setCell ⟨gb436, 1, none⟩ (.int .i64 ((rd_T51 t416 (ji42)).f1))).setCell ⟨gb436, 2, none⟩ (.int .i64 ((rd_T51 t416 (ji42)).f2))).setCell ⟨gb436, 3, none⟩ (.slice A435_3 ((rd_T51 t416 (ji42)).f3).length c435_3)).setCell ⟨gb436, 4, none⟩ (.int .i64 ((rd_T51 t416 (ji42)).f4))).setCell ⟨gb436, 5, none⟩ (.int .i64 ((rd_T51 t416 (ji42)).f5))).setCell ⟨gb436, 6, none⟩ (.bool (false))) = w68 at n0_ n1_ n2_ n3_ n4_ ⊢
              have HO_3 := n0_
              have HO_9 := n1_
              have HL435_3 := n2_
              have BK436 := n3_
              have HB := n4_
              clear n0_ n1_ n2_ n3_ n4_
              have n0_ := Aside0.mk (Kd.S_drew HO_3.out)
              have n1_ := Aside0.mk (Kd.R_drew HO_9.out)
              have n2_ := Aside0.mk (Kd.R_drew HL435_3.out)
              have n3_ := Aside0.mk (blk_drew BK436.out)
              have n4_ := Aside0.mk (below_drew1 HB.out)
              clear HO_3
              clear HO_9
              clear HL435_3
              clear BK436
              clear HB
              have HO_3 := n0_
              have HO_9 := n1_
              have HL435_3 := n2_
              have BK436 := n3_
              have HB := n4_
              clear n0_ n1_ n2_ n3_ n4_
              refine start_ (n := 34) (S := fun w' => w'.cell? ⟨gb436, 0, none⟩ = some (.int .i64 ((rd_T51 t416 (ji42)).f0)) ∧ w'.cell? ⟨gb436, 1, none⟩ = some (.int .i64 ((rd_T51 t416 (ji42)).f1)) ∧ w'.cell? ⟨gb436, 2, none⟩ = some (.int .i64 ((rd_T51 t416 (ji42)).f2)) ∧ w'.cell? ⟨gb436, 3, none⟩ = some (.slice A435_3 ((rd_T51 t416 (ji42)).f3).length c435_3) ∧ w'.cell? ⟨gb436, 4, none⟩ = some (.int .i64 ((rd_T51 t416 (ji42)).f4)) ∧ w'.cell? ⟨gb436, 5, none⟩ = some (.int .i64 ((rd_T51 t416 (ji42)).f5)) ∧ w'.cell? ⟨gb436, 6, none⟩ = some (.bool false)) (ds := []) b1_0 (by kernel_rfl) rfl rfl ⟨(blk_cell BK436.out 0).trans rfl, (blk_cell BK436.out 1).trans rfl, (blk_cell BK436.out 2).trans rfl, (blk_cell BK436.out 3).trans rfl, (blk_cell BK436.out 4).trans rfl, (blk_cell BK436.out 5).trans rfl, (blk_cell BK436.out 6).trans rfl⟩ (fun hHeld => ?_); refine with_tabW laws_FnDelegated.tab14 laws_FnDelegated.bits14 (fun HT_ HW_ => ?_)
              generalize w68.drew = w69 at HO_3 HO_9 HL435_3 BK436 HB hHeld ⊢
              refine pure_ (i := 0) (N := some 88) (v := ?_) (a' := ?_) b1_1 rfl rfl (any_of HT_.out (by kernel_rfl)) (fun _ _ _ h => h) (Or.inl ⟨by rfl, ?_⟩) ?_ ?_
              rotate_left
              ·intro w'
               go_simp
               with_reducible rfl
              rotate_left
              ·simp only [Act.put, List.setIfInBounds_toArray, List.set_cons_zero, List.set_cons_succ, i64_w, i32_w]
               rfl
              refine take_ (i := 1) (N := some 89) (v := ?_) (a' := ?_) b1_2 rfl rfl (take_ofW HT_.out HW_.out (by kernel_rfl)) (fun _ _ _ h => h) (Or.inl ⟨by rfl, ?_⟩) hHeld ?_ ?_
              rotate_left
              ·rintro w' ⟨s0, s1, s2, s3, s4, s5, s6⟩
               go_simp
               with_reducible rfl
              rotate_left
              ·simp only [Act.put, List.setIfInBounds_toArray, List.set_cons_zero, List.set_cons_succ, i64_w, i32_w]
               rfl
              refine pure_ (i := 2) (N := some 90) (v := ?_) (a' := ?_) b1_3 rfl rfl (any_of HT_.out (by kernel_rfl)) (fun _ _ _ h => h) (Or.inl ⟨by rfl, ?_⟩) ?_ ?_
              rotate_left
              ·intro w'
               go_simp
               with_reducible rfl
              rotate_left
              ·simp only [Act.put, List.setIfInBounds_toArray, List.set_cons_zero, List.set_cons_succ, i64_w, i32_w]
               rfl
              refine pure_ (i := 3) (N := some 91) (v := ?_) (a' := ?_) b1_4 rfl rfl (any_of HT_.out (by kernel_rfl)) (fun _ _ _ h => h) (Or.inl ⟨by rfl, ?_⟩) ?_ ?_
              rotate_left
              ·intro w'
               go_simp
               with_reducible rfl
              rotate_left
              ·simp only [Act.put, List.setIfInBounds_toArray, List.set_cons_zero, List.set_cons_succ, i64_w, i32_w]
               rfl
              refine pure_ (i := 5) (N := some 93) (v := ?_) (a' := ?_) b1_5 rfl rfl (any_of HT_.out (by kernel_rfl)) (fun _ _ _ h => h) (Or.inl ⟨by rfl, ?_⟩) ?_ ?_
              rotate_left
              ·intro w'
               go_simp
               with_reducible rfl
              rotate_left
              ·simp only [Act.put, List.setIfInBounds_toArray, List.set_cons_zero, List.set_cons_succ, i64_w, i32_w]
               rfl
              refine take_ (i := 4) (N := some 92) (v := ?_) (a' := ?_) b1_7 rfl rfl (take_ofW HT_.out HW_.out (by kernel_rfl)) (fun _ _ _ h => h) (Or.inl ⟨by rfl, ?_⟩) hHeld ?_ ?_
              rotate_left
              ·rintro w' ⟨s0, s1, s2, s3, s4, s5, s6⟩
               go_simp
               with_reducible rfl
              rotate_left
              ·simp only [Act.put, List.setIfInBounds_toArray, List.set_cons_zero, List.set_cons_succ, i64_w, i32_w]
               rfl
              refine pure_ (i := 6) (N := some 94) (v := ?_) (a' := ?_) b1_8 rfl rfl (any_of HT_.out (by kernel_rfl)) (fun _ _ _ h => h) (Or.inl ⟨by rfl, ?_⟩) ?_ ?_
              rotate_left
              ·intro w'
               go_simp
               with_reducible rfl
              rotate_left
              ·simp only [Act.put, List.setIfInBounds_toArray, List.set_cons_zero, List.set_cons_succ, i64_w, i32_w]
               rfl
              refine pure_ (i := 7) (N := some 95) (v := ?_) (a' := ?_) b1_9 rfl rfl (any_of HT_.out (by kernel_rfl)) (fun _ _ _ h => h) (Or.inl ⟨by rfl, ?_⟩) ?_ ?_
              rotate_left
              ·intro w'
               go_simp
               with_reducible rfl
              rotate_left
              ·simp only [Act.put, List.setIfInBounds_toArray, List.set_cons_zero, List.set_cons_succ, i64_w, i32_w]
               rfl
              refine pure_ (i := 8) (N := some 96) (v := ?_) (a' := ?_) b1_10 rfl rfl (any_of HT_.out (by kernel_rfl)) (fun _ _ _ h => h) (Or.inl ⟨by rfl, ?_⟩) ?_ ?_
              rotate_left
              ·intro w'
               go_simp
               with_reducible rfl
              rotate_left
              ·simp only [Act.put, List.setIfInBounds_toArray, List.set_cons_zero, List.set_cons_succ, i64_w, i32_w]
               rfl
              refine pure_ (i := 9) (N := some 97) (v := ?_) (a' := ?_) b1_11 rfl rfl (any_of HT_.out (by kernel_rfl)) (fun _ _ _ h => h) (Or.inl ⟨by rfl, ?_⟩) ?_ ?_
              rotate_left
              ·intro w'
               go_simp
               with_reducible rfl
              rotate_left
              ·simp only [Act.put, List.setIfInBounds_toArray, List.set_cons_zero, List.set_cons_succ, i64_w, i32_w]
               rfl
              refine pure_ (i := 11) (N := some 99) (v := ?_) (a' := ?_) b1_12 rfl rfl (any_of HT_.out (by kernel_rfl)) (fun _ _ _ h => h) (Or.inl ⟨by rfl, ?_⟩) ?_ ?_
              rotate_left
              ·intro w'
               go_simp
               with_reducible rfl
              rotate_left
              ·simp only [Act.put, List.setIfInBounds_toArray, List.set_cons_zero, List.set_cons_succ, i64_w, i32_w]
               rfl
              refine take_ (i := 10) (N := some 98) (v := ?_) (a' := ?_) b1_14 rfl rfl (take_ofW HT_.out HW_.out (by kernel_rfl)) (fun _ _ _ h => h) (Or.inl ⟨by rfl, ?_⟩) hHeld ?_ ?_
              rotate_left
              ·rintro w' ⟨s0, s1, s2, s3, s4, s5, s6⟩
               go_simp
               with_reducible rfl
              rotate_left
              ·simp only [Act.put, List.setIfInBounds_toArray, List.set_cons_zero, List.set_cons_succ, i64_w, i32_w]
               rfl
              refine one_ (i := 12) (N := some 100) b1_15 rfl rfl (one_of HT_.out (by kernel_rfl)) (by decide) (fun K hK => ?_)
              refine goes_ Try.func54 (by kernel_rfl) rfl #[.slice A435_3 ((rd_T51 t416 (ji42)).f3).length c435_3, .int .i64 t419] (by rfl) rfl rfl (by (try simp only [List.map_toArray, List.map_cons, List.map_nil]); first | done | (simp only [hji42]; rfl) | rfl | (simp only [List.length_drop, List.length_take]; rfl)) ?_
              with_reducible refine (laws_contains.calls k2 _ _ ((rd_T51 t416 (ji42)).f3) t419 true _ ?side1 ?side2 A56.out).mono ?_
              (case side1 => repeat (first | exact ((Kd.R_reads' (by (with_reducible repeat (first | apply Kd.R_alloc | apply Kd.R_drewN | apply Kd.R_drew)); exact HL435_3.out)).2.2) | (with_reducible refine Kd.C_alloc ?_ _) | (with_reducible refine Kd.C_drewN ?_ _) | (with_reducible refine Kd.C_drew ?_)))
              (case side2 => exact HC435_3.out)
              rintro e w70 ⟨rfl, hb⟩
              refine ⟨_, rfl, ?_⟩
              have n0_ := Aside0.mk (Kd.S_below (by (with_reducible repeat (first | apply Kd.S_alloc | apply Kd.S_drewN | apply Kd.S_drew)); exact HO_3.out) hb)
              have n1_ := Aside0.mk (Kd.R_below (by (with_reducible repeat (first | apply Kd.R_alloc | apply Kd.R_drewN | apply Kd.R_drew)); exact HO_9.out) hb)
              have n2_ := Aside0.mk (Kd.R_below (by (with_reducible repeat (first | apply Kd.R_alloc | apply Kd.R_drewN | apply Kd.R_drew)); exact HL435_3.out) hb)
              have n3_ := Aside0.mk (blk_below (g := gb436) (o := .cells #[.int .i64 ((rd_T51 t416 (ji42)).f0), .int .i64 ((rd_T51 t416 (ji42)).f1), .int .i64 ((rd_T51 t416 (ji42)).f2), .slice A435_3 ((rd_T51 t416 (ji42)).f3).length c435_3, .int .i64 ((rd_T51 t416 (ji42)).f4), .int .i64 ((rd_T51 t416 (ji42)).f5), .bool false] 51 (0, 0)) (by (with_reducible repeat (first | refine blk_drewN ?_ _ | refine blk_drew ?_ | refine blk_alloc ?_ _)); exact BK436.out) hb)
              have n4_ := Aside0.mk (below_step (by repeat (first | (with_reducible first | exact HB.out | apply below_alloc | apply pw_below_drewN | apply below_drew1 | refine below_set ?_ GE436.out) | exact HB.out)) hb)
              clear HO_3
              clear HO_9
              clear HL435_3
              clear BK436
              clear HB
              have HO_3 := n0_
              have HO_9 := n1_
              have HL435_3 := n2_
              have BK436 := n3_
              have HB := n4_
              clear n0_ n1_ n2_ n3_ n4_
              (try clear hb)
              (try clear hb2)
              (try clear hk)
              (try clear hi)
              refine hK.out _ _ ⟨(blk_cell BK436.out 0).trans rfl, (blk_cell BK436.out 1).trans rfl, (blk_cell BK436.out 2).trans rfl, (blk_cell BK436.out 3).trans rfl, (blk_cell BK436.out 4).trans rfl, (blk_cell BK436.out 5).trans rfl, (blk_cell BK436.out 6).trans rfl⟩ (fun hHeld => ?_)
              clear hK K
              refine norm_ (a' := ?_) ?_ ?_
              rotate_left
              ·show Act.put _ (some 100) _ = _
               simp only [Act.put, List.setIfInBounds_toArray, List.set_cons_zero, List.set_cons_succ, i64_w, i32_w]
               rfl
              refine pure_ (i := 13) (N := some 101) (v := ?_) (a' := ?_) b1_16 rfl rfl (any_of HT_.out (by kernel_rfl)) (fun _ _ _ h => h) (Or.inl ⟨by rfl, ?_⟩) ?_ ?_
              rotate_left
              ·intro w'
               go_simp
               with_reducible rfl
              rotate_left
              ·simp only [Act.put, List.setIfInBounds_toArray, List.set_cons_zero, List.set_cons_succ, i64_w, i32_w]
               rfl
              refine pure_ (i := 14) (N := some 102) (v := ?_) (a' := ?_) b1_17 rfl rfl (any_of HT_.out (by kernel_rfl)) (fun _ _ _ h => h) (Or.inl ⟨by rfl, ?_⟩) ?_ ?_
              rotate_left
              ·intro w'
               go_simp
               with_reducible rfl
              rotate_left
              ·simp only [Act.put, List.setIfInBounds_toArray, List.set_cons_zero, List.set_cons_succ, i64_w, i32_w]
               rfl
              refine pure_ (i := 15) (N := some 103) (v := ?_) (a' := ?_) b1_18 rfl rfl (any_of HT_.out (by kernel_rfl)) (fun _ _ _ h => h) (Or.inl ⟨by rfl, ?_⟩) ?_ ?_
              rotate_left
              ·intro w'
               go_simp
               with_reducible rfl
              rotate_left
              ·simp only [Act.put, List.setIfInBounds_toArray, List.set_cons_zero, List.set_cons_succ, i64_w, i32_w]
               rfl
              refine pure_ (i := 16) (N := some 104) (v := ?_) (a' := ?_) b1_19 rfl rfl (any_of HT_.out (by kernel_rfl)) (fun _ _ _ h => h) (Or.inl ⟨by rfl, ?_⟩) ?_ ?_
              rotate_left
              ·intro w'
               go_simp
               with_reducible rfl
              rotate_left
              ·simp only [Act.put, List.setIfInBounds_toArray, List.set_cons_zero, List.set_cons_succ, i64_w, i32_w]
               rfl
              refine pure_ (i := 17) (N := some 105) (v := ?_) (a' := ?_) b1_20 rfl rfl (any_of HT_.out (by kernel_rfl)) (fun _ _ _ h => h) (Or.inl ⟨by rfl, ?_⟩) ?_ ?_
              rotate_left
              ·intro w'
               go_simp
               with_reducible rfl
              rotate_left
              ·simp only [Act.put, List.setIfInBounds_toArray, List.set_cons_zero, List.set_cons_succ, i64_w, i32_w]
               rfl
              refine pure_ (i := 18) (N := some 106) (v := ?_) (a' := ?_) b1_21 rfl rfl (any_of HT_.out (by kernel_rfl)) (fun _ _ _ h => h) (Or.inl ⟨by rfl, ?_⟩) ?_ ?_
              rotate_left
              ·intro w'
               go_simp
               with_reducible rfl
              rotate_left
              ·simp only [Act.put, List.setIfInBounds_toArray, List.set_cons_zero, List.set_cons_succ, i64_w, i32_w]
               rfl
              refine pure_ (i := 19) (N := some 107) (v := undef) (a' := ?_) b1_22 rfl rfl (any_of HT_.out (by kernel_rfl)) (fun _ _ _ h => h) (Or.inr ⟨by rfl, rfl⟩) ?_ ?_
              rotate_left
              ·simp only [Act.put, List.setIfInBounds_toArray, List.set_cons_zero, List.set_cons_succ, i64_w, i32_w]
               rfl
              refine pure_ (i := 20) (N := some 108) (v := undef) (a' := ?_) b1_28 rfl rfl (any_of HT_.out (by kernel_rfl)) (fun _ _ _ h => h) (Or.inr ⟨by rfl, rfl⟩) ?_ ?_
              rotate_left
              ·simp only [Act.put, List.setIfInBounds_toArray, List.set_cons_zero, List.set_cons_succ, i64_w, i32_w]
               rfl
              refine pure_ (i := 21) (N := some 109) (v := undef) (a' := ?_) b1_29 rfl rfl (any_of HT_.out (by kernel_rfl)) (fun _ _ _ h => h) (Or.inr ⟨by rfl, rfl⟩) ?_ ?_
              rotate_left
              ·simp only [Act.put, List.setIfInBounds_toArray, List.set_cons_zero, List.set_cons_succ, i64_w, i32_w]
               rfl
              refine pure_ (i := 22) (N := some 110) (v := undef) (a' := ?_) b1_30 rfl rfl (any_of HT_.out (by kernel_rfl)) (fun _ _ _ h => h) (Or.inr ⟨by rfl, rfl⟩) ?_ ?_
              rotate_left
              ·simp only [Act.put, List.setIfInBounds_toArray, List.set_cons_zero, List.set_cons_succ, i64_w, i32_w]
               rfl
              refine pure_ (i := 23) (N := some 111) (v := undef) (a' := ?_) b1_31 rfl rfl (any_of HT_.out (by kernel_rfl)) (fun _ _ _ h => h) (Or.inr ⟨by rfl, rfl⟩) ?_ ?_
              rotate_left
              ·simp only [Act.put, List.setIfInBounds_toArray, List.set_cons_zero, List.set_cons_succ, i64_w, i32_w]
               rfl
              refine pure_ (i := 24) (N := some 112) (v := undef) (a' := ?_) b1_32 rfl rfl (any_of HT_.out (by kernel_rfl)) (fun _ _ _ h => h) (Or.inr ⟨by rfl, rfl⟩) ?_ ?_
              rotate_left
              ·simp only [Act.put, List.setIfInBounds_toArray, List.set_cons_zero, List.set_cons_succ, i64_w, i32_w]
               rfl
              refine pure_ (i := 25) (N := some 113) (v := undef) (a' := ?_) b1_33 rfl rfl (any_of HT_.out (by kernel_rfl)) (fun _ _ _ h => h) (Or.inr ⟨by rfl, rfl⟩) ?_ ?_
              rotate_left
              ·simp only [Act.put, List.setIfInBounds_toArray, List.set_cons_zero, List.set_cons_succ, i64_w, i32_w]
               rfl
              refine pure_ (i := 26) (N := some 114) (v := undef) (a' := ?_) b1_34 rfl rfl (any_of HT_.out (by kernel_rfl)) (fun _ _ _ h => h) (Or.inr ⟨by rfl, rfl⟩) ?_ ?_
              rotate_left
              ·simp only [Act.put, List.setIfInBounds_toArray, List.set_cons_zero, List.set_cons_succ, i64_w, i32_w]
               rfl
              refine pure_ (i := 27) (N := some 115) (v := undef) (a' := ?_) b1_35 rfl rfl (any_of HT_.out (by kernel_rfl)) (fun _ _ _ h => h) (Or.inr ⟨by rfl, rfl⟩) ?_ ?_
              rotate_left
              ·simp only [Act.put, List.setIfInBounds_toArray, List.set_cons_zero, List.set_cons_succ, i64_w, i32_w]
               rfl
              refine pure_ (i := 28) (N := some 116) (v := undef) (a' := ?_) b1_36 rfl rfl (any_of HT_.out (by kernel_rfl)) (fun _ _ _ h => h) (Or.inr ⟨by rfl, rfl⟩) ?_ ?_
              rotate_left
              ·simp only [Act.put, List.setIfInBounds_toArray, List.set_cons_zero, List.set_cons_succ, i64_w, i32_w]
               rfl
              refine pure_ (i := 29) (N := some 117) (v := undef) (a' := ?_) b1_37 rfl rfl (any_of HT_.out (by kernel_rfl)) (fun _ _ _ h => h) (Or.inr ⟨by rfl, rfl⟩) ?_ ?_
              rotate_left
              ·simp only [Act.put, List.setIfInBounds_toArray, List.set_cons_zero, List.set_cons_succ, i64_w, i32_w]
               rfl
              refine pure_ (i := 30) (N := some 118) (v := undef) (a' := ?_) b1_38 rfl rfl (any_of HT_.out (by kernel_rfl)) (fun _ _ _ h => h) (Or.inr ⟨by rfl, rfl⟩) ?_ ?_
              rotate_left
              ·simp only [Act.put, List.setIfInBounds_toArray, List.set_cons_zero, List.set_cons_succ, i64_w, i32_w]
               rfl
              refine pure_ (i := 31) (N := some 119) (v := undef) (a' := ?_) b1_39 rfl rfl (any_of HT_.out (by kernel_rfl)) (fun _ _ _ h => h) (Or.inr ⟨by rfl, rfl⟩) ?_ ?_
              rotate_left
              ·simp only [Act.put, List.setIfInBounds_toArray, List.set_cons_zero, List.set_cons_succ, i64_w, i32_w]
               rfl
              refine pure_ (i := 32) (N := some 120) (v := ?_) (a' := ?_) b1_40 rfl rfl (any_of HT_.out (by kernel_rfl)) (fun _ _ _ h => h) (Or.inl ⟨by rfl, ?_⟩) ?_ ?_
              rotate_left
              ·intro w'
               go_simp
               with_reducible rfl
              rotate_left
              ·simp only [Act.put, List.setIfInBounds_toArray, List.set_cons_zero, List.set_cons_succ, i64_w, i32_w]
               rfl
              refine pure_ (i := 33) (N := some 121) (v := ?_) (a' := ?_) b1_41 rfl rfl (any_of HT_.out (by kernel_rfl)) (fun _ _ _ h => h) (Or.inl ⟨by rfl, ?_⟩) ?_ ?_
              rotate_left
              ·intro w'
               go_simp
               with_reducible rfl
              rotate_left
              ·simp only [Act.put, List.setIfInBounds_toArray, List.set_cons_zero, List.set_cons_succ, i64_w, i32_w]
               rfl
              refine done_ (done_of HT_.out (by kernel_rfl)) ?_
              try go_wp2
              go_meet
              case rel => exact ⟨_, (false), (by first | rfl | (simp; done) | (simp [*]; done)), H', ⟨by have := HJ14.out; have := HK2.out; first | omega | exact Nat.le_refl _⟩, ⟨by (with_reducible repeat (first | apply Kd.S_alloc | apply Kd.S_drewN | apply Kd.S_drew)); exact Kd.S_mono HO_3.out (fun _ hk => hk.1)⟩, ⟨by (with_reducible repeat (first | apply Kd.R_alloc | apply Kd.R_drewN | apply Kd.R_drew)); exact HO_9.out⟩, ⟨by repeat (first | (with_reducible first | exact HB.out | apply below_alloc | apply pw_below_drewN | apply below_drew1 | refine below_set ?_ GE436.out) | exact HB.out)⟩⟩
            ·replace c57 := Bool.eq_false_iff.mpr c57
             subst c57
             have H1 : (laws_FnDelegated.j2 k2 t416 t417 t418 t419 t420 t425 x10_2 true) = some r := by rw [if_neg (show ¬ (false = true) by decide)] at H; exact H
             clear H
             have H := H1
             clear H1
             have H' := Aside0.mk H
             clear H
             try go_wp2
             have n0_ : Aside0 (Kd.S k51 51 (((((((w47.setCell ⟨gb436, 0, none⟩ (.int .i64 ((rd_T51 t416 (ji42)).f0))).setCell ⟨gb436, 1, none⟩ (.int .i64 ((rd_T51 t416 (ji42)).f1))).setCell ⟨gb436, 2, none⟩ (.int .i64 ((rd_T51 t416 (ji42)).f2))).setCell ⟨gb436, 3, none⟩ (.slice A435_3 ((rd_T51 t416 (ji42)).f3).length c435_3)).setCell ⟨gb436, 4, none⟩ (.int .i64 ((rd_T51 t416 (ji42)).f4))).setCell ⟨gb436, 5, none⟩ (.int .i64 ((rd_T51 t416 (ji42)).f5))).setCell ⟨gb436, 6, none⟩ (.bool (false))) w.heap.size (fun k_ => some k_ ≠ (.slice (some ad434) t425.length co46 : Value).ownBlock ∧ k_ ≠ gb436) (.slice (some ad435) t416.length co18) t416) := ⟨by (with_reducible repeat (first | apply Kd.S_alloc | apply Kd.S_drewN | apply Kd.S_drew)); exact Kd.S_mono (Kd.S_far (p := ⟨gb436, 6, none⟩) (Kd.S_far (p := ⟨gb436, 5, none⟩) (Kd.S_far (p := ⟨gb436, 4, none⟩) (Kd.S_far (p := ⟨gb436, 3, none⟩) (Kd.S_far (p := ⟨gb436, 2, none⟩) (Kd.S_far (p := ⟨gb436, 1, none⟩) (Kd.S_far (p := ⟨gb436, 0, none⟩) (Kd.S_mono HO_3.out (fun k_ hk => (⟨hk, hk.2⟩ : _ ∧ k_ ≠ gb436))) (fun _ hk => hk.2) (.int .i64 ((rd_T51 t416 (ji42)).f0))) (fun _ hk => hk.2) (.int .i64 ((rd_T51 t416 (ji42)).f1))) (fun _ hk => hk.2) (.int .i64 ((rd_T51 t416 (ji42)).f2))) (fun _ hk => hk.2) (.slice A435_3 ((rd_T51 t416 (ji42)).f3).length c435_3)) (fun _ hk => hk.2) (.int .i64 ((rd_T51 t416 (ji42)).f4))) (fun _ hk => hk.2) (.int .i64 ((rd_T51 t416 (ji42)).f5))) (fun _ hk => hk.2) (.bool (false))) (fun _ hk => ⟨hk.1.1, hk.1.2⟩)⟩
             have n1_ : Aside0 (Kd.R (Kd.int .i64) 3 (((((((w47.setCell ⟨gb436, 0, none⟩ (.int .i64 ((rd_T51 t416 (ji42)).f0))).setCell ⟨gb436, 1, none⟩ (.int .i64 ((rd_T51 t416 (ji42)).f1))).setCell ⟨gb436, 2, none⟩ (.int .i64 ((rd_T51 t416 (ji42)).f2))).setCell ⟨gb436, 3, none⟩ (.slice A435_3 ((rd_T51 t416 (ji42)).f3).length c435_3)).setCell ⟨gb436, 4, none⟩ (.int .i64 ((rd_T51 t416 (ji42)).f4))).setCell ⟨gb436, 5, none⟩ (.int .i64 ((rd_T51 t416 (ji42)).f5))).setCell ⟨gb436, 6, none⟩ (.bool (false))) w.heap.size (fun _ => True) (.slice (some ad434) t425.length co46) t425) := ⟨by (with_reducible repeat (first | apply Kd.R_alloc | apply Kd.R_drewN | apply Kd.R_drew)); exact Kd.R_mono (Kd.R_far (p := ⟨gb436, 6, none⟩) (Kd.R_far (p := ⟨gb436, 5, none⟩) (Kd.R_far (p := ⟨gb436, 4, none⟩) (Kd.R_far (p := ⟨gb436, 3, none⟩) (Kd.R_far (p := ⟨gb436, 2, none⟩) (Kd.R_far (p := ⟨gb436, 1, none⟩) (Kd.R_far (p := ⟨gb436, 0, none⟩) (Kd.R_types HO_9.out BK436.out (by decide)) (fun _ hk => hk.2) (.int .i64 ((rd_T51 t416 (ji42)).f0))) (fun _ hk => hk.2) (.int .i64 ((rd_T51 t416 (ji42)).f1))) (fun _ hk => hk.2) (.int .i64 ((rd_T51 t416 (ji42)).f2))) (fun _ hk => hk.2) (.slice A435_3 ((rd_T51 t416 (ji42)).f3).length c435_3)) (fun _ hk => hk.2) (.int .i64 ((rd_T51 t416 (ji42)).f4))) (fun _ hk => hk.2) (.int .i64 ((rd_T51 t416 (ji42)).f5))) (fun _ hk => hk.2) (.bool (false))) (fun _ hk => trivial)⟩
             have n2_ : Aside0 (Kd.R (Kd.int .i64) 3 (((((((w47.setCell ⟨gb436, 0, none⟩ (.int .i64 ((rd_T51 t416 (ji42)).f0))).setCell ⟨gb436, 1, none⟩ (.int .i64 ((rd_T51 t416 (ji42)).f1))).setCell ⟨gb436, 2, none⟩ (.int .i64 ((rd_T51 t416 (ji42)).f2))).setCell ⟨gb436, 3, none⟩ (.slice A435_3 ((rd_T51 t416 (ji42)).f3).length c435_3)).setCell ⟨gb436, 4, none⟩ (.int .i64 ((rd_T51 t416 (ji42)).f4))).setCell ⟨gb436, 5, none⟩ (.int .i64 ((rd_T51 t416 (ji42)).f5))).setCell ⟨gb436, 6, none⟩ (.bool (false))) w.heap.size (fun k_ => some k_ ≠ (.slice (some ad435) t416.length co18 : Value).ownBlock ∧ some k_ ≠ (.slice (some ad434) t425.length co46 : Value).ownBlock) (.slice A435_3 ((rd_T51 t416 (ji42)).f3).length c435_3) ((rd_T51 t416 (ji42)).f3)) := ⟨by (with_reducible repeat (first | apply Kd.R_alloc | apply Kd.R_drewN | apply Kd.R_drew)); exact Kd.R_mono (Kd.R_far (p := ⟨gb436, 6, none⟩) (Kd.R_far (p := ⟨gb436, 5, none⟩) (Kd.R_far (p := ⟨gb436, 4, none⟩) (Kd.R_far (p := ⟨gb436, 3, none⟩) (Kd.R_far (p := ⟨gb436, 2, none⟩) (Kd.R_far (p := ⟨gb436, 1, none⟩) (Kd.R_far (p := ⟨gb436, 0, none⟩) (Kd.R_types HL435_3.out BK436.out (by decide)) (fun _ hk => hk.2) (.int .i64 ((rd_T51 t416 (ji42)).f0))) (fun _ hk => hk.2) (.int .i64 ((rd_T51 t416 (ji42)).f1))) (fun _ hk => hk.2) (.int .i64 ((rd_T51 t416 (ji42)).f2))) (fun _ hk => hk.2) (.slice A435_3 ((rd_T51 t416 (ji42)).f3).length c435_3)) (fun _ hk => hk.2) (.int .i64 ((rd_T51 t416 (ji42)).f4))) (fun _ hk => hk.2) (.int .i64 ((rd_T51 t416 (ji42)).f5))) (fun _ hk => hk.2) (.bool (false))) (fun _ hk => ⟨hk.1.2, hk.1.1⟩)⟩
             have n3_ : Aside0 ((((((((w47.setCell ⟨gb436, 0, none⟩ (.int .i64 ((rd_T51 t416 (ji42)).f0))).setCell ⟨gb436, 1, none⟩ (.int .i64 ((rd_T51 t416 (ji42)).f1))).setCell ⟨gb436, 2, none⟩ (.int .i64 ((rd_T51 t416 (ji42)).f2))).setCell ⟨gb436, 3, none⟩ (.slice A435_3 ((rd_T51 t416 (ji42)).f3).length c435_3)).setCell ⟨gb436, 4, none⟩ (.int .i64 ((rd_T51 t416 (ji42)).f4))).setCell ⟨gb436, 5, none⟩ (.int .i64 ((rd_T51 t416 (ji42)).f5))).setCell ⟨gb436, 6, none⟩ (.bool (false))).heap[gb436]? = some (.cells #[.int .i64 ((rd_T51 t416 (ji42)).f0), .int .i64 ((rd_T51 t416 (ji42)).f1), .int .i64 ((rd_T51 t416 (ji42)).f2), .slice A435_3 ((rd_T51 t416 (ji42)).f3).length c435_3, .int .i64 ((rd_T51 t416 (ji42)).f4), .int .i64 ((rd_T51 t416 (ji42)).f5), .bool false] 51 (0, 0))) := ⟨by (with_reducible repeat (first | refine blk_drewN ?_ _ | refine blk_drew ?_ | refine blk_alloc ?_ _)); refine blk_put (cs := #[.int .i64 ((rd_T51 t416 (ji42)).f0), .int .i64 ((rd_T51 t416 (ji42)).f1), .int .i64 ((rd_T51 t416 (ji42)).f2), .slice A435_3 ((rd_T51 t416 (ji42)).f3).length c435_3, .int .i64 ((rd_T51 t416 (ji42)).f4), .int .i64 ((rd_T51 t416 (ji42)).f5), .bool false]) ?_ 6 _ rfl; (with_reducible repeat (first | refine blk_drewN ?_ _ | refine blk_drew ?_ | refine blk_alloc ?_ _)); refine blk_put (cs := #[.int .i64 ((rd_T51 t416 (ji42)).f0), .int .i64 ((rd_T51 t416 (ji42)).f1), .int .i64 ((rd_T51 t416 (ji42)).f2), .slice A435_3 ((rd_T51 t416 (ji42)).f3).length c435_3, .int .i64 ((rd_T51 t416 (ji42)).f4), .int .i64 0, .bool false]) ?_ 5 _ rfl; (with_reducible repeat (first | refine blk_drewN ?_ _ | refine blk_drew ?_ | refine blk_alloc ?_ _)); refine blk_put (cs := #[.int .i64 ((rd_T51 t416 (ji42)).f0), .int .i64 ((rd_T51 t416 (ji42)).f1), .int .i64 ((rd_T51 t416 (ji42)).f2), .slice A435_3 ((rd_T51 t416 (ji42)).f3).length c435_3, .int .i64 0, .int .i64 0, .bool false]) ?_ 4 _ rfl; (with_reducible repeat (first | refine blk_drewN ?_ _ | refine blk_drew ?_ | refine blk_alloc ?_ _)); refine blk_put (cs := #[.int .i64 ((rd_T51 t416 (ji42)).f0), .int .i64 ((rd_T51 t416 (ji42)).f1), .int .i64 ((rd_T51 t416 (ji42)).f2), .slice none 0 0, .int .i64 0, .int .i64 0, .bool false]) ?_ 3 _ rfl; (with_reducible repeat (first | refine blk_drewN ?_ _ | refine blk_drew ?_ | refine blk_alloc ?_ _)); refine blk_put (cs := #[.int .i64 ((rd_T51 t416 (ji42)).f0), .int .i64 ((rd_T51 t416 (ji42)).f1), .int .i64 0, .slice none 0 0, .int .i64 0, .int .i64 0, .bool false]) ?_ 2 _ rfl; (with_reducible repeat (first | refine blk_drewN ?_ _ | refine blk_drew ?_ | refine blk_alloc ?_ _)); refine blk_put (cs := #[.int .i64 ((rd_T51 t416 (ji42)).f0), .int .i64 0, .int .i64 0, .slice none 0 0, .int .i64 0, .int .i64 0, .bool false]) ?_ 1 _ rfl; (with_reducible repeat (first | refine blk_drewN ?_ _ | refine blk_drew ?_ | refine blk_alloc ?_ _)); refine blk_put (cs := #[.int .i64 0, .int .i64 0, .int .i64 0, .slice none 0 0, .int .i64 0, .int .i64 0, .bool false]) ?_ 0 _ rfl; (with_reducible repeat (first | refine blk_drewN ?_ _ | refine blk_drew ?_ | refine blk_alloc ?_ _)); exact BK436.out⟩
             have n4_ : Aside0 (Below w.heap.size w (((((((w47.setCell ⟨gb436, 0, none⟩ (.int .i64 ((rd_T51 t416 (ji42)).f0))).setCell ⟨gb436, 1, none⟩ (.int .i64 ((rd_T51 t416 (ji42)).f1))).setCell ⟨gb436, 2, none⟩ (.int .i64 ((rd_T51 t416 (ji42)).f2))).setCell ⟨gb436, 3, none⟩ (.slice A435_3 ((rd_T51 t416 (ji42)).f3).length c435_3)).setCell ⟨gb436, 4, none⟩ (.int .i64 ((rd_T51 t416 (ji42)).f4))).setCell ⟨gb436, 5, none⟩ (.int .i64 ((rd_T51 t416 (ji42)).f5))).setCell ⟨gb436, 6, none⟩ (.bool (false)))) := ⟨by repeat (first | (with_reducible first | exact HB.out | apply below_alloc | apply pw_below_drewN | apply below_drew1 | refine below_set ?_ GE436.out) | exact HB.out)⟩
             (try clear HO_3)
             (try clear HO_9)
             (try clear HL435_3)
             (try clear BK436)
             (try clear HB)
             generalize (((((((w47.setCell ⟨gb436, 0, none⟩ (.int .i64 ((rd_T51 t416 (ji42)).f0))).setCell ⟨gb436, 1, none⟩ (.int .i64 ((rd_T51 t416 (ji42)).f1))).setCell ⟨gb436, 2, none⟩ (.int .i64 ((rd_T51 t416 (ji42)).f2))).setCell ⟨gb436, 3, none⟩ (.slice A435_3 ((rd_T51 t416 (ji42)).f3).length c435_3)).setCell ⟨gb436, 4, none⟩ (.int .i64 ((rd_T51 t416 (ji42)).f4))).setCell ⟨gb436, 5, none⟩ (.int .i64 ((rd_T51 t416 (ji42)).f5))).setCell ⟨gb436, 6, none⟩ (.bool (false))) = w71 at n0_ n1_ n2_ n3_ n4_ ⊢
             have HO_3 := n0_
             have HO_9 := n1_
             have HL435_3 := n2_
             have BK436 := n3_
             have HB := n4_
             clear n0_ n1_ n2_ n3_ n4_
             have n0_ := Aside0.mk (Kd.S_drew HO_3.out)
             have n1_ := Aside0.mk (Kd.R_drew HO_9.out)
             have n2_ := Aside0.mk (Kd.R_drew HL435_3.out)
             have n3_ := Aside0.mk (blk_drew BK436.out)
             have n4_ := Aside0.mk (below_drew1 HB.out)
             clear HO_3
             clear HO_9
             clear HL435_3
             clear BK436
             clear HB
             have HO_3 := n0_
             have HO_9 := n1_
             have HL435_3 := n2_
             have BK436 := n3_
             have HB := n4_
             clear n0_ n1_ n2_ n3_ n4_
             refine start_ (n := 34) (S := fun w' => w'.cell? ⟨gb436, 0, none⟩ = some (.int .i64 ((rd_T51 t416 (ji42)).f0)) ∧ w'.cell? ⟨gb436, 1, none⟩ = some (.int .i64 ((rd_T51 t416 (ji42)).f1)) ∧ w'.cell? ⟨gb436, 2, none⟩ = some (.int .i64 ((rd_T51 t416 (ji42)).f2)) ∧ w'.cell? ⟨gb436, 3, none⟩ = some (.slice A435_3 ((rd_T51 t416 (ji42)).f3).length c435_3) ∧ w'.cell? ⟨gb436, 4, none⟩ = some (.int .i64 ((rd_T51 t416 (ji42)).f4)) ∧ w'.cell? ⟨gb436, 5, none⟩ = some (.int .i64 ((rd_T51 t416 (ji42)).f5)) ∧ w'.cell? ⟨gb436, 6, none⟩ = some (.bool false)) (ds := []) b1_0 (by kernel_rfl) rfl rfl ⟨(blk_cell BK436.out 0).trans rfl, (blk_cell BK436.out 1).trans rfl, (blk_cell BK436.out 2).trans rfl, (blk_cell BK436.out 3).trans rfl, (blk_cell BK436.out 4).trans rfl, (blk_cell BK436.out 5).trans rfl, (blk_cell BK436.out 6).trans rfl⟩ (fun hHeld => ?_); refine with_tabW laws_FnDelegated.tab14 laws_FnDelegated.bits14 (fun HT_ HW_ => ?_)
             generalize w71.drew = w72 at HO_3 HO_9 HL435_3 BK436 HB hHeld ⊢
             refine pure_ (i := 0) (N := some 88) (v := ?_) (a' := ?_) b1_1 rfl rfl (any_of HT_.out (by kernel_rfl)) (fun _ _ _ h => h) (Or.inl ⟨by rfl, ?_⟩) ?_ ?_
             rotate_left
             ·intro w'
              go_simp
              with_reducible rfl
             rotate_left
             ·simp only [Act.put, List.setIfInBounds_toArray, List.set_cons_zero, List.set_cons_succ, i64_w, i32_w]
              rfl
             refine take_ (i := 1) (N := some 89) (v := ?_) (a' := ?_) b1_2 rfl rfl (take_ofW HT_.out HW_.out (by kernel_rfl)) (fun _ _ _ h => h) (Or.inl ⟨by rfl, ?_⟩) hHeld ?_ ?_
             rotate_left
             ·rintro w' ⟨s0, s1, s2, s3, s4, s5, s6⟩
              go_simp
              with_reducible rfl
             rotate_left
             ·simp only [Act.put, List.setIfInBounds_toArray, List.set_cons_zero, List.set_cons_succ, i64_w, i32_w]
              rfl
             refine pure_ (i := 2) (N := some 90) (v := ?_) (a' := ?_) b1_3 rfl rfl (any_of HT_.out (by kernel_rfl)) (fun _ _ _ h => h) (Or.inl ⟨by rfl, ?_⟩) ?_ ?_
             rotate_left
             ·intro w'
              go_simp
              with_reducible rfl
             rotate_left
             ·simp only [Act.put, List.setIfInBounds_toArray, List.set_cons_zero, List.set_cons_succ, i64_w, i32_w]
              rfl
             refine pure_ (i := 3) (N := some 91) (v := ?_) (a' := ?_) b1_4 rfl rfl (any_of HT_.out (by kernel_rfl)) (fun _ _ _ h => h) (Or.inl ⟨by rfl, ?_⟩) ?_ ?_
             rotate_left
             ·intro w'
              go_simp
              with_reducible rfl
             rotate_left
             ·simp only [Act.put, List.setIfInBounds_toArray, List.set_cons_zero, List.set_cons_succ, i64_w, i32_w]
              rfl
             refine pure_ (i := 5) (N := some 93) (v := ?_) (a' := ?_) b1_5 rfl rfl (any_of HT_.out (by kernel_rfl)) (fun _ _ _ h => h) (Or.inl ⟨by rfl, ?_⟩) ?_ ?_
             rotate_left
             ·intro w'
              go_simp
              with_reducible rfl
             rotate_left
             ·simp only [Act.put, List.setIfInBounds_toArray, List.set_cons_zero, List.set_cons_succ, i64_w, i32_w]
              rfl
             refine take_ (i := 4) (N := some 92) (v := ?_) (a' := ?_) b1_7 rfl rfl (take_ofW HT_.out HW_.out (by kernel_rfl)) (fun _ _ _ h => h) (Or.inl ⟨by rfl, ?_⟩) hHeld ?_ ?_
             rotate_left
             ·rintro w' ⟨s0, s1, s2, s3, s4, s5, s6⟩
              go_simp
              with_reducible rfl
             rotate_left
             ·simp only [Act.put, List.setIfInBounds_toArray, List.set_cons_zero, List.set_cons_succ, i64_w, i32_w]
              rfl
             refine pure_ (i := 6) (N := some 94) (v := ?_) (a' := ?_) b1_8 rfl rfl (any_of HT_.out (by kernel_rfl)) (fun _ _ _ h => h) (Or.inl ⟨by rfl, ?_⟩) ?_ ?_
             rotate_left
             ·intro w'
              go_simp
              with_reducible rfl
             rotate_left
             ·simp only [Act.put, List.setIfInBounds_toArray, List.set_cons_zero, List.set_cons_succ, i64_w, i32_w]
              rfl
             refine pure_ (i := 7) (N := some 95) (v := ?_) (a' := ?_) b1_9 rfl rfl (any_of HT_.out (by kernel_rfl)) (fun _ _ _ h => h) (Or.inl ⟨by rfl, ?_⟩) ?_ ?_
             rotate_left
             ·intro w'
              go_simp
              with_reducible rfl
             rotate_left
             ·simp only [Act.put, List.setIfInBounds_toArray, List.set_cons_zero, List.set_cons_succ, i64_w, i32_w]
              rfl
             refine pure_ (i := 8) (N := some 96) (v := ?_) (a' := ?_) b1_10 rfl rfl (any_of HT_.out (by kernel_rfl)) (fun _ _ _ h => h) (Or.inl ⟨by rfl, ?_⟩) ?_ ?_
             rotate_left
             ·intro w'
              go_simp
              with_reducible rfl
             rotate_left
             ·simp only [Act.put, List.setIfInBounds_toArray, List.set_cons_zero, List.set_cons_succ, i64_w, i32_w]
              rfl
             refine pure_ (i := 9) (N := some 97) (v := ?_) (a' := ?_) b1_11 rfl rfl (any_of HT_.out (by kernel_rfl)) (fun _ _ _ h => h) (Or.inl ⟨by rfl, ?_⟩) ?_ ?_
             rotate_left
             ·intro w'
              go_simp
              with_reducible rfl
             rotate_left
             ·simp only [Act.put, List.setIfInBounds_toArray, List.set_cons_zero, List.set_cons_succ, i64_w, i32_w]
              rfl
             refine pure_ (i := 11) (N := some 99) (v := ?_) (a' := ?_) b1_12 rfl rfl (any_of HT_.out (by kernel_rfl)) (fun _ _ _ h => h) (Or.inl ⟨by rfl, ?_⟩) ?_ ?_
             rotate_left
             ·intro w'
              go_simp
              with_reducible rfl
             rotate_left
             ·simp only [Act.put, List.setIfInBounds_toArray, List.set_cons_zero, List.set_cons_succ, i64_w, i32_w]
              rfl
             refine take_ (i := 10) (N := some 98) (v := ?_) (a' := ?_) b1_14 rfl rfl (take_ofW HT_.out HW_.out (by kernel_rfl)) (fun _ _ _ h => h) (Or.inl ⟨by rfl, ?_⟩) hHeld ?_ ?_
             rotate_left
             ·rintro w' ⟨s0, s1, s2, s3, s4, s5, s6⟩
              go_simp
              with_reducible rfl
             rotate_left
             ·simp only [Act.put, List.setIfInBounds_toArray, List.set_cons_zero, List.set_cons_succ, i64_w, i32_w]
              rfl
             refine one_ (i := 12) (N := some 100) b1_15 rfl rfl (one_of HT_.out (by kernel_rfl)) (by decide) (fun K hK => ?_)
             refine goes_ Try.func54 (by kernel_rfl) rfl #[.slice A435_3 ((rd_T51 t416 (ji42)).f3).length c435_3, .int .i64 t419] (by rfl) rfl rfl (by (try simp only [List.map_toArray, List.map_cons, List.map_nil]); first | done | (simp only [hji42]; rfl) | rfl | (simp only [List.length_drop, List.length_take]; rfl)) ?_
             with_reducible refine (laws_contains.calls k2 _ _ ((rd_T51 t416 (ji42)).f3) t419 false _ ?side1 ?side2 A56.out).mono ?_
             (case side1 => repeat (first | exact ((Kd.R_reads' (by (with_reducible repeat (first | apply Kd.R_alloc | apply Kd.R_drewN | apply Kd.R_drew)); exact HL435_3.out)).2.2) | (with_reducible refine Kd.C_alloc ?_ _) | (with_reducible refine Kd.C_drewN ?_ _) | (with_reducible refine Kd.C_drew ?_)))
             (case side2 => exact HC435_3.out)
             rintro e w73 ⟨rfl, hb⟩
             refine ⟨_, rfl, ?_⟩
             have n0_ := Aside0.mk (Kd.S_below (by (with_reducible repeat (first | apply Kd.S_alloc | apply Kd.S_drewN | apply Kd.S_drew)); exact HO_3.out) hb)
             have n1_ := Aside0.mk (Kd.R_below (by (with_reducible repeat (first | apply Kd.R_alloc | apply Kd.R_drewN | apply Kd.R_drew)); exact HO_9.out) hb)
             have n2_ := Aside0.mk (Kd.R_below (by (with_reducible repeat (first | apply Kd.R_alloc | apply Kd.R_drewN | apply Kd.R_drew)); exact HL435_3.out) hb)
             have n3_ := Aside0.mk (blk_below (g := gb436) (o := .cells #[.int .i64 ((rd_T51 t416 (ji42)).f0), .int .i64 ((rd_T51 t416 (ji42)).f1), .int .i64 ((rd_T51 t416 (ji42)).f2), .slice A435_3 ((rd_T51 t416 (ji42)).f3).length c435_3, .int .i64 ((rd_T51 t416 (ji42)).f4), .int .i64 ((rd_T51 t416 (ji42)).f5), .bool false] 51 (0, 0)) (by (with_reducible repeat (first | refine blk_drewN ?_ _ | refine blk_drew ?_ | refine blk_alloc ?_ _)); exact BK436.out) hb)
             have n4_ := Aside0.mk (below_step (by repeat (first | (with_reducible first | exact HB.out | apply below_alloc | apply pw_below_drewN | apply below_drew1 | refine below_set ?_ GE436.out) | exact HB.out)) hb)
             clear HO_3
             clear HO_9
             clear HL435_3
             clear BK436
             clear HB
             have HO_3 := n0_
             have HO_9 := n1_
             have HL435_3 := n2_
             have BK436 := n3_
             have HB := n4_
             clear n0_ n1_ n2_ n3_ n4_
             (try clear hb)
             (try clear hb2)
             (try clear hk)
             (try clear hi)
             refine hK.out _ _ ⟨(blk_cell BK436.out 0).trans rfl, (blk_cell BK436.out 1).trans rfl, (blk_cell BK436.out 2).trans rfl, (blk_cell BK436.out 3).trans rfl, (blk_cell BK436.out 4).trans rfl, (blk_cell BK436.out 5).trans rfl, (blk_cell BK436.out 6).trans rfl⟩ (fun hHeld => ?_)
             clear hK K
             refine norm_ (a' := ?_) ?_ ?_
             rotate_left
             ·show Act.put _ (some 100) _ = _
              simp only [Act.put, List.setIfInBounds_toArray, List.set_cons_zero, List.set_cons_succ, i64_w, i32_w]
              rfl
             refine pure_ (i := 13) (N := some 101) (v := ?_) (a' := ?_) b1_16 rfl rfl (any_of HT_.out (by kernel_rfl)) (fun _ _ _ h => h) (Or.inl ⟨by rfl, ?_⟩) ?_ ?_
             rotate_left
             ·intro w'
              go_simp
              with_reducible rfl
             rotate_left
             ·simp only [Act.put, List.setIfInBounds_toArray, List.set_cons_zero, List.set_cons_succ, i64_w, i32_w]
              rfl
             refine pure_ (i := 14) (N := some 102) (v := ?_) (a' := ?_) b1_17 rfl rfl (any_of HT_.out (by kernel_rfl)) (fun _ _ _ h => h) (Or.inl ⟨by rfl, ?_⟩) ?_ ?_
             rotate_left
             ·intro w'
              go_simp
              with_reducible rfl
             rotate_left
             ·simp only [Act.put, List.setIfInBounds_toArray, List.set_cons_zero, List.set_cons_succ, i64_w, i32_w]
              rfl
             refine pure_ (i := 15) (N := some 103) (v := ?_) (a' := ?_) b1_18 rfl rfl (any_of HT_.out (by kernel_rfl)) (fun _ _ _ h => h) (Or.inl ⟨by rfl, ?_⟩) ?_ ?_
             rotate_left
             ·intro w'
              go_simp
              with_reducible rfl
             rotate_left
             ·simp only [Act.put, List.setIfInBounds_toArray, List.set_cons_zero, List.set_cons_succ, i64_w, i32_w]
              rfl
             refine pure_ (i := 16) (N := some 104) (v := undef) (a' := ?_) b1_19 rfl rfl (any_of HT_.out (by kernel_rfl)) (fun _ _ _ h => h) (Or.inr ⟨by rfl, rfl⟩) ?_ ?_
             rotate_left
             ·simp only [Act.put, List.setIfInBounds_toArray, List.set_cons_zero, List.set_cons_succ, i64_w, i32_w]
              rfl
             refine pure_ (i := 17) (N := some 105) (v := undef) (a' := ?_) b1_20 rfl rfl (any_of HT_.out (by kernel_rfl)) (fun _ _ _ h => h) (Or.inr ⟨by rfl, rfl⟩) ?_ ?_
             rotate_left
             ·simp only [Act.put, List.setIfInBounds_toArray, List.set_cons_zero, List.set_cons_succ, i64_w, i32_w]
              rfl
             refine pure_ (i := 18) (N := some 106) (v := undef) (a' := ?_) b1_21 rfl rfl (any_of HT_.out (by kernel_rfl)) (fun _ _ _ h => h) (Or.inr ⟨by rfl, rfl⟩) ?_ ?_
             rotate_left
             ·simp only [Act.put, List.setIfInBounds_toArray, List.set_cons_zero, List.set_cons_succ, i64_w, i32_w]
              rfl
             refine pure_ (i := 19) (N := some 107) (v := undef) (a' := ?_) b1_22 rfl rfl (any_of HT_.out (by kernel_rfl)) (fun _ _ _ h => h) (Or.inr ⟨by rfl, rfl⟩) ?_ ?_
             rotate_left
             ·simp only [Act.put, List.setIfInBounds_toArray, List.set_cons_zero, List.set_cons_succ, i64_w, i32_w]
              rfl
             refine pure_ (i := 20) (N := some 108) (v := undef) (a' := ?_) b1_28 rfl rfl (any_of HT_.out (by kernel_rfl)) (fun _ _ _ h => h) (Or.inr ⟨by rfl, rfl⟩) ?_ ?_
             rotate_left
             ·simp only [Act.put, List.setIfInBounds_toArray, List.set_cons_zero, List.set_cons_succ, i64_w, i32_w]
              rfl
             refine pure_ (i := 21) (N := some 109) (v := undef) (a' := ?_) b1_29 rfl rfl (any_of HT_.out (by kernel_rfl)) (fun _ _ _ h => h) (Or.inr ⟨by rfl, rfl⟩) ?_ ?_
             rotate_left
             ·simp only [Act.put, List.setIfInBounds_toArray, List.set_cons_zero, List.set_cons_succ, i64_w, i32_w]
              rfl
             refine pure_ (i := 22) (N := some 110) (v := undef) (a' := ?_) b1_30 rfl rfl (any_of HT_.out (by kernel_rfl)) (fun _ _ _ h => h) (Or.inr ⟨by rfl, rfl⟩) ?_ ?_
             rotate_left
             ·simp only [Act.put, List.setIfInBounds_toArray, List.set_cons_zero, List.set_cons_succ, i64_w, i32_w]
              rfl
             refine pure_ (i := 23) (N := some 111) (v := undef) (a' := ?_) b1_31 rfl rfl (any_of HT_.out (by kernel_rfl)) (fun _ _ _ h => h) (Or.inr ⟨by rfl, rfl⟩) ?_ ?_
             rotate_left
             ·simp only [Act.put, List.setIfInBounds_toArray, List.set_cons_zero, List.set_cons_succ, i64_w, i32_w]
              rfl
             refine pure_ (i := 24) (N := some 112) (v := undef) (a' := ?_) b1_32 rfl rfl (any_of HT_.out (by kernel_rfl)) (fun _ _ _ h => h) (Or.inr ⟨by rfl, rfl⟩) ?_ ?_
             rotate_left
             ·simp only [Act.put, List.setIfInBounds_toArray, List.set_cons_zero, List.set_cons_succ, i64_w, i32_w]
              rfl
             refine pure_ (i := 25) (N := some 113) (v := undef) (a' := ?_) b1_33 rfl rfl (any_of HT_.out (by kernel_rfl)) (fun _ _ _ h => h) (Or.inr ⟨by rfl, rfl⟩) ?_ ?_
             rotate_left
             ·simp only [Act.put, List.setIfInBounds_toArray, List.set_cons_zero, List.set_cons_succ, i64_w, i32_w]
              rfl
             refine pure_ (i := 26) (N := some 114) (v := undef) (a' := ?_) b1_34 rfl rfl (any_of HT_.out (by kernel_rfl)) (fun _ _ _ h => h) (Or.inr ⟨by rfl, rfl⟩) ?_ ?_
             rotate_left
             ·simp only [Act.put, List.setIfInBounds_toArray, List.set_cons_zero, List.set_cons_succ, i64_w, i32_w]
              rfl
             refine pure_ (i := 27) (N := some 115) (v := undef) (a' := ?_) b1_35 rfl rfl (any_of HT_.out (by kernel_rfl)) (fun _ _ _ h => h) (Or.inr ⟨by rfl, rfl⟩) ?_ ?_
             rotate_left
             ·simp only [Act.put, List.setIfInBounds_toArray, List.set_cons_zero, List.set_cons_succ, i64_w, i32_w]
              rfl
             refine pure_ (i := 28) (N := some 116) (v := undef) (a' := ?_) b1_36 rfl rfl (any_of HT_.out (by kernel_rfl)) (fun _ _ _ h => h) (Or.inr ⟨by rfl, rfl⟩) ?_ ?_
             rotate_left
             ·simp only [Act.put, List.setIfInBounds_toArray, List.set_cons_zero, List.set_cons_succ, i64_w, i32_w]
              rfl
             refine pure_ (i := 29) (N := some 117) (v := undef) (a' := ?_) b1_37 rfl rfl (any_of HT_.out (by kernel_rfl)) (fun _ _ _ h => h) (Or.inr ⟨by rfl, rfl⟩) ?_ ?_
             rotate_left
             ·simp only [Act.put, List.setIfInBounds_toArray, List.set_cons_zero, List.set_cons_succ, i64_w, i32_w]
              rfl
             refine pure_ (i := 30) (N := some 118) (v := undef) (a' := ?_) b1_38 rfl rfl (any_of HT_.out (by kernel_rfl)) (fun _ _ _ h => h) (Or.inr ⟨by rfl, rfl⟩) ?_ ?_
             rotate_left
             ·simp only [Act.put, List.setIfInBounds_toArray, List.set_cons_zero, List.set_cons_succ, i64_w, i32_w]
              rfl
             refine pure_ (i := 31) (N := some 119) (v := undef) (a' := ?_) b1_39 rfl rfl (any_of HT_.out (by kernel_rfl)) (fun _ _ _ h => h) (Or.inr ⟨by rfl, rfl⟩) ?_ ?_
             rotate_left
             ·simp only [Act.put, List.setIfInBounds_toArray, List.set_cons_zero, List.set_cons_succ, i64_w, i32_w]
              rfl
             refine pure_ (i := 32) (N := some 120) (v := undef) (a' := ?_) b1_40 rfl rfl (any_of HT_.out (by kernel_rfl)) (fun _ _ _ h => h) (Or.inr ⟨by rfl, rfl⟩) ?_ ?_
             rotate_left
             ·simp only [Act.put, List.setIfInBounds_toArray, List.set_cons_zero, List.set_cons_succ, i64_w, i32_w]
              rfl
             refine pure_ (i := 33) (N := some 121) (v := ?_) (a' := ?_) b1_41 rfl rfl (any_of HT_.out (by kernel_rfl)) (fun _ _ _ h => h) (Or.inl ⟨by rfl, ?_⟩) ?_ ?_
             rotate_left
             ·intro w'
              go_simp
              with_reducible rfl
             rotate_left
             ·simp only [Act.put, List.setIfInBounds_toArray, List.set_cons_zero, List.set_cons_succ, i64_w, i32_w]
              rfl
             refine done_ (done_of HT_.out (by kernel_rfl)) ?_
             try go_wp2
             go_meet
             case rel => exact ⟨_, (true), (by first | rfl | (simp; done) | (simp [*]; done)), H', ⟨by have := HJ14.out; have := HK2.out; first | omega | exact Nat.le_refl _⟩, ⟨by (with_reducible repeat (first | apply Kd.S_alloc | apply Kd.S_drewN | apply Kd.S_drew)); exact Kd.S_mono HO_3.out (fun _ hk => hk.1)⟩, ⟨by (with_reducible repeat (first | apply Kd.R_alloc | apply Kd.R_drewN | apply Kd.R_drew)); exact HO_9.out⟩, ⟨by repeat (first | (with_reducible first | exact HB.out | apply below_alloc | apply pw_below_drewN | apply below_drew1 | refine below_set ?_ GE436.out) | exact HB.out)⟩⟩
         case rest =>
          clear HC45
          try clear p2
          try clear c4
          try clear c5
          try clear c6
          try clear c43
          try clear c54
          try clear c57
          try clear c58
          try clear c58b0
          try clear c60
          try clear c61
          try clear c63
          try clear c64
          obtain ⟨kq, x121_44, rfl, HA, HJ44, HO_3, HO_9, HB⟩ := hcut
          cases kq with
          | zero => exact absurd HA.out (by simp [laws_FnDelegated.j2])
          | succ kj44 =>
           have H := HA.out
           clear HA
           simp only [laws_FnDelegated.j2] at H
           by_cases c74 : x121_44 = true
           ·subst c74
            have H1 : (some false) = some r := by rw [if_pos rfl] at H; exact H
            clear H
            have H := H1
            clear H1
            obtain rfl := Option.some.inj H
            go_wp2
            go_ret
            exact ⟨by first | rfl | (simp [errW_none, errW_some] <;> rfl) | (simp only [← hji42]; first | rfl | (simp [errW_none, errW_some] <;> rfl)) | (simp [*, errW_none, errW_some] <;> rfl), by repeat (first | (with_reducible first | exact HB.out | apply below_alloc | apply pw_below_drewN | apply below_drew1) | exact HB.out)⟩
           ·replace c74 := Bool.eq_false_iff.mpr c74
            subst c74
            have H1 : (if 0 ≤ x10_2 then (if x10_2 < (t425.length : Int) then ((impl_TakeBack.f kj44 t416 (rd t425 x10_2)).bind fun bt441 => (if bt441.2 = true then ((impl_MayActFor.f kj44 bt441.1 t417 t418 t419 t420).bind fun t445 => (if t445 = 0 then (laws_FnDelegated.l0 kj44 t416 t417 t418 t419 t420 t425 (wrap64 (x10_2 + 1))) else (some false))) else (some false))) else (none)) else (none)) = some r := by rw [if_neg (show ¬ (false = true) by decide)] at H; exact H
            clear H
            have H := H1
            clear H1
            replace H := ifN H; obtain ⟨c75, H⟩ := H
            have c75b0 : decide (0 ≤ x10_2) = true := decide_eq_true c75
            clear c75
            replace H := ifN H; obtain ⟨c76, H⟩ := H
            have c76b0 : decide (x10_2 < (t425.length : Int)) = true := decide_eq_true c76
            clear c76
            replace H := Option.bind_eq_some_iff.mp H
            obtain ⟨⟨t441, t442⟩, A770, H⟩ := H
            replace H : (if t442 = true then ((impl_MayActFor.f kj44 t441 t417 t418 t419 t420).bind fun t445 => (if t445 = 0 then (laws_FnDelegated.l0 kj44 t416 t417 t418 t419 t420 t425 (wrap64 (x10_2 + 1))) else (some false))) else (some false)) = some r := H
            have A77 := Aside0.mk A770
            clear A770
            by_cases c78 : t442 = true
            ·subst c78
             have H1 : ((impl_MayActFor.f kj44 t441 t417 t418 t419 t420).bind fun t445 => (if t445 = 0 then (laws_FnDelegated.l0 kj44 t416 t417 t418 t419 t420 t425 (wrap64 (x10_2 + 1))) else (some false))) = some r := by rw [if_pos rfl] at H; exact H
             clear H
             have H := H1
             clear H1
             replace H := Option.bind_eq_some_iff.mp H
             obtain ⟨t445, A790, H⟩ := H
             replace H : (if t445 = 0 then (laws_FnDelegated.l0 kj44 t416 t417 t418 t419 t420 t425 (wrap64 (x10_2 + 1))) else (some false)) = some r := H
             have A79 := Aside0.mk A790
             clear A790
             replace H := ifD H; rcases H with ⟨c80, H⟩ | ⟨c80, H⟩
             ·have c80b0 : (t445 == 0) = true := beq_iff_eq.mpr c80
              have c80b1 : (t445 != 0) = false := bne_eq_false_iff_eq.mpr c80
              clear c80
              have H' := Aside0.mk H
              clear H
              have p440 : 0 ≤ (x10_2 : Int) := of_decide_eq_true (by first | (with_reducible assumption) | assumption)
              have q440 : x10_2 < (t425.length : Int) := of_decide_eq_true (by first | (with_reducible assumption) | assumption)
              obtain ⟨ad440, e440, hx440_0⟩ := Kd.at_int (Kd.R_reads' HO_9.out).2.2 x10_2 p440 q440
              obtain rfl : ad434 = ad440 := (by injection e440)
              replace p440 := eq_true p440
              replace q440 := eq_true q440
              go_wp2_with (first | ((with_reducible refine gate_callee (f := 29) rfl ?_); refine goesL_ (some 128) rfl rfl Try.func29 (by kernel_rfl) rfl #[.slice (some ad435) t416.length co18, .int .i64 (rd t425 x10_2)] rfl (by (try simp only [List.map_toArray, List.map_cons, List.map_nil]); first | done | rfl | (simp only [List.length_drop, List.length_take]; rfl)) ?_; (with_reducible refine (impl_TakeBack.calls kj44 _ _ t416 (rd t425 x10_2) t441 true _ ?side1 ?side2 A77.out).mono ?_); (case side1 => repeat (first | exact (Kd.S_reads' HO_3.out).2.2 | (with_reducible refine Kd.C_alloc ?_ _) | (with_reducible refine Kd.C_drewN ?_ _) | (with_reducible refine Kd.C_drew ?_))); (case side2 => exact (Kd.S_reads' HO_3.out).2.1); rintro e w81 ⟨v443, rfl, ho0, hb⟩; refine ⟨_, rfl, ?_⟩; have n0_ := Aside0.mk (Kd.S_elder' (by (with_reducible repeat (first | apply Kd.S_alloc | apply Kd.S_drewN | apply Kd.S_drew)); exact HO_3.out) (Kd.S_base ho0) hb); have n1_ := Aside0.mk (Kd.R_below (by (with_reducible repeat (first | apply Kd.R_alloc | apply Kd.R_drewN | apply Kd.R_drew)); exact HO_9.out) hb); have n2_ := Aside0.mk (Kd.S_lower (Kd.S_new' (Kd.S_new' ho0 (Kd.S_lt (by (with_reducible repeat (first | apply Kd.S_alloc | apply Kd.S_drewN | apply Kd.S_drew)); exact HO_3.out))) (Kd.R_lt (by (with_reducible repeat (first | apply Kd.R_alloc | apply Kd.R_drewN | apply Kd.R_drew)); exact HO_9.out))) (below_size (by repeat (first | (with_reducible first | exact HB.out | apply below_alloc | apply pw_below_drewN | apply below_drew1) | exact HB.out)))); have n3_ := Aside0.mk (below_step (by repeat (first | (with_reducible first | exact HB.out | apply below_alloc | apply pw_below_drewN | apply below_drew1) | exact HB.out)) hb); clear HO_3; clear HO_9; clear HB; have HO_3 := n0_; have HO_9 := n1_; have HO444 := n2_; have HB := n3_; clear n0_ n1_ n2_ n3_; (try clear hb); (try clear hb2); (try clear hk); (try clear hi); (try clear ho0); obtain ⟨Ao82, co82, eo82⟩ := Kd.S_slice HO444.out; subst eo82) | (go_at_call 48; (with_reducible refine (impl_MayActFor.calls kj44 _ _ t441 t417 t418 t419 t420 t445 _ ?side1 ?side2 A79.out).mono ?_); (case side1 => repeat (first | exact (Kd.S_reads' HO444.out).2.2 | (with_reducible refine Kd.C_alloc ?_ _) | (with_reducible refine Kd.C_drewN ?_ _) | (with_reducible refine Kd.C_drew ?_))); (case side2 => exact (Kd.S_reads' HO444.out).2.1); rintro e w83 ⟨rfl, hb⟩; have n0_ := Aside0.mk (Kd.S_below (by (with_reducible repeat (first | apply Kd.S_alloc | apply Kd.S_drewN | apply Kd.S_drew)); exact HO_3.out) hb); have n1_ := Aside0.mk (Kd.R_below (by (with_reducible repeat (first | apply Kd.R_alloc | apply Kd.R_drewN | apply Kd.R_drew)); exact HO_9.out) hb); have n2_ := Aside0.mk (Kd.S_below (by (with_reducible repeat (first | apply Kd.S_alloc | apply Kd.S_drewN | apply Kd.S_drew)); exact HO444.out) hb); have n3_ := Aside0.mk (below_step (by repeat (first | (with_reducible first | exact HB.out | apply below_alloc | apply pw_below_drewN | apply below_drew1) | exact HB.out)) hb); clear HO_3; clear HO_9; clear HO444; clear HB; have HO_3 := n0_; have HO_9 := n1_; have HO444 := n2_; have HB := n3_; clear n0_ n1_ n2_ n3_; (try clear hb); (try clear hb2); (try clear hk); (try clear hi)))
              go_roundg kj44
              case measure => have := HJ14.out; have := HK2.out; have := HJ44.out; omega
              case rel => exact ⟨(wrap64 (x10_2 + 1)), (by first | rfl | (simp; done) | (simp [*]; done)), H', ⟨by have := HJ14.out; have := HK2.out; have := HJ44.out; omega⟩, ⟨by (with_reducible repeat (first | apply Kd.S_alloc | apply Kd.S_drewN | apply Kd.S_drew)); exact Kd.S_mono HO_3.out (fun _ hk => hk.1)⟩, ⟨by (with_reducible repeat (first | apply Kd.R_alloc | apply Kd.R_drewN | apply Kd.R_drew)); exact HO_9.out⟩, ⟨by repeat (first | (with_reducible first | exact HB.out | apply below_alloc | apply pw_below_drewN | apply below_drew1) | exact HB.out)⟩⟩
             ·have c80b0 : (t445 == 0) = false := beq_eq_false_iff_ne.mpr c80
              have c80b1 : (t445 != 0) = true := bne_iff_ne.mpr c80
              obtain rfl := Option.some.inj H
              have p440 : 0 ≤ (x10_2 : Int) := of_decide_eq_true (by first | (with_reducible assumption) | assumption)
              have q440 : x10_2 < (t425.length : Int) := of_decide_eq_true (by first | (with_reducible assumption) | assumption)
              obtain ⟨ad440, e440, hx440_0⟩ := Kd.at_int (Kd.R_reads' HO_9.out).2.2 x10_2 p440 q440
              obtain rfl : ad434 = ad440 := (by injection e440)
              replace p440 := eq_true p440
              replace q440 := eq_true q440
              go_wp2_with (first | ((with_reducible refine gate_callee (f := 29) rfl ?_); refine goesL_ (some 128) rfl rfl Try.func29 (by kernel_rfl) rfl #[.slice (some ad435) t416.length co18, .int .i64 (rd t425 x10_2)] rfl (by (try simp only [List.map_toArray, List.map_cons, List.map_nil]); first | done | rfl | (simp only [List.length_drop, List.length_take]; rfl)) ?_; (with_reducible refine (impl_TakeBack.calls kj44 _ _ t416 (rd t425 x10_2) t441 true _ ?side1 ?side2 A77.out).mono ?_); (case side1 => repeat (first | exact (Kd.S_reads' HO_3.out).2.2 | (with_reducible refine Kd.C_alloc ?_ _) | (with_reducible refine Kd.C_drewN ?_ _) | (with_reducible refine Kd.C_drew ?_))); (case side2 => exact (Kd.S_reads' HO_3.out).2.1); rintro e w84 ⟨v443, rfl, ho0, hb⟩; refine ⟨_, rfl, ?_⟩; have n0_ := Aside0.mk (Kd.S_elder' (by (with_reducible repeat (first | apply Kd.S_alloc | apply Kd.S_drewN | apply Kd.S_drew)); exact HO_3.out) (Kd.S_base ho0) hb); have n1_ := Aside0.mk (Kd.R_below (by (with_reducible repeat (first | apply Kd.R_alloc | apply Kd.R_drewN | apply Kd.R_drew)); exact HO_9.out) hb); have n2_ := Aside0.mk (Kd.S_lower (Kd.S_new' (Kd.S_new' ho0 (Kd.S_lt (by (with_reducible repeat (first | apply Kd.S_alloc | apply Kd.S_drewN | apply Kd.S_drew)); exact HO_3.out))) (Kd.R_lt (by (with_reducible repeat (first | apply Kd.R_alloc | apply Kd.R_drewN | apply Kd.R_drew)); exact HO_9.out))) (below_size (by repeat (first | (with_reducible first | exact HB.out | apply below_alloc | apply pw_below_drewN | apply below_drew1) | exact HB.out)))); have n3_ := Aside0.mk (below_step (by repeat (first | (with_reducible first | exact HB.out | apply below_alloc | apply pw_below_drewN | apply below_drew1) | exact HB.out)) hb); clear HO_3; clear HO_9; clear HB; have HO_3 := n0_; have HO_9 := n1_; have HO444 := n2_; have HB := n3_; clear n0_ n1_ n2_ n3_; (try clear hb); (try clear hb2); (try clear hk); (try clear hi); (try clear ho0); obtain ⟨Ao85, co85, eo85⟩ := Kd.S_slice HO444.out; subst eo85) | (go_at_call 48; (with_reducible refine (impl_MayActFor.calls kj44 _ _ t441 t417 t418 t419 t420 t445 _ ?side1 ?side2 A79.out).mono ?_); (case side1 => repeat (first | exact (Kd.S_reads' HO444.out).2.2 | (with_reducible refine Kd.C_alloc ?_ _) | (with_reducible refine Kd.C_drewN ?_ _) | (with_reducible refine Kd.C_drew ?_))); (case side2 => exact (Kd.S_reads' HO444.out).2.1); rintro e w86 ⟨rfl, hb⟩; have n0_ := Aside0.mk (Kd.S_below (by (with_reducible repeat (first | apply Kd.S_alloc | apply Kd.S_drewN | apply Kd.S_drew)); exact HO_3.out) hb); have n1_ := Aside0.mk (Kd.R_below (by (with_reducible repeat (first | apply Kd.R_alloc | apply Kd.R_drewN | apply Kd.R_drew)); exact HO_9.out) hb); have n2_ := Aside0.mk (Kd.S_below (by (with_reducible repeat (first | apply Kd.S_alloc | apply Kd.S_drewN | apply Kd.S_drew)); exact HO444.out) hb); have n3_ := Aside0.mk (below_step (by repeat (first | (with_reducible first | exact HB.out | apply below_alloc | apply pw_below_drewN | apply below_drew1) | exact HB.out)) hb); clear HO_3; clear HO_9; clear HO444; clear HB; have HO_3 := n0_; have HO_9 := n1_; have HO444 := n2_; have HB := n3_; clear n0_ n1_ n2_ n3_; (try clear hb); (try clear hb2); (try clear hk); (try clear hi)))
              go_ret
              exact ⟨by first | rfl | (simp [errW_none, errW_some] <;> rfl) | (simp only [← hji42]; first | rfl | (simp [errW_none, errW_some] <;> rfl)) | (simp [*, errW_none, errW_some] <;> rfl), by repeat (first | (with_reducible first | exact HB.out | apply below_alloc | apply pw_below_drewN | apply below_drew1) | exact HB.out)⟩
            ·replace c78 := Bool.eq_false_iff.mpr c78
             subst c78
             have H1 : (some false) = some r := by rw [if_neg (show ¬ (false = true) by decide)] at H; exact H
             clear H
             have H := H1
             clear H1
             obtain rfl := Option.some.inj H
             have p440 : 0 ≤ (x10_2 : Int) := of_decide_eq_true (by first | (with_reducible assumption) | assumption)
             have q440 : x10_2 < (t425.length : Int) := of_decide_eq_true (by first | (with_reducible assumption) | assumption)
             obtain ⟨ad440, e440, hx440_0⟩ := Kd.at_int (Kd.R_reads' HO_9.out).2.2 x10_2 p440 q440
             obtain rfl : ad434 = ad440 := (by injection e440)
             replace p440 := eq_true p440
             replace q440 := eq_true q440
             go_wp2_with (first | ((with_reducible refine gate_callee (f := 29) rfl ?_); refine goesL_ (some 128) rfl rfl Try.func29 (by kernel_rfl) rfl #[.slice (some ad435) t416.length co18, .int .i64 (rd t425 x10_2)] rfl (by (try simp only [List.map_toArray, List.map_cons, List.map_nil]); first | done | rfl | (simp only [List.length_drop, List.length_take]; rfl)) ?_; (with_reducible refine (impl_TakeBack.calls kj44 _ _ t416 (rd t425 x10_2) t441 false _ ?side1 ?side2 A77.out).mono ?_); (case side1 => repeat (first | exact (Kd.S_reads' HO_3.out).2.2 | (with_reducible refine Kd.C_alloc ?_ _) | (with_reducible refine Kd.C_drewN ?_ _) | (with_reducible refine Kd.C_drew ?_))); (case side2 => exact (Kd.S_reads' HO_3.out).2.1); rintro e w87 ⟨v443, rfl, ho0, hb⟩; refine ⟨_, rfl, ?_⟩; have n0_ := Aside0.mk (Kd.S_elder' (by (with_reducible repeat (first | apply Kd.S_alloc | apply Kd.S_drewN | apply Kd.S_drew)); exact HO_3.out) (Kd.S_base ho0) hb); have n1_ := Aside0.mk (Kd.R_below (by (with_reducible repeat (first | apply Kd.R_alloc | apply Kd.R_drewN | apply Kd.R_drew)); exact HO_9.out) hb); have n2_ := Aside0.mk (Kd.S_lower (Kd.S_new' (Kd.S_new' ho0 (Kd.S_lt (by (with_reducible repeat (first | apply Kd.S_alloc | apply Kd.S_drewN | apply Kd.S_drew)); exact HO_3.out))) (Kd.R_lt (by (with_reducible repeat (first | apply Kd.R_alloc | apply Kd.R_drewN | apply Kd.R_drew)); exact HO_9.out))) (below_size (by repeat (first | (with_reducible first | exact HB.out | apply below_alloc | apply pw_below_drewN | apply below_drew1) | exact HB.out)))); have n3_ := Aside0.mk (below_step (by repeat (first | (with_reducible first | exact HB.out | apply below_alloc | apply pw_below_drewN | apply below_drew1) | exact HB.out)) hb); clear HO_3; clear HO_9; clear HB; have HO_3 := n0_; have HO_9 := n1_; have HO444 := n2_; have HB := n3_; clear n0_ n1_ n2_ n3_; (try clear hb); (try clear hb2); (try clear hk); (try clear hi); (try clear ho0)))
             go_ret
             exact ⟨by first | rfl | (simp [errW_none, errW_some] <;> rfl) | (simp only [← hji42]; first | rfl | (simp [errW_none, errW_some] <;> rfl)) | (simp [*, errW_none, errW_some] <;> rfl), by repeat (first | (with_reducible first | exact HB.out | apply below_alloc | apply pw_below_drewN | apply below_drew1) | exact HB.out)⟩
        ·have c40b0 : decide (x10_2 < (t425.length : Int)) = false := decide_eq_false c40
         clear c40
         obtain ⟨ji88, hji88⟩ : ∃ j_ : Int, (wrap64 ((t425.length : Int) - 1)) = j_ := ⟨_, rfl⟩
         replace H : (if 0 ≤ (ji88) then (if (ji88) < (t425.length : Int) then (if 0 ≤ (wrap64 ((rd t425 (ji88)) - 1)) then (if (wrap64 ((rd t425 (ji88)) - 1)) < (t416.length : Int) then (some (((rd_T51 t416 (wrap64 ((rd t425 (ji88)) - 1))).f5) == 0)) else (none)) else (none)) else (none)) else (none)) = some r := by first | (rw [hji88] at H; exact H) | (simp only [hji88] at H ⊢; exact H)
         have hji88w : (IntKind.i64.wrap ((t425.length : Int) - 1)) = ji88 := (i64_w _).trans hji88
         replace H := ifN H; obtain ⟨c89, H⟩ := H
         have c89b0 : decide (0 ≤ (ji88)) = true := decide_eq_true c89
         clear c89
         replace H := ifN H; obtain ⟨c90, H⟩ := H
         have c90b0 : decide ((ji88) < (t425.length : Int)) = true := decide_eq_true c90
         clear c90
         obtain ⟨ji91, hji91⟩ : ∃ j_ : Int, (wrap64 ((rd t425 (ji88)) - 1)) = j_ := ⟨_, rfl⟩
         replace H : (if 0 ≤ (ji91) then (if (ji91) < (t416.length : Int) then (some (((rd_T51 t416 (ji91)).f5) == 0)) else (none)) else (none)) = some r := by first | (rw [hji91] at H; exact H) | (simp only [hji91] at H ⊢; exact H)
         have hji91w : (IntKind.i64.wrap ((rd t425 (ji88)) - 1)) = ji91 := (i64_w _).trans hji91
         replace H := ifN H; obtain ⟨c92, H⟩ := H
         have c92b0 : decide (0 ≤ (ji91)) = true := decide_eq_true c92
         clear c92
         replace H := ifN H; obtain ⟨c93, H⟩ := H
         have c93b0 : decide ((ji91) < (t416.length : Int)) = true := decide_eq_true c93
         clear c93
         obtain rfl := Option.some.inj H
         obtain ⟨Ao94, co94, eo94⟩ := Kd.R_slice HO_9.out
         subst eo94
         have p432 : 0 ≤ ((ji88) : Int) := of_decide_eq_true (by first | (with_reducible assumption) | assumption)
         have q432 : (ji88) < (t425.length : Int) := of_decide_eq_true (by first | (with_reducible assumption) | assumption)
         obtain ⟨ad432, e432, hx432_0⟩ := Kd.at_int (Kd.R_reads' HO_9.out).2.2 (ji88) p432 q432
         cases e432
         replace p432 := eq_true p432
         replace q432 := eq_true q432
         have p433 : 0 ≤ ((ji91) : Int) := of_decide_eq_true (by first | (with_reducible assumption) | assumption)
         have q433 : (ji91) < (t416.length : Int) := of_decide_eq_true (by first | (with_reducible assumption) | assumption)
         obtain ⟨ad433, A433_3, c433_3, e433, hx433_0, hx433_1, hx433_2, hx433_3, hx433_4, hx433_5, hx433_6, hl433_3, hi433_3⟩ := at_T51 (Kd.S_reads' HO_3.out).2.2 (ji91) p433 q433
         cases e433
         obtain ⟨ce433, hce433, hMe433, hcc433⟩ := Kd.S_get HO_3.out z51 (ji91) p433 (by first | exact q433 | exact of_decide_eq_true (by first | (with_reducible assumption) | assumption) | (have e_ := (Kd.S_reads' HO_3.out).1; omega))
         obtain ⟨ve433_3, rfl, ge433_3⟩ := k51_openM hMe433
         have hv433_3 := hcc433 3 _ rfl
         rw [add_field _ _ 3 (by omega)] at hv433_3
         replace hv433_3 := Option.some.inj (hv433_3.symm.trans hx433_3)
         rw [hv433_3] at ge433_3
         have HL433_3 := Aside0.mk (show Kd.R (Kd.int .i64) 3 _ _ _ _ ((rd_T51 t416 (ji91)).f3) from ge433_3)
         clear hv433_3 ge433_3
         clear hcc433 hce433
         have HR433_3 := Aside0.mk hi433_3
         have HC433_3 := Aside0.mk hl433_3
         clear hi433_3 hl433_3
         replace p433 := eq_true p433
         replace q433 := eq_true q433
         go_wp2
         go_ret
         exact ⟨by first | rfl | (simp [errW_none, errW_some] <;> rfl) | (simp only [← hji88, ← hji91]; first | rfl | (simp [errW_none, errW_some] <;> rfl)) | (simp [*, errW_none, errW_some] <;> rfl), by repeat (first | (with_reducible first | exact HB.out | apply below_alloc | apply pw_below_drewN | apply below_drew1) | exact HB.out)⟩
/-- What is left to show of laws_FnDelegated: over numbers and lists alone. -/
def laws_FnDelegated.Pure : Prop := ∀ (l0 : List Int), l0.length ≤ maxLen → (∀ y_ ∈ l0, (Lit.int .u8 y_).wf = true) → ∃ k, laws_FnDelegated.f k l0 = some true

end Go.Proofs.Ytplfbjbbnjlnkaa.QFnDelegated
