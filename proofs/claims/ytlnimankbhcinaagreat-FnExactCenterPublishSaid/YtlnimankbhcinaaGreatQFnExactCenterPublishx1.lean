import Derived.Test.YtlnimankbhcinaaGreatWV5
import Derived.Test.YtlnimankbhcinaaGreatQFnExactCenterPublishx0
import Derived.Test.YtlnimankbhcinaaGreatProg
/- The machine side of FnExactCenterPublish: each function does what its plain function tells. -/
namespace Go.Proofs.YtlnimankbhcinaaGreat.QFnExactCenterPublish
open Go Go.RowKit Go.Proofs Go.Proofs.YtlnimankbhcinaaGreatV Go.Proofs.YtlnimankbhcinaaGreatW.PrintWords
set_option linter.unusedVariables false
set_option maxRecDepth 100000
def tyP : Nat → Pt
  | 3 => ⟨Int, (0 : Int)⟩
  | 4 => ⟨Bool, false⟩
  | 63 => ⟨S63, z63⟩
  | 65 => ⟨S65, z65⟩
  | 75 => ⟨S75, z75⟩
  | 77 => ⟨S77, z77⟩
  | 80 => ⟨S80, z80⟩
  | 82 => ⟨S82, z82⟩
  | 100 => ⟨S100, z100⟩
  | 105 => ⟨S105, z105⟩
  | 115 => ⟨S115, z115⟩
  | 117 => ⟨S117, z117⟩
  | 121 => ⟨S121, z121⟩
  | 123 => ⟨S123, z123⟩
  | 125 => ⟨S125, z125⟩
  | 127 => ⟨S127, z127⟩
  | 129 => ⟨S129, z129⟩
  | 131 => ⟨S131, z131⟩
  | _ => ⟨Unit, ()⟩
def tyF : Nat → Bool
  | 63 => false
  | 65 => false
  | 80 => false
  | 82 => false
  | 100 => false
  | 105 => false
  | 115 => false
  | 117 => false
  | _ => true
def tyL : Nat → Nat
  | 3 => 17592186044416
  | 4 => 140737488355328
  | 63 => 2932031007402
  | 65 => 1954687338268
  | 75 => 8796093022208
  | 77 => 8796093022208
  | 80 => 2932031007402
  | 82 => 1954687338268
  | 100 => 3518437208883
  | 105 => 1954687338268
  | 115 => 1954687338268
  | 117 => 3518437208883
  | 121 => 2932031007402
  | 123 => 2932031007402
  | 125 => 8796093022208
  | 127 => 8796093022208
  | 129 => 2932031007402
  | 131 => 2932031007402
  | _ => 0
def tyT : List (Nat × TY) := [(3, ⟨.int .i64, 1, 8, [.i .i64], false⟩), (4, ⟨.bool, 1, 1, [.b], false⟩), (22, ⟨.sl 100, 1, 24, [.n], false⟩), (23, ⟨.sl 105, 1, 24, [.n], false⟩), (24, ⟨.sl 123, 1, 24, [.n], false⟩), (25, ⟨.sl 127, 1, 24, [.n], false⟩), (26, ⟨.sl 131, 1, 24, [.n], false⟩), (28, ⟨.str [(0, 22), (1, 23), (2, 24), (3, 25), (4, 3), (5, 26)], 6, 128, [.n, .n, .n, .n, .i .i64, .n], false⟩), (29, ⟨.sl 77, 1, 24, [.n], false⟩), (30, ⟨.sl 65, 1, 24, [.n], false⟩), (34, ⟨.sl 117, 1, 24, [.n], false⟩), (35, ⟨.sl 115, 1, 24, [.n], false⟩), (36, ⟨.sl 121, 1, 24, [.n], false⟩), (37, ⟨.sl 125, 1, 24, [.n], false⟩), (38, ⟨.sl 129, 1, 24, [.n], false⟩), (40, ⟨.str [(0, 34), (1, 35), (2, 36), (3, 37), (4, 3), (5, 38)], 6, 128, [.n, .n, .n, .n, .i .i64, .n], false⟩), (44, ⟨.sl 75, 1, 24, [.n], false⟩), (46, ⟨.sl 82, 1, 24, [.n], false⟩), (61, ⟨.sl 63, 1, 24, [.n], false⟩), (63, ⟨.str [(0, 3), (1, 3), (2, 3), (3, 61)], 4, 48, [.i .i64, .i .i64, .i .i64, .n], false⟩), (65, ⟨.str [(0, 3), (1, 3), (2, 3), (3, 63)], 7, 72, [.i .i64, .i .i64, .i .i64, .i .i64, .i .i64, .i .i64, .n], false⟩), (75, ⟨.str [(0, 3), (1, 3)], 2, 16, [.i .i64, .i .i64], false⟩), (77, ⟨.str [(0, 3), (1, 3)], 2, 16, [.i .i64, .i .i64], false⟩), (78, ⟨.sl 80, 1, 24, [.n], false⟩), (80, ⟨.str [(0, 3), (1, 3), (2, 3), (3, 78)], 4, 48, [.i .i64, .i .i64, .i .i64, .n], false⟩), (82, ⟨.str [(0, 3), (1, 3), (2, 3), (3, 80)], 7, 72, [.i .i64, .i .i64, .i .i64, .i .i64, .i .i64, .i .i64, .n], false⟩), (98, ⟨.sl 3, 1, 24, [.n], false⟩), (100, ⟨.str [(0, 3), (1, 98), (2, 3)], 3, 40, [.i .i64, .n, .i .i64], false⟩), (103, ⟨.str [(0, 3), (1, 30)], 2, 32, [.i .i64, .n], false⟩), (105, ⟨.str [(0, 3), (1, 3), (2, 29), (3, 103)], 5, 72, [.i .i64, .i .i64, .n, .i .i64, .n], false⟩), (113, ⟨.str [(0, 3), (1, 46)], 2, 32, [.i .i64, .n], false⟩), (115, ⟨.str [(0, 3), (1, 3), (2, 44), (3, 113)], 5, 72, [.i .i64, .i .i64, .n, .i .i64, .n], false⟩), (117, ⟨.str [(0, 3), (1, 98), (2, 3)], 3, 40, [.i .i64, .n, .i .i64], false⟩), (121, ⟨.str [(0, 3), (1, 3), (2, 3), (3, 3), (4, 3), (5, 3)], 6, 48, [.i .i64, .i .i64, .i .i64, .i .i64, .i .i64, .i .i64], false⟩), (123, ⟨.str [(0, 3), (1, 3), (2, 3), (3, 3), (4, 3), (5, 3)], 6, 48, [.i .i64, .i .i64, .i .i64, .i .i64, .i .i64, .i .i64], false⟩), (125, ⟨.str [(0, 3), (1, 3)], 2, 16, [.i .i64, .i .i64], false⟩), (127, ⟨.str [(0, 3), (1, 3)], 2, 16, [.i .i64, .i .i64], false⟩), (129, ⟨.str [(0, 3), (1, 3), (2, 3), (3, 3), (4, 3), (5, 3)], 6, 48, [.i .i64, .i .i64, .i .i64, .i .i64, .i .i64, .i .i64], false⟩), (131, ⟨.str [(0, 3), (1, 3), (2, 3), (3, 3), (4, 3), (5, 3)], 6, 48, [.i .i64, .i .i64, .i .i64, .i .i64, .i .i64, .i .i64], false⟩), (159, ⟨.ar 6 4, 6, 6, [.b, .b, .b, .b, .b, .b], false⟩), (162, ⟨.sl 4, 1, 24, [.n], false⟩)]
def tyE : List (KE tyP tyF) := [⟨3, (EL.int .i64 : EL (fun k => (tyP k).α) Int), EL.int_ok _ rfl _⟩, ⟨4, (EL.bool : EL (fun k => (tyP k).α) Bool), EL.bool_ok _⟩, ⟨63, (EL.iso (EL.pair (EL.int .i64) (EL.pair (EL.int .i64) (EL.pair (EL.int .i64) (EL.row 63)))) (fun x => (⟨x.1, x.2.1, x.2.2.1, x.2.2.2⟩ : S63)) (fun x : S63 => (x.f0, x.f1, x.f2, x.f3)) : EL (fun k => (tyP k).α) S63), EL.iso_ok (EL.pair_ok (EL.int_ok _ rfl _) (EL.pair_ok (EL.int_ok _ rfl _) (EL.pair_ok (EL.int_ok _ rfl _) (EL.row_ok _)))) (fun _ => rfl)⟩, ⟨65, (EL.iso (EL.pair (EL.int .i64) (EL.pair (EL.int .i64) (EL.pair (EL.int .i64) (EL.iso (EL.pair (EL.int .i64) (EL.pair (EL.int .i64) (EL.pair (EL.int .i64) (EL.row 63)))) (fun x => (⟨x.1, x.2.1, x.2.2.1, x.2.2.2⟩ : S63)) (fun x : S63 => (x.f0, x.f1, x.f2, x.f3)))))) (fun x => (⟨x.1, x.2.1, x.2.2.1, x.2.2.2⟩ : S65)) (fun x : S65 => (x.f0, x.f1, x.f2, x.f3)) : EL (fun k => (tyP k).α) S65), EL.iso_ok (EL.pair_ok (EL.int_ok _ rfl _) (EL.pair_ok (EL.int_ok _ rfl _) (EL.pair_ok (EL.int_ok _ rfl _) (EL.iso_ok (EL.pair_ok (EL.int_ok _ rfl _) (EL.pair_ok (EL.int_ok _ rfl _) (EL.pair_ok (EL.int_ok _ rfl _) (EL.row_ok _)))) (fun _ => rfl))))) (fun _ => rfl)⟩, ⟨75, (EL.iso (EL.pair (EL.int .i64) (EL.int .i64)) (fun x => (⟨x.1, x.2⟩ : S75)) (fun x : S75 => (x.f0, x.f1)) : EL (fun k => (tyP k).α) S75), EL.iso_ok (EL.pair_ok (EL.int_ok _ rfl _) (EL.int_ok _ rfl _)) (fun _ => rfl)⟩, ⟨77, (EL.iso (EL.pair (EL.int .i64) (EL.int .i64)) (fun x => (⟨x.1, x.2⟩ : S77)) (fun x : S77 => (x.f0, x.f1)) : EL (fun k => (tyP k).α) S77), EL.iso_ok (EL.pair_ok (EL.int_ok _ rfl _) (EL.int_ok _ rfl _)) (fun _ => rfl)⟩, ⟨80, (EL.iso (EL.pair (EL.int .i64) (EL.pair (EL.int .i64) (EL.pair (EL.int .i64) (EL.row 80)))) (fun x => (⟨x.1, x.2.1, x.2.2.1, x.2.2.2⟩ : S80)) (fun x : S80 => (x.f0, x.f1, x.f2, x.f3)) : EL (fun k => (tyP k).α) S80), EL.iso_ok (EL.pair_ok (EL.int_ok _ rfl _) (EL.pair_ok (EL.int_ok _ rfl _) (EL.pair_ok (EL.int_ok _ rfl _) (EL.row_ok _)))) (fun _ => rfl)⟩, ⟨82, (EL.iso (EL.pair (EL.int .i64) (EL.pair (EL.int .i64) (EL.pair (EL.int .i64) (EL.iso (EL.pair (EL.int .i64) (EL.pair (EL.int .i64) (EL.pair (EL.int .i64) (EL.row 80)))) (fun x => (⟨x.1, x.2.1, x.2.2.1, x.2.2.2⟩ : S80)) (fun x : S80 => (x.f0, x.f1, x.f2, x.f3)))))) (fun x => (⟨x.1, x.2.1, x.2.2.1, x.2.2.2⟩ : S82)) (fun x : S82 => (x.f0, x.f1, x.f2, x.f3)) : EL (fun k => (tyP k).α) S82), EL.iso_ok (EL.pair_ok (EL.int_ok _ rfl _) (EL.pair_ok (EL.int_ok _ rfl _) (EL.pair_ok (EL.int_ok _ rfl _) (EL.iso_ok (EL.pair_ok (EL.int_ok _ rfl _) (EL.pair_ok (EL.int_ok _ rfl _) (EL.pair_ok (EL.int_ok _ rfl _) (EL.row_ok _)))) (fun _ => rfl))))) (fun _ => rfl)⟩, ⟨100, (EL.iso (EL.pair (EL.int .i64) (EL.pair (EL.row 3) (EL.int .i64))) (fun x => (⟨x.1, x.2.1, x.2.2⟩ : S100)) (fun x : S100 => (x.f0, x.f1, x.f2)) : EL (fun k => (tyP k).α) S100), EL.iso_ok (EL.pair_ok (EL.int_ok _ rfl _) (EL.pair_ok (EL.row_ok _) (EL.int_ok _ rfl _))) (fun _ => rfl)⟩, ⟨105, (EL.iso (EL.pair (EL.int .i64) (EL.pair (EL.int .i64) (EL.pair (EL.row 77) (EL.iso (EL.pair (EL.int .i64) (EL.row 65)) (fun x => (⟨x.1, x.2⟩ : S103)) (fun x : S103 => (x.f0, x.f1)))))) (fun x => (⟨x.1, x.2.1, x.2.2.1, x.2.2.2⟩ : S105)) (fun x : S105 => (x.f0, x.f1, x.f2, x.f3)) : EL (fun k => (tyP k).α) S105), EL.iso_ok (EL.pair_ok (EL.int_ok _ rfl _) (EL.pair_ok (EL.int_ok _ rfl _) (EL.pair_ok (EL.row_ok _) (EL.iso_ok (EL.pair_ok (EL.int_ok _ rfl _) (EL.row_ok _)) (fun _ => rfl))))) (fun _ => rfl)⟩, ⟨115, (EL.iso (EL.pair (EL.int .i64) (EL.pair (EL.int .i64) (EL.pair (EL.row 75) (EL.iso (EL.pair (EL.int .i64) (EL.row 82)) (fun x => (⟨x.1, x.2⟩ : S113)) (fun x : S113 => (x.f0, x.f1)))))) (fun x => (⟨x.1, x.2.1, x.2.2.1, x.2.2.2⟩ : S115)) (fun x : S115 => (x.f0, x.f1, x.f2, x.f3)) : EL (fun k => (tyP k).α) S115), EL.iso_ok (EL.pair_ok (EL.int_ok _ rfl _) (EL.pair_ok (EL.int_ok _ rfl _) (EL.pair_ok (EL.row_ok _) (EL.iso_ok (EL.pair_ok (EL.int_ok _ rfl _) (EL.row_ok _)) (fun _ => rfl))))) (fun _ => rfl)⟩, ⟨117, (EL.iso (EL.pair (EL.int .i64) (EL.pair (EL.row 3) (EL.int .i64))) (fun x => (⟨x.1, x.2.1, x.2.2⟩ : S117)) (fun x : S117 => (x.f0, x.f1, x.f2)) : EL (fun k => (tyP k).α) S117), EL.iso_ok (EL.pair_ok (EL.int_ok _ rfl _) (EL.pair_ok (EL.row_ok _) (EL.int_ok _ rfl _))) (fun _ => rfl)⟩, ⟨121, (EL.iso (EL.pair (EL.int .i64) (EL.pair (EL.int .i64) (EL.pair (EL.int .i64) (EL.pair (EL.int .i64) (EL.pair (EL.int .i64) (EL.int .i64)))))) (fun x => (⟨x.1, x.2.1, x.2.2.1, x.2.2.2.1, x.2.2.2.2.1, x.2.2.2.2.2⟩ : S121)) (fun x : S121 => (x.f0, x.f1, x.f2, x.f3, x.f4, x.f5)) : EL (fun k => (tyP k).α) S121), EL.iso_ok (EL.pair_ok (EL.int_ok _ rfl _) (EL.pair_ok (EL.int_ok _ rfl _) (EL.pair_ok (EL.int_ok _ rfl _) (EL.pair_ok (EL.int_ok _ rfl _) (EL.pair_ok (EL.int_ok _ rfl _) (EL.int_ok _ rfl _)))))) (fun _ => rfl)⟩, ⟨123, (EL.iso (EL.pair (EL.int .i64) (EL.pair (EL.int .i64) (EL.pair (EL.int .i64) (EL.pair (EL.int .i64) (EL.pair (EL.int .i64) (EL.int .i64)))))) (fun x => (⟨x.1, x.2.1, x.2.2.1, x.2.2.2.1, x.2.2.2.2.1, x.2.2.2.2.2⟩ : S123)) (fun x : S123 => (x.f0, x.f1, x.f2, x.f3, x.f4, x.f5)) : EL (fun k => (tyP k).α) S123), EL.iso_ok (EL.pair_ok (EL.int_ok _ rfl _) (EL.pair_ok (EL.int_ok _ rfl _) (EL.pair_ok (EL.int_ok _ rfl _) (EL.pair_ok (EL.int_ok _ rfl _) (EL.pair_ok (EL.int_ok _ rfl _) (EL.int_ok _ rfl _)))))) (fun _ => rfl)⟩, ⟨125, (EL.iso (EL.pair (EL.int .i64) (EL.int .i64)) (fun x => (⟨x.1, x.2⟩ : S125)) (fun x : S125 => (x.f0, x.f1)) : EL (fun k => (tyP k).α) S125), EL.iso_ok (EL.pair_ok (EL.int_ok _ rfl _) (EL.int_ok _ rfl _)) (fun _ => rfl)⟩, ⟨127, (EL.iso (EL.pair (EL.int .i64) (EL.int .i64)) (fun x => (⟨x.1, x.2⟩ : S127)) (fun x : S127 => (x.f0, x.f1)) : EL (fun k => (tyP k).α) S127), EL.iso_ok (EL.pair_ok (EL.int_ok _ rfl _) (EL.int_ok _ rfl _)) (fun _ => rfl)⟩, ⟨129, (EL.iso (EL.pair (EL.int .i64) (EL.pair (EL.int .i64) (EL.pair (EL.int .i64) (EL.pair (EL.int .i64) (EL.pair (EL.int .i64) (EL.int .i64)))))) (fun x => (⟨x.1, x.2.1, x.2.2.1, x.2.2.2.1, x.2.2.2.2.1, x.2.2.2.2.2⟩ : S129)) (fun x : S129 => (x.f0, x.f1, x.f2, x.f3, x.f4, x.f5)) : EL (fun k => (tyP k).α) S129), EL.iso_ok (EL.pair_ok (EL.int_ok _ rfl _) (EL.pair_ok (EL.int_ok _ rfl _) (EL.pair_ok (EL.int_ok _ rfl _) (EL.pair_ok (EL.int_ok _ rfl _) (EL.pair_ok (EL.int_ok _ rfl _) (EL.int_ok _ rfl _)))))) (fun _ => rfl)⟩, ⟨131, (EL.iso (EL.pair (EL.int .i64) (EL.pair (EL.int .i64) (EL.pair (EL.int .i64) (EL.pair (EL.int .i64) (EL.pair (EL.int .i64) (EL.int .i64)))))) (fun x => (⟨x.1, x.2.1, x.2.2.1, x.2.2.2.1, x.2.2.2.2.1, x.2.2.2.2.2⟩ : S131)) (fun x : S131 => (x.f0, x.f1, x.f2, x.f3, x.f4, x.f5)) : EL (fun k => (tyP k).α) S131), EL.iso_ok (EL.pair_ok (EL.int_ok _ rfl _) (EL.pair_ok (EL.int_ok _ rfl _) (EL.pair_ok (EL.int_ok _ rfl _) (EL.pair_ok (EL.int_ok _ rfl _) (EL.pair_ok (EL.int_ok _ rfl _) (EL.int_ok _ rfl _)))))) (fun _ => rfl)⟩]
def U : Uni := mkU tyP (findE tyE) tyF tyL (lookT tyT)
theorem PL : Plaw Tryz.prog U := plaw_of (findE_ok tyE) (by kernel_rfl)
theorem mx : Tryz.prog.follows .mixedOrders = true := by kernel_rfl
noncomputable def laws_szIntS.c (k : Nat) : Con U := ⟨[.c (.tree 3), .c (.int .i64)], [.c (.int .i64)], fun x => laws_szIntS.f x.1 x.2⟩
noncomputable def laws_szIntS.d : FD U := ⟨(laws_szIntS.c 0).A, (laws_szIntS.c 0).R, [], fun k => [], []⟩
noncomputable def laws_szIssuer.c (k : Nat) : Con U := ⟨[.agg [.int .i64, .tree 3, .int .i64], .c (.int .i64)], [.c (.int .i64)], fun x => laws_szIssuer.f x.1 x.2.1 x.2.2.1 x.2.2.2⟩
noncomputable def laws_szIssuer.d : FD U := ⟨(laws_szIssuer.c 0).A, (laws_szIssuer.c 0).R, [], fun k => [(84, [laws_szIntS.c k])], []⟩
noncomputable def laws_szIssuerS.c (k : Nat) : Con U := ⟨[.c (.tree 100), .c (.int .i64)], [.c (.int .i64)], fun x => laws_szIssuerS.f k x.1 x.2⟩
noncomputable def laws_szIssuerS.d : FD U := ⟨(laws_szIssuerS.c 0).A, (laws_szIssuerS.c 0).R, [], fun k => [(54, [laws_szIssuer.c k])], [⟨5, ⟨[0, 1, 5], [.c (.tree 100), .c (.int .i64), .c (.int .i64)]⟩, fun k x => laws_szIssuerS.l0 k x.1 x.2.1 x.2.2⟩]⟩
noncomputable def laws_szIncludesS.c (k : Nat) : Con U := ⟨[.c (.tree 77), .c (.int .i64)], [.c (.int .i64)], fun x => laws_szIncludesS.f x.1 x.2⟩
noncomputable def laws_szIncludesS.d : FD U := ⟨(laws_szIncludesS.c 0).A, (laws_szIncludesS.c 0).R, [], fun k => [], []⟩
noncomputable def laws_szCondS.c (k : Nat) : Con U := ⟨[.c (.tree 63), .c (.int .i64)], [.c (.int .i64)], fun x => laws_szCondS.f k x.1 x.2⟩
noncomputable def laws_szCond.c (k : Nat) : Con U := ⟨[.agg [.int .i64, .int .i64, .int .i64, .tree 63], .c (.int .i64)], [.c (.int .i64)], fun x => laws_szCond.f k x.1 x.2.1 x.2.2.1 x.2.2.2.1 x.2.2.2.2⟩
noncomputable def laws_szCondS.d : FD U := ⟨(laws_szCondS.c 0).A, (laws_szCondS.c 0).R, [], fun k => [(56, [laws_szCond.c k])], [⟨5, ⟨[0, 1, 5], [.c (.tree 63), .c (.int .i64), .c (.int .i64)]⟩, fun k x => laws_szCondS.l0 k x.1 x.2.1 x.2.2⟩]⟩
noncomputable def laws_szCond.d : FD U := ⟨(laws_szCond.c 0).A, (laws_szCond.c 0).R, [], fun k => [(86, [laws_szCondS.c k])], []⟩
noncomputable def laws_szRule.c (k : Nat) : Con U := ⟨[.agg [.int .i64, .int .i64, .int .i64, .int .i64, .int .i64, .int .i64, .tree 63], .c (.int .i64)], [.c (.int .i64)], fun x => laws_szRule.f k x.1 x.2.1 x.2.2.1 x.2.2.2.1 x.2.2.2.2.1 x.2.2.2.2.2.1 x.2.2.2.2.2.2.1 x.2.2.2.2.2.2.2⟩
noncomputable def laws_szRule.d : FD U := ⟨(laws_szRule.c 0).A, (laws_szRule.c 0).R, [], fun k => [(56, [laws_szCond.c k])], []⟩
noncomputable def laws_szRuleS.c (k : Nat) : Con U := ⟨[.c (.tree 65), .c (.int .i64)], [.c (.int .i64)], fun x => laws_szRuleS.f k x.1 x.2⟩
noncomputable def laws_szRuleS.d : FD U := ⟨(laws_szRuleS.c 0).A, (laws_szRuleS.c 0).R, [], fun k => [(24, [laws_szRule.c k])], [⟨5, ⟨[0, 1, 5], [.c (.tree 65), .c (.int .i64), .c (.int .i64)]⟩, fun k x => laws_szRuleS.l0 k x.1 x.2.1 x.2.2⟩]⟩
noncomputable def laws_szPolicy.c (k : Nat) : Con U := ⟨[.agg [.int .i64, .tree 65], .c (.int .i64)], [.c (.int .i64)], fun x => laws_szPolicy.f k x.1 x.2.1 x.2.2⟩
noncomputable def laws_szPolicy.d : FD U := ⟨(laws_szPolicy.c 0).A, (laws_szPolicy.c 0).R, [], fun k => [(6, [laws_szRuleS.c k])], []⟩
noncomputable def laws_szEpoch.c (k : Nat) : Con U := ⟨[.agg [.int .i64, .int .i64, .tree 77, .int .i64, .tree 65], .c (.int .i64)], [.c (.int .i64)], fun x => laws_szEpoch.f k x.1 x.2.1 x.2.2.1 x.2.2.2.1 x.2.2.2.2.1 x.2.2.2.2.2⟩
noncomputable def laws_szEpoch.d : FD U := ⟨(laws_szEpoch.c 0).A, (laws_szEpoch.c 0).R, [], fun k => [(5, [laws_szIncludesS.c k]), (85, [laws_szPolicy.c k])], []⟩
noncomputable def laws_szEpochS.c (k : Nat) : Con U := ⟨[.c (.tree 105), .c (.int .i64)], [.c (.int .i64)], fun x => laws_szEpochS.f k x.1 x.2⟩
noncomputable def laws_szEpochS.d : FD U := ⟨(laws_szEpochS.c 0).A, (laws_szEpochS.c 0).R, [], fun k => [(55, [laws_szEpoch.c k])], [⟨5, ⟨[0, 1, 5], [.c (.tree 105), .c (.int .i64), .c (.int .i64)]⟩, fun k x => laws_szEpochS.l0 k x.1 x.2.1 x.2.2⟩]⟩
noncomputable def laws_szFactS.c (k : Nat) : Con U := ⟨[.c (.tree 123), .c (.int .i64)], [.c (.int .i64)], fun x => laws_szFactS.f x.1 x.2⟩
noncomputable def laws_szFactS.d : FD U := ⟨(laws_szFactS.c 0).A, (laws_szFactS.c 0).R, [], fun k => [], []⟩
noncomputable def laws_szRevokedS.c (k : Nat) : Con U := ⟨[.c (.tree 127), .c (.int .i64)], [.c (.int .i64)], fun x => laws_szRevokedS.f x.1 x.2⟩
noncomputable def laws_szRevokedS.d : FD U := ⟨(laws_szRevokedS.c 0).A, (laws_szRevokedS.c 0).R, [], fun k => [], []⟩
noncomputable def laws_szCertS.c (k : Nat) : Con U := ⟨[.c (.tree 131), .c (.int .i64)], [.c (.int .i64)], fun x => laws_szCertS.f x.1 x.2⟩
noncomputable def laws_szCertS.d : FD U := ⟨(laws_szCertS.c 0).A, (laws_szCertS.c 0).R, [], fun k => [], []⟩
noncomputable def laws_szCenter.c (k : Nat) : Con U := ⟨[.agg [.tree 100, .tree 105, .tree 123, .tree 127, .int .i64, .tree 131], .c (.int .i64)], [.c (.int .i64)], fun x => laws_szCenter.f k x.1 x.2.1 x.2.2.1 x.2.2.2.1 x.2.2.2.2.1 x.2.2.2.2.2.1 x.2.2.2.2.2.2⟩
noncomputable def laws_szCenter.d : FD U := ⟨(laws_szCenter.c 0).A, (laws_szCenter.c 0).R, [], fun k => [(19, [laws_szIssuerS.c k]), (20, [laws_szEpochS.c k]), (21, [laws_szFactS.c k]), (22, [laws_szRevokedS.c k]), (23, [laws_szCertS.c k])], []⟩
noncomputable def laws_toIntS.c (k : Nat) : Con U := ⟨[.c (.tree 3)], [.c (.own 3)], fun x => laws_toIntS.f k x⟩
noncomputable def laws_toIntS.d : FD U := ⟨(laws_toIntS.c 0).A, (laws_toIntS.c 0).R, [], fun k => [], [⟨3, ⟨[0, 3, 4], [.c (.tree 3), .c (.own 3), .c (.int .i64)]⟩, fun k x => laws_toIntS.l0 k x.1 x.2.1 x.2.2⟩]⟩
noncomputable def laws_toIssuer.c (k : Nat) : Con U := ⟨[.agg [.int .i64, .tree 3, .int .i64]], [.agg [.int .i64, .own 3, .int .i64]], fun x => laws_toIssuer.f k x.1 x.2.1 x.2.2⟩
noncomputable def laws_toIssuer.d : FD U := ⟨(laws_toIssuer.c 0).A, (laws_toIssuer.c 0).R, [], fun k => [(89, [laws_toIntS.c k])], []⟩
noncomputable def laws_toIssuerS.c (k : Nat) : Con U := ⟨[.c (.tree 100)], [.c (.own 117)], fun x => laws_toIssuerS.f k x⟩
noncomputable def laws_toIssuerS.d : FD U := ⟨(laws_toIssuerS.c 0).A, (laws_toIssuerS.c 0).R, [], fun k => [(63, [laws_toIssuer.c k])], [⟨3, ⟨[0, 3, 4], [.c (.tree 100), .c (.own 117), .c (.int .i64)]⟩, fun k x => laws_toIssuerS.l0 k x.1 x.2.1 x.2.2⟩]⟩
noncomputable def laws_toIncludes.c (k : Nat) : Con U := ⟨[.agg [.int .i64, .int .i64]], [.agg [.int .i64, .int .i64]], fun x => laws_toIncludes.f x.1 x.2⟩
noncomputable def laws_toIncludes.d : FD U := ⟨(laws_toIncludes.c 0).A, (laws_toIncludes.c 0).R, [], fun k => [], []⟩
noncomputable def laws_toIncludesS.c (k : Nat) : Con U := ⟨[.c (.tree 77)], [.c (.own 75)], fun x => laws_toIncludesS.f k x⟩
noncomputable def laws_toIncludesS.d : FD U := ⟨(laws_toIncludesS.c 0).A, (laws_toIncludesS.c 0).R, [], fun k => [(32, [laws_toIncludes.c k])], [⟨3, ⟨[0, 3, 4], [.c (.tree 77), .c (.own 75), .c (.int .i64)]⟩, fun k x => laws_toIncludesS.l0 k x.1 x.2.1 x.2.2⟩]⟩
noncomputable def laws_toCondS.c (k : Nat) : Con U := ⟨[.c (.tree 63)], [.c (.own 80)], fun x => laws_toCondS.f k x⟩
noncomputable def laws_toCond.c (k : Nat) : Con U := ⟨[.agg [.int .i64, .int .i64, .int .i64, .tree 63]], [.agg [.int .i64, .int .i64, .int .i64, .own 80]], fun x => laws_toCond.f k x.1 x.2.1 x.2.2.1 x.2.2.2⟩
noncomputable def laws_toCondS.d : FD U := ⟨(laws_toCondS.c 0).A, (laws_toCondS.c 0).R, [], fun k => [(68, [laws_toCond.c k])], [⟨3, ⟨[0, 3, 4], [.c (.tree 63), .c (.own 80), .c (.int .i64)]⟩, fun k x => laws_toCondS.l0 k x.1 x.2.1 x.2.2⟩]⟩
noncomputable def laws_toCond.d : FD U := ⟨(laws_toCond.c 0).A, (laws_toCond.c 0).R, [], fun k => [(91, [laws_toCondS.c k])], []⟩
noncomputable def laws_toRule.c (k : Nat) : Con U := ⟨[.agg [.int .i64, .int .i64, .int .i64, .int .i64, .int .i64, .int .i64, .tree 63]], [.agg [.int .i64, .int .i64, .int .i64, .int .i64, .int .i64, .int .i64, .own 80]], fun x => laws_toRule.f k x.1 x.2.1 x.2.2.1 x.2.2.2.1 x.2.2.2.2.1 x.2.2.2.2.2.1 x.2.2.2.2.2.2⟩
noncomputable def laws_toRule.d : FD U := ⟨(laws_toRule.c 0).A, (laws_toRule.c 0).R, [], fun k => [(68, [laws_toCond.c k])], []⟩
noncomputable def laws_toRuleS.c (k : Nat) : Con U := ⟨[.c (.tree 65)], [.c (.own 82)], fun x => laws_toRuleS.f k x⟩
noncomputable def laws_toRuleS.d : FD U := ⟨(laws_toRuleS.c 0).A, (laws_toRuleS.c 0).R, [], fun k => [(33, [laws_toRule.c k])], [⟨3, ⟨[0, 3, 4], [.c (.tree 65), .c (.own 82), .c (.int .i64)]⟩, fun k x => laws_toRuleS.l0 k x.1 x.2.1 x.2.2⟩]⟩
noncomputable def laws_toPolicy.c (k : Nat) : Con U := ⟨[.agg [.int .i64, .tree 65]], [.agg [.int .i64, .own 82]], fun x => laws_toPolicy.f k x.1 x.2⟩
noncomputable def laws_toPolicy.d : FD U := ⟨(laws_toPolicy.c 0).A, (laws_toPolicy.c 0).R, [], fun k => [(10, [laws_toRuleS.c k])], []⟩
noncomputable def laws_toEpoch.c (k : Nat) : Con U := ⟨[.agg [.int .i64, .int .i64, .tree 77, .int .i64, .tree 65]], [.agg [.int .i64, .int .i64, .own 75, .int .i64, .own 82]], fun x => laws_toEpoch.f k x.1 x.2.1 x.2.2.1 x.2.2.2.1 x.2.2.2.2⟩
noncomputable def laws_toEpoch.d : FD U := ⟨(laws_toEpoch.c 0).A, (laws_toEpoch.c 0).R, [], fun k => [(9, [laws_toIncludesS.c k]), (90, [laws_toPolicy.c k])], []⟩
noncomputable def laws_toEpochS.c (k : Nat) : Con U := ⟨[.c (.tree 105)], [.c (.own 115)], fun x => laws_toEpochS.f k x⟩
noncomputable def laws_toEpochS.d : FD U := ⟨(laws_toEpochS.c 0).A, (laws_toEpochS.c 0).R, [], fun k => [(64, [laws_toEpoch.c k])], [⟨3, ⟨[0, 3, 4], [.c (.tree 105), .c (.own 115), .c (.int .i64)]⟩, fun k x => laws_toEpochS.l0 k x.1 x.2.1 x.2.2⟩]⟩
noncomputable def laws_toFact.c (k : Nat) : Con U := ⟨[.agg [.int .i64, .int .i64, .int .i64, .int .i64, .int .i64, .int .i64]], [.agg [.int .i64, .int .i64, .int .i64, .int .i64, .int .i64, .int .i64]], fun x => laws_toFact.f x.1 x.2.1 x.2.2.1 x.2.2.2.1 x.2.2.2.2.1 x.2.2.2.2.2⟩
noncomputable def laws_toFact.d : FD U := ⟨(laws_toFact.c 0).A, (laws_toFact.c 0).R, [], fun k => [], []⟩
noncomputable def laws_toFactS.c (k : Nat) : Con U := ⟨[.c (.tree 123)], [.c (.own 121)], fun x => laws_toFactS.f k x⟩
noncomputable def laws_toFactS.d : FD U := ⟨(laws_toFactS.c 0).A, (laws_toFactS.c 0).R, [], fun k => [(65, [laws_toFact.c k])], [⟨3, ⟨[0, 3, 4], [.c (.tree 123), .c (.own 121), .c (.int .i64)]⟩, fun k x => laws_toFactS.l0 k x.1 x.2.1 x.2.2⟩]⟩
noncomputable def laws_toRevoked.c (k : Nat) : Con U := ⟨[.agg [.int .i64, .int .i64]], [.agg [.int .i64, .int .i64]], fun x => laws_toRevoked.f x.1 x.2⟩
noncomputable def laws_toRevoked.d : FD U := ⟨(laws_toRevoked.c 0).A, (laws_toRevoked.c 0).R, [], fun k => [], []⟩
noncomputable def laws_toRevokedS.c (k : Nat) : Con U := ⟨[.c (.tree 127)], [.c (.own 125)], fun x => laws_toRevokedS.f k x⟩
noncomputable def laws_toRevokedS.d : FD U := ⟨(laws_toRevokedS.c 0).A, (laws_toRevokedS.c 0).R, [], fun k => [(66, [laws_toRevoked.c k])], [⟨3, ⟨[0, 3, 4], [.c (.tree 127), .c (.own 125), .c (.int .i64)]⟩, fun k x => laws_toRevokedS.l0 k x.1 x.2.1 x.2.2⟩]⟩
noncomputable def laws_toCert.c (k : Nat) : Con U := ⟨[.agg [.int .i64, .int .i64, .int .i64, .int .i64, .int .i64, .int .i64]], [.agg [.int .i64, .int .i64, .int .i64, .int .i64, .int .i64, .int .i64]], fun x => laws_toCert.f x.1 x.2.1 x.2.2.1 x.2.2.2.1 x.2.2.2.2.1 x.2.2.2.2.2⟩
noncomputable def laws_toCert.d : FD U := ⟨(laws_toCert.c 0).A, (laws_toCert.c 0).R, [], fun k => [], []⟩
noncomputable def laws_toCertS.c (k : Nat) : Con U := ⟨[.c (.tree 131)], [.c (.own 129)], fun x => laws_toCertS.f k x⟩
noncomputable def laws_toCertS.d : FD U := ⟨(laws_toCertS.c 0).A, (laws_toCertS.c 0).R, [], fun k => [(67, [laws_toCert.c k])], [⟨3, ⟨[0, 3, 4], [.c (.tree 131), .c (.own 129), .c (.int .i64)]⟩, fun k x => laws_toCertS.l0 k x.1 x.2.1 x.2.2⟩]⟩
noncomputable def laws_toCenter.c (k : Nat) : Con U := ⟨[.agg [.tree 100, .tree 105, .tree 123, .tree 127, .int .i64, .tree 131]], [.agg [.own 117, .own 115, .own 121, .own 125, .int .i64, .own 129]], fun x => laws_toCenter.f k x.1 x.2.1 x.2.2.1 x.2.2.2.1 x.2.2.2.2.1 x.2.2.2.2.2⟩
noncomputable def laws_toCenter.d : FD U := ⟨(laws_toCenter.c 0).A, (laws_toCenter.c 0).R, [], fun k => [(27, [laws_toIssuerS.c k]), (28, [laws_toEpochS.c k]), (29, [laws_toFactS.c k]), (30, [laws_toRevokedS.c k]), (31, [laws_toCertS.c k])], []⟩
noncomputable def spec_l8Copy.c (k : Nat) : Con U := ⟨[.c (.tree 117)], [.c (.own 117)], fun x => spec_l8Copy.f k x⟩
noncomputable def spec_l8Copy.d : FD U := ⟨(spec_l8Copy.c 0).A, (spec_l8Copy.c 0).R, [], fun k => [], [⟨3, ⟨[0, 3, 4], [.c (.tree 117), .c (.own 117), .c (.int .i64)]⟩, fun k x => spec_l8Copy.l0 k x.1 x.2.1 x.2.2⟩]⟩
noncomputable def spec_l15Copy.c (k : Nat) : Con U := ⟨[.agg [.int .i64, .int .i64, .int .i64, .tree 80]], [.agg [.int .i64, .int .i64, .int .i64, .own 80]], fun x => spec_l15Copy.f k x.1 x.2.1 x.2.2.1 x.2.2.2⟩
noncomputable def spec_l15Copy.d : FD U := ⟨(spec_l15Copy.c 0).A, (spec_l15Copy.c 0).R, [], fun k => [(102, [spec_l15Copy.c k])], [⟨3, ⟨[1, 2, 3, 4], [.box 80 [.int .i64, .int .i64, .int .i64, .tree 80], .box 80 [.int .i64, .int .i64, .int .i64, .own 80], .box 80 [.int .i64, .int .i64, .int .i64, .own 80], .c (.int .i64)]⟩, fun k x => spec_l15Copy.l0 k x.1 x.2.1 x.2.2.1 x.2.2.2.1 x.2.2.2.2.1 x.2.2.2.2.2.1 x.2.2.2.2.2.2.1 x.2.2.2.2.2.2.2.1 x.2.2.2.2.2.2.2.2.1 x.2.2.2.2.2.2.2.2.2.1 x.2.2.2.2.2.2.2.2.2.2.1 x.2.2.2.2.2.2.2.2.2.2.2.1 x.2.2.2.2.2.2.2.2.2.2.2.2⟩]⟩
noncomputable def spec_l19Copy.c (k : Nat) : Con U := ⟨[.agg [.int .i64, .tree 82]], [.agg [.int .i64, .own 82]], fun x => spec_l19Copy.f k x.1 x.2⟩
noncomputable def spec_l19Copy.d : FD U := ⟨(spec_l19Copy.c 0).A, (spec_l19Copy.c 0).R, [], fun k => [(102, [spec_l15Copy.c k])], [⟨3, ⟨[1, 2, 3, 4], [.box 113 [.int .i64, .tree 82], .box 113 [.int .i64, .own 82], .box 113 [.int .i64, .own 82], .c (.int .i64)]⟩, fun k x => spec_l19Copy.l0 k x.1 x.2.1 x.2.2.1 x.2.2.2.1 x.2.2.2.2.1 x.2.2.2.2.2.1 x.2.2.2.2.2.2⟩]⟩
noncomputable def spec_l24Copy.c (k : Nat) : Con U := ⟨[.agg [.int .i64, .int .i64, .tree 75, .int .i64, .tree 82]], [.agg [.int .i64, .int .i64, .own 75, .int .i64, .own 82]], fun x => spec_l24Copy.f k x.1 x.2.1 x.2.2.1 x.2.2.2.1 x.2.2.2.2⟩
noncomputable def spec_l24Copy.d : FD U := ⟨(spec_l24Copy.c 0).A, (spec_l24Copy.c 0).R, [], fun k => [(88, [spec_l19Copy.c k])], []⟩
noncomputable def spec_l24All.c (k : Nat) : Con U := ⟨[.c (.tree 115)], [.c (.own 115)], fun x => spec_l24All.f k x⟩
noncomputable def spec_l24All.d : FD U := ⟨(spec_l24All.c 0).A, (spec_l24All.c 0).R, [], fun k => [(62, [spec_l24Copy.c k])], [⟨3, ⟨[0, 3, 4], [.c (.tree 115), .c (.own 115), .c (.int .i64)]⟩, fun k x => spec_l24All.l0 k x.1 x.2.1 x.2.2⟩]⟩
noncomputable def spec_l7Copy.c (k : Nat) : Con U := ⟨[.c (.tree 121)], [.c (.own 121)], fun x => spec_l7Copy.f x⟩
noncomputable def spec_l7Copy.d : FD U := ⟨(spec_l7Copy.c 0).A, (spec_l7Copy.c 0).R, [], fun k => [], []⟩
noncomputable def spec_l28Copy.c (k : Nat) : Con U := ⟨[.agg [.tree 117, .tree 115, .tree 121, .tree 125, .int .i64, .tree 129]], [.agg [.own 117, .own 115, .own 121, .own 125, .int .i64, .own 129]], fun x => spec_l28Copy.f k x.1 x.2.1 x.2.2.1 x.2.2.2.1 x.2.2.2.2.1 x.2.2.2.2.2⟩
noncomputable def spec_l28Copy.d : FD U := ⟨(spec_l28Copy.c 0).A, (spec_l28Copy.c 0).R, [], fun k => [(57, [spec_l8Copy.c k]), (58, [spec_l24All.c k]), (59, [spec_l7Copy.c k])], []⟩
noncomputable def spec_l1In.c (k : Nat) : Con U := ⟨[.c (.int .i64), .c (.int .i64), .c (.int .i64)], [.c .bool], fun x => spec_l1In.f x.1 x.2.1 x.2.2⟩
noncomputable def spec_l1In.d : FD U := ⟨(spec_l1In.c 0).A, (spec_l1In.c 0).R, [], fun k => [], []⟩
noncomputable def spec_IsTime.c (k : Nat) : Con U := ⟨[.c (.int .i64)], [.c .bool], fun x => spec_IsTime.f x⟩
noncomputable def spec_IsTime.d : FD U := ⟨(spec_IsTime.c 0).A, (spec_IsTime.c 0).R, [], fun k => [(98, [spec_l1In.c k])], []⟩
noncomputable def spec_RolesUnder.c (k : Nat) : Con U := ⟨[.c (.tree 75), .c (.int .i64)], [.c (.own 3)], fun x => spec_RolesUnder.f k x.1 x.2⟩
noncomputable def spec_RolesUnder.d : FD U := ⟨(spec_RolesUnder.c 0).A, (spec_RolesUnder.c 0).R, [], fun k => [(98, [spec_l1In.c k])], [⟨7, ⟨[0, 5, 6, 7], [.c (.tree 75), .c (.own 3), .c (.own 4), .c (.int .i64)]⟩, fun k x => spec_RolesUnder.l0 k x.1 x.2.1 x.2.2.1 x.2.2.2⟩, ⟨10, ⟨[0, 5, 6, 7, 8], [.c (.tree 75), .c (.own 3), .c (.own 4), .c (.int .i64), .c (.int .i64)]⟩, fun k x => spec_RolesUnder.l1 k x.1 x.2.1 x.2.2.1 x.2.2.2.1 x.2.2.2.2⟩, ⟨15, ⟨[5, 6, 9], [.c (.own 3), .c (.own 4), .c (.int .i64)]⟩, fun k x => spec_RolesUnder.l2 k x.1 x.2.1 x.2.2⟩]⟩
noncomputable def spec_l13Has.c (k : Nat) : Con U := ⟨[.c (.tree 3), .c (.int .i64)], [.c .bool], fun x => spec_l13Has.f k x.1 x.2⟩
noncomputable def spec_l13Has.d : FD U := ⟨(spec_l13Has.c 0).A, (spec_l13Has.c 0).R, [], fun k => [], [⟨2, ⟨[0, 1, 5], [.c (.tree 3), .c (.int .i64), .c (.int .i64)]⟩, fun k x => spec_l13Has.l0 k x.1 x.2.1 x.2.2⟩]⟩
noncomputable def spec_ArePairs.c (k : Nat) : Con U := ⟨[.c (.tree 75)], [.c .bool], fun x => spec_ArePairs.f k x⟩
noncomputable def spec_ArePairs.d : FD U := ⟨(spec_ArePairs.c 0).A, (spec_ArePairs.c 0).R, [], fun k => [(98, [spec_l1In.c k]), (109, [spec_RolesUnder.c k]), (108, [spec_l13Has.c k])], [⟨2, ⟨[0, 3], [.c (.tree 75), .c (.int .i64)]⟩, fun k x => spec_ArePairs.l0 k x.1 x.2⟩]⟩
noncomputable def spec_l15Left.c (k : Nat) : Con U := ⟨[.agg [.int .i64, .int .i64, .int .i64, .tree 80], .c (.int .i64)], [.c (.int .i64)], fun x => spec_l15Left.f k x.1 x.2.1 x.2.2.1 x.2.2.2.1 x.2.2.2.2⟩
noncomputable def spec_l15Left.d : FD U := ⟨(spec_l15Left.c 0).A, (spec_l15Left.c 0).R, [], fun k => [(123, [spec_l15Left.c k])], [⟨3, ⟨[1, 2, 5], [.c (.int .i64), .box 80 [.int .i64, .int .i64, .int .i64, .tree 80], .c (.int .i64)]⟩, fun k x => spec_l15Left.l0 k x.1 x.2.1 x.2.2.1 x.2.2.2.1 x.2.2.2.2.1 x.2.2.2.2.2⟩]⟩
noncomputable def spec_ArityOf.c (k : Nat) : Con U := ⟨[.c (.int .i64)], [.c (.int .i64)], fun x => spec_ArityOf.f x⟩
noncomputable def spec_ArityOf.d : FD U := ⟨(spec_ArityOf.c 0).A, (spec_ArityOf.c 0).R, [], fun k => [], []⟩
noncomputable def spec_l15Node.c (k : Nat) : Con U := ⟨[.agg [.int .i64, .int .i64, .int .i64, .tree 80]], [.c .bool], fun x => spec_l15Node.f x.1 x.2.1 x.2.2.1 x.2.2.2⟩
noncomputable def spec_l15Node.d : FD U := ⟨(spec_l15Node.c 0).A, (spec_l15Node.c 0).R, [], fun k => [(98, [spec_l1In.c k]), (99, [spec_IsTime.c k]), (133, [spec_ArityOf.c k])], []⟩
noncomputable def spec_l15Valid.c (k : Nat) : Con U := ⟨[.agg [.int .i64, .int .i64, .int .i64, .tree 80]], [.c .bool], fun x => spec_l15Valid.f k x.1 x.2.1 x.2.2.1 x.2.2.2⟩
noncomputable def spec_l15Valid.d : FD U := ⟨(spec_l15Valid.c 0).A, (spec_l15Valid.c 0).R, [], fun k => [(129, [spec_l15Node.c k]), (124, [spec_l15Valid.c k])], [⟨4, ⟨[1, 3], [.box 80 [.int .i64, .int .i64, .int .i64, .tree 80], .c (.int .i64)]⟩, fun k x => spec_l15Valid.l0 k x.1 x.2.1 x.2.2.1 x.2.2.2.1 x.2.2.2.2⟩]⟩
noncomputable def spec_IsCond.c (k : Nat) : Con U := ⟨[.agg [.int .i64, .int .i64, .int .i64, .tree 80]], [.c .bool], fun x => spec_IsCond.f k x.1 x.2.1 x.2.2.1 x.2.2.2⟩
noncomputable def spec_IsCond.d : FD U := ⟨(spec_IsCond.c 0).A, (spec_IsCond.c 0).R, [], fun k => [(123, [spec_l15Left.c k]), (124, [spec_l15Valid.c k])], []⟩
noncomputable def spec_IsName.c (k : Nat) : Con U := ⟨[.c (.int .i64)], [.c .bool], fun x => spec_IsName.f x⟩
noncomputable def spec_IsName.d : FD U := ⟨(spec_IsName.c 0).A, (spec_IsName.c 0).R, [], fun k => [(98, [spec_l1In.c k])], []⟩
noncomputable def spec_HasKind.c (k : Nat) : Con U := ⟨[.c (.int .i64), .c (.int .i64)], [.c .bool], fun x => spec_HasKind.f x.1 x.2⟩
noncomputable def spec_HasKind.d : FD U := ⟨(spec_HasKind.c 0).A, (spec_HasKind.c 0).R, [], fun k => [(122, [spec_IsName.c k])], []⟩
noncomputable def spec_IsRule.c (k : Nat) : Con U := ⟨[.agg [.int .i64, .int .i64, .int .i64, .int .i64, .int .i64, .int .i64, .tree 80]], [.c .bool], fun x => spec_IsRule.f k x.1 x.2.1 x.2.2.1 x.2.2.2.1 x.2.2.2.2.1 x.2.2.2.2.2.1 x.2.2.2.2.2.2⟩
noncomputable def spec_IsRule.d : FD U := ⟨(spec_IsRule.c 0).A, (spec_IsRule.c 0).R, [], fun k => [(98, [spec_l1In.c k]), (118, [spec_IsCond.c k]), (117, [spec_HasKind.c k])], []⟩
noncomputable def spec_IsPolicy.c (k : Nat) : Con U := ⟨[.agg [.int .i64, .tree 82]], [.c .bool], fun x => spec_IsPolicy.f k x.1 x.2⟩
noncomputable def spec_IsPolicy.d : FD U := ⟨(spec_IsPolicy.c 0).A, (spec_IsPolicy.c 0).R, [], fun k => [(110, [spec_IsRule.c k]), (98, [spec_l1In.c k])], [⟨2, ⟨[1, 3], [.box 113 [.int .i64, .tree 82], .c (.int .i64)]⟩, fun k x => spec_IsPolicy.l0 k x.1 x.2.1 x.2.2⟩]⟩
noncomputable def spec_IsEpoch.c (k : Nat) : Con U := ⟨[.agg [.int .i64, .int .i64, .tree 75, .int .i64, .tree 82]], [.c .bool], fun x => spec_IsEpoch.f k x.1 x.2.1 x.2.2.1 x.2.2.2.1 x.2.2.2.2⟩
noncomputable def spec_IsEpoch.d : FD U := ⟨(spec_IsEpoch.c 0).A, (spec_IsEpoch.c 0).R, [], fun k => [(98, [spec_l1In.c k]), (99, [spec_IsTime.c k]), (100, [spec_ArePairs.c k]), (101, [spec_IsPolicy.c k])], []⟩
noncomputable def spec_AreEpochs.c (k : Nat) : Con U := ⟨[.c (.tree 115)], [.c .bool], fun x => spec_AreEpochs.f k x⟩
noncomputable def spec_AreEpochs.d : FD U := ⟨(spec_AreEpochs.c 0).A, (spec_AreEpochs.c 0).R, [], fun k => [(87, [spec_IsEpoch.c k])], [⟨2, ⟨[0, 3], [.c (.tree 115), .c (.int .i64)]⟩, fun k x => spec_AreEpochs.l0 k x.1 x.2⟩]⟩
noncomputable def spec_NewestNumber.c (k : Nat) : Con U := ⟨[.c (.tree 115)], [.c (.int .i64)], fun x => spec_NewestNumber.f x⟩
noncomputable def spec_NewestNumber.d : FD U := ⟨(spec_NewestNumber.c 0).A, (spec_NewestNumber.c 0).R, [], fun k => [], []⟩
noncomputable def spec_PublishEpoch.c (k : Nat) : Con U := ⟨[.c (.tree 115), .c (.tree 75), .c (.tree 82), .c (.int .i64)], [.c (.own 115), .c .bool], fun x => spec_PublishEpoch.f k x.1 x.2.1 x.2.2.1 x.2.2.2⟩
noncomputable def spec_PublishEpoch.d : FD U := ⟨(spec_PublishEpoch.c 0).A, (spec_PublishEpoch.c 0).R, [], fun k => [(60, [spec_AreEpochs.c k]), (61, [spec_NewestNumber.c k]), (58, [spec_l24All.c k]), (62, [spec_l24Copy.c k])], []⟩
noncomputable def spec_CenterPublish.c (k : Nat) : Con U := ⟨[.agg [.tree 117, .tree 115, .tree 121, .tree 125, .int .i64, .tree 129], .c (.tree 75), .c (.tree 82), .c (.int .i64)], [.agg [.own 117, .own 115, .own 121, .own 125, .int .i64, .own 129], .c .bool], fun x => spec_CenterPublish.f k x.1 x.2.1 x.2.2.1 x.2.2.2.1 x.2.2.2.2.1 x.2.2.2.2.2.1 x.2.2.2.2.2.2.1 x.2.2.2.2.2.2.2.1 x.2.2.2.2.2.2.2.2⟩
noncomputable def spec_CenterPublish.d : FD U := ⟨(spec_CenterPublish.c 0).A, (spec_CenterPublish.c 0).R, [], fun k => [(25, [spec_l28Copy.c k]), (26, [spec_PublishEpoch.c k])], []⟩
noncomputable def impl_copyCond.c (k : Nat) : Con U := ⟨[.agg [.int .i64, .int .i64, .int .i64, .tree 80]], [.agg [.int .i64, .int .i64, .int .i64, .own 80]], fun x => impl_copyCond.f k x.1 x.2.1 x.2.2.1 x.2.2.2⟩
noncomputable def impl_copyCond.d : FD U := ⟨(impl_copyCond.c 0).A, (impl_copyCond.c 0).R, [], fun k => [(111, [impl_copyCond.c k])], [⟨3, ⟨[2, 3, 14, 15, 16], [.box 80 [.int .i64, .int .i64, .int .i64, .own 80], .box 80 [.int .i64, .int .i64, .int .i64, .own 80], .c (.tree 80), .c (.int .i64), .c (.int .i64)]⟩, fun k x => impl_copyCond.l0 k x.1 x.2.1 x.2.2.1 x.2.2.2.1 x.2.2.2.2.1 x.2.2.2.2.2.1 x.2.2.2.2.2.2.1 x.2.2.2.2.2.2.2.1 x.2.2.2.2.2.2.2.2.1 x.2.2.2.2.2.2.2.2.2.1 x.2.2.2.2.2.2.2.2.2.2⟩]⟩
noncomputable def impl_copyRules.c (k : Nat) : Con U := ⟨[.c (.tree 82)], [.c (.own 82)], fun x => impl_copyRules.f k x⟩
noncomputable def impl_copyRules.d : FD U := ⟨(impl_copyRules.c 0).A, (impl_copyRules.c 0).R, [], fun k => [(111, [impl_copyCond.c k])], [⟨3, ⟨[3, 7, 8, 9], [.c (.own 82), .c (.tree 82), .c (.int .i64), .c (.int .i64)]⟩, fun k x => impl_copyRules.l0 k x.1 x.2.1 x.2.2.1 x.2.2.2⟩]⟩
noncomputable def impl_copyPolicy.c (k : Nat) : Con U := ⟨[.agg [.int .i64, .tree 82]], [.agg [.int .i64, .own 82]], fun x => impl_copyPolicy.f k x.1 x.2⟩
noncomputable def impl_copyPolicy.d : FD U := ⟨(impl_copyPolicy.c 0).A, (impl_copyPolicy.c 0).R, [], fun k => [(103, [impl_copyRules.c k])], []⟩
noncomputable def impl_copyEpoch.c (k : Nat) : Con U := ⟨[.agg [.int .i64, .int .i64, .tree 75, .int .i64, .tree 82]], [.agg [.int .i64, .int .i64, .own 75, .int .i64, .own 82]], fun x => impl_copyEpoch.f k x.1 x.2.1 x.2.2.1 x.2.2.2.1 x.2.2.2.2⟩
noncomputable def impl_copyEpoch.d : FD U := ⟨(impl_copyEpoch.c 0).A, (impl_copyEpoch.c 0).R, [], fun k => [(92, [impl_copyPolicy.c k])], []⟩
noncomputable def impl_copyEpochs.c (k : Nat) : Con U := ⟨[.c (.tree 115)], [.c (.own 115)], fun x => impl_copyEpochs.f k x⟩
noncomputable def impl_copyEpochs.d : FD U := ⟨(impl_copyEpochs.c 0).A, (impl_copyEpochs.c 0).R, [], fun k => [(72, [impl_copyEpoch.c k])], [⟨3, ⟨[3, 7, 8, 9], [.c (.own 115), .c (.tree 115), .c (.int .i64), .c (.int .i64)]⟩, fun k x => impl_copyEpochs.l0 k x.1 x.2.1 x.2.2.1 x.2.2.2⟩]⟩
noncomputable def impl_copyFacts.c (k : Nat) : Con U := ⟨[.c (.tree 121)], [.c (.own 121)], fun x => impl_copyFacts.f x⟩
noncomputable def impl_copyFacts.d : FD U := ⟨(impl_copyFacts.c 0).A, (impl_copyFacts.c 0).R, [], fun k => [], []⟩
noncomputable def impl_copyCenter.c (k : Nat) : Con U := ⟨[.agg [.tree 117, .tree 115, .tree 121, .tree 125, .int .i64, .tree 129]], [.agg [.own 117, .own 115, .own 121, .own 125, .int .i64, .own 129]], fun x => impl_copyCenter.f k x.1 x.2.1 x.2.2.1 x.2.2.2.1 x.2.2.2.2.1 x.2.2.2.2.2⟩
noncomputable def impl_copyCenter.d : FD U := ⟨(impl_copyCenter.c 0).A, (impl_copyCenter.c 0).R, [], fun k => [(69, [impl_copyEpochs.c k]), (70, [impl_copyFacts.c k])], [⟨3, ⟨[2, 3, 24, 25, 26], [.box 40 [.own 117, .own 115, .own 121, .own 125, .int .i64, .own 129], .box 40 [.own 117, .own 115, .own 121, .own 125, .int .i64, .own 129], .c (.tree 117), .c (.int .i64), .c (.int .i64)]⟩, fun k x => impl_copyCenter.l0 k x.1 x.2.1 x.2.2.1 x.2.2.2.1 x.2.2.2.2.1 x.2.2.2.2.2.1 x.2.2.2.2.2.2.1 x.2.2.2.2.2.2.2.1 x.2.2.2.2.2.2.2.2.1 x.2.2.2.2.2.2.2.2.2.1 x.2.2.2.2.2.2.2.2.2.2.1 x.2.2.2.2.2.2.2.2.2.2.2.1 x.2.2.2.2.2.2.2.2.2.2.2.2.1 x.2.2.2.2.2.2.2.2.2.2.2.2.2.1 x.2.2.2.2.2.2.2.2.2.2.2.2.2.2⟩]⟩
noncomputable def impl_NewestNumber.c (k : Nat) : Con U := ⟨[.c (.tree 115)], [.c (.int .i64)], fun x => impl_NewestNumber.f x⟩
noncomputable def impl_NewestNumber.d : FD U := ⟨(impl_NewestNumber.c 0).A, (impl_NewestNumber.c 0).R, [], fun k => [], []⟩
noncomputable def impl_InRange.c (k : Nat) : Con U := ⟨[.c (.int .i64), .c (.int .i64), .c (.int .i64)], [.c .bool], fun x => impl_InRange.f x.1 x.2.1 x.2.2⟩
noncomputable def impl_InRange.d : FD U := ⟨(impl_InRange.c 0).A, (impl_InRange.c 0).R, [], fun k => [], []⟩
noncomputable def impl_IsTime.c (k : Nat) : Con U := ⟨[.c (.int .i64)], [.c .bool], fun x => impl_IsTime.f x⟩
noncomputable def impl_IsTime.d : FD U := ⟨(impl_IsTime.c 0).A, (impl_IsTime.c 0).R, [], fun k => [(104, [impl_InRange.c k])], []⟩
noncomputable def impl_isRole.c (k : Nat) : Con U := ⟨[.c (.int .i64)], [.c .bool], fun x => impl_isRole.f x⟩
noncomputable def impl_isRole.d : FD U := ⟨(impl_isRole.c 0).A, (impl_isRole.c 0).R, [], fun k => [(104, [impl_InRange.c k])], []⟩
noncomputable def impl_below.c (k : Nat) : Con U := ⟨[.c (.tree 75), .c (.int .i64)], [.agg [.bool, .bool, .bool, .bool, .bool, .bool]], fun x => impl_below.f k x.1 x.2⟩
noncomputable def impl_below.d : FD U := ⟨(impl_below.c 0).A, (impl_below.c 0).R, [], fun k => [(112, [impl_isRole.c k])], [⟨3, ⟨[0, 4, 5, 6], [.c (.tree 75), .box 159 [.bool, .bool, .bool, .bool, .bool, .bool], .box 159 [.bool, .bool, .bool, .bool, .bool, .bool], .c (.own 3)]⟩, fun k x => impl_below.l0 k x.1 x.2.1 x.2.2.1 x.2.2.2.1 x.2.2.2.2.1 x.2.2.2.2.2.1 x.2.2.2.2.2.2.1 x.2.2.2.2.2.2.2.1 x.2.2.2.2.2.2.2.2.1 x.2.2.2.2.2.2.2.2.2.1 x.2.2.2.2.2.2.2.2.2.2.1 x.2.2.2.2.2.2.2.2.2.2.2.1 x.2.2.2.2.2.2.2.2.2.2.2.2.1 x.2.2.2.2.2.2.2.2.2.2.2.2.2⟩, ⟨7, ⟨[0, 4, 5, 6, 7, 21, 22, 23], [.c (.tree 75), .box 159 [.bool, .bool, .bool, .bool, .bool, .bool], .box 159 [.bool, .bool, .bool, .bool, .bool, .bool], .c (.own 3), .c (.int .i64), .c (.tree 75), .c (.int .i64), .c (.int .i64)]⟩, fun k x => impl_below.l1 k x.1 x.2.1 x.2.2.1 x.2.2.2.1 x.2.2.2.2.1 x.2.2.2.2.2.1 x.2.2.2.2.2.2.1 x.2.2.2.2.2.2.2.1 x.2.2.2.2.2.2.2.2.1 x.2.2.2.2.2.2.2.2.2.1 x.2.2.2.2.2.2.2.2.2.2.1 x.2.2.2.2.2.2.2.2.2.2.2.1 x.2.2.2.2.2.2.2.2.2.2.2.2.1 x.2.2.2.2.2.2.2.2.2.2.2.2.2.1 x.2.2.2.2.2.2.2.2.2.2.2.2.2.2.1 x.2.2.2.2.2.2.2.2.2.2.2.2.2.2.2.1 x.2.2.2.2.2.2.2.2.2.2.2.2.2.2.2.2.1 x.2.2.2.2.2.2.2.2.2.2.2.2.2.2.2.2.2⟩]⟩
noncomputable def impl_ArePairs.c (k : Nat) : Con U := ⟨[.c (.tree 75)], [.c .bool], fun x => impl_ArePairs.f k x⟩
noncomputable def impl_ArePairs.d : FD U := ⟨(impl_ArePairs.c 0).A, (impl_ArePairs.c 0).R, [], fun k => [(112, [impl_isRole.c k]), (113, [impl_below.c k])], [⟨2, ⟨[0, 5, 6, 7], [.c (.tree 75), .c (.tree 75), .c (.int .i64), .c (.int .i64)]⟩, fun k x => impl_ArePairs.l0 k x.1 x.2.1 x.2.2.1 x.2.2.2⟩]⟩
noncomputable def impl_SizeOf.c (k : Nat) : Con U := ⟨[.agg [.int .i64, .int .i64, .int .i64, .tree 80]], [.c (.int .i64)], fun x => impl_SizeOf.f k x.1 x.2.1 x.2.2.1 x.2.2.2⟩
noncomputable def impl_SizeOf.d : FD U := ⟨(impl_SizeOf.c 0).A, (impl_SizeOf.c 0).R, [], fun k => [(127, [impl_SizeOf.c k])], [⟨3, ⟨[3, 7, 8, 9], [.c (.int .i64), .c (.tree 80), .c (.int .i64), .c (.int .i64)]⟩, fun k x => impl_SizeOf.l0 k x.1 x.2.1 x.2.2.1 x.2.2.2⟩]⟩
noncomputable def impl_ArityOf.c (k : Nat) : Con U := ⟨[.c (.int .i64)], [.c (.int .i64)], fun x => impl_ArityOf.f x⟩
noncomputable def impl_ArityOf.d : FD U := ⟨(impl_ArityOf.c 0).A, (impl_ArityOf.c 0).R, [], fun k => [(104, [impl_InRange.c k])], []⟩
noncomputable def impl_isNode.c (k : Nat) : Con U := ⟨[.agg [.int .i64, .int .i64, .int .i64, .tree 80]], [.c .bool], fun x => impl_isNode.f x.1 x.2.1 x.2.2.1 x.2.2.2⟩
noncomputable def impl_isNode.d : FD U := ⟨(impl_isNode.c 0).A, (impl_isNode.c 0).R, [], fun k => [(104, [impl_InRange.c k]), (134, [impl_ArityOf.c k])], []⟩
noncomputable def cl132.c (k : Nat) : Con U := ⟨[.agg [.int .i64, .int .i64, .int .i64, .tree 80]], [.c .bool], fun x => cl132.f k x.1 x.2.1 x.2.2.1 x.2.2.2⟩
noncomputable def impl_areNodes.c (k : Nat) : Con U := ⟨[.agg [.int .i64, .int .i64, .int .i64, .tree 80]], [.c .bool], fun x => impl_areNodes.f k x.1 x.2.1 x.2.2.1 x.2.2.2⟩
noncomputable def slices_ContainsFunc131_132.c (k : Nat) : Con U := ⟨[.c (.tree 80), .fn 132 []], [.c .bool], fun x => slices_ContainsFunc131_132.f k x⟩
noncomputable def slices_IndexFunc135_132.c (k : Nat) : Con U := ⟨[.c (.tree 80), .fn 132 []], [.c (.int .i64)], fun x => slices_IndexFunc135_132.f k x⟩
noncomputable def cl132.d : FD U := ⟨(cl132.c 0).A, (cl132.c 0).R, [], fun k => [(128, [impl_areNodes.c k])], []⟩
noncomputable def impl_areNodes.d : FD U := ⟨(impl_areNodes.c 0).A, (impl_areNodes.c 0).R, [], fun k => [(130, [impl_isNode.c k]), (131, [slices_ContainsFunc131_132.c k])], []⟩
noncomputable def slices_ContainsFunc131_132.d : FD U := ⟨(slices_ContainsFunc131_132.c 0).A, (slices_ContainsFunc131_132.c 0).R, [], fun k => [(135, [slices_IndexFunc135_132.c k])], []⟩
noncomputable def slices_IndexFunc135_132.d : FD U := ⟨(slices_IndexFunc135_132.c 0).A, (slices_IndexFunc135_132.c 0).R, [], fun k => [(132, [cl132.c k])], [⟨2, ⟨[0, 1, 7, 8], [.c (.tree 80), .fn 132 [], .c (.int .i64), .c (.int .i64)]⟩, fun k x => slices_IndexFunc135_132.l0 k x.1 x.2.1 x.2.2⟩]⟩
noncomputable def impl_IsCond.c (k : Nat) : Con U := ⟨[.agg [.int .i64, .int .i64, .int .i64, .tree 80]], [.c .bool], fun x => impl_IsCond.f k x.1 x.2.1 x.2.2.1 x.2.2.2⟩
noncomputable def impl_IsCond.d : FD U := ⟨(impl_IsCond.c 0).A, (impl_IsCond.c 0).R, [], fun k => [(127, [impl_SizeOf.c k]), (128, [impl_areNodes.c k])], []⟩
noncomputable def impl_IsName.c (k : Nat) : Con U := ⟨[.c (.int .i64)], [.c .bool], fun x => impl_IsName.f x⟩
noncomputable def impl_IsName.d : FD U := ⟨(impl_IsName.c 0).A, (impl_IsName.c 0).R, [], fun k => [(104, [impl_InRange.c k])], []⟩
noncomputable def impl_KindOf.c (k : Nat) : Con U := ⟨[.c (.int .i64)], [.c (.int .i64)], fun x => impl_KindOf.f x⟩
noncomputable def impl_KindOf.d : FD U := ⟨(impl_KindOf.c 0).A, (impl_KindOf.c 0).R, [], fun k => [(125, [impl_IsName.c k])], []⟩
noncomputable def impl_HasKind.c (k : Nat) : Con U := ⟨[.c (.int .i64), .c (.int .i64)], [.c .bool], fun x => impl_HasKind.f x.1 x.2⟩
noncomputable def impl_HasKind.d : FD U := ⟨(impl_HasKind.c 0).A, (impl_HasKind.c 0).R, [], fun k => [(125, [impl_IsName.c k]), (126, [impl_KindOf.c k])], []⟩
noncomputable def impl_IsRule.c (k : Nat) : Con U := ⟨[.agg [.int .i64, .int .i64, .int .i64, .int .i64, .int .i64, .int .i64, .tree 80]], [.c .bool], fun x => impl_IsRule.f k x.1 x.2.1 x.2.2.1 x.2.2.2.1 x.2.2.2.2.1 x.2.2.2.2.2.1 x.2.2.2.2.2.2⟩
noncomputable def impl_IsRule.d : FD U := ⟨(impl_IsRule.c 0).A, (impl_IsRule.c 0).R, [], fun k => [(104, [impl_InRange.c k]), (121, [impl_IsCond.c k]), (120, [impl_HasKind.c k])], []⟩
noncomputable def cl115.c (k : Nat) : Con U := ⟨[.agg [.int .i64, .int .i64, .int .i64, .int .i64, .int .i64, .int .i64, .tree 80]], [.c .bool], fun x => cl115.f k x.1 x.2.1 x.2.2.1 x.2.2.2.1 x.2.2.2.2.1 x.2.2.2.2.2.1 x.2.2.2.2.2.2⟩
noncomputable def cl115.d : FD U := ⟨(cl115.c 0).A, (cl115.c 0).R, [], fun k => [(116, [impl_IsRule.c k])], []⟩
noncomputable def slices_IndexFunc119_115.c (k : Nat) : Con U := ⟨[.c (.tree 82), .fn 115 []], [.c (.int .i64)], fun x => slices_IndexFunc119_115.f k x⟩
noncomputable def slices_IndexFunc119_115.d : FD U := ⟨(slices_IndexFunc119_115.c 0).A, (slices_IndexFunc119_115.c 0).R, [], fun k => [(115, [cl115.c k])], [⟨2, ⟨[0, 1, 7, 8], [.c (.tree 82), .fn 115 [], .c (.int .i64), .c (.int .i64)]⟩, fun k x => slices_IndexFunc119_115.l0 k x.1 x.2.1 x.2.2⟩]⟩
noncomputable def slices_ContainsFunc114_115.c (k : Nat) : Con U := ⟨[.c (.tree 82), .fn 115 []], [.c .bool], fun x => slices_ContainsFunc114_115.f k x⟩
noncomputable def slices_ContainsFunc114_115.d : FD U := ⟨(slices_ContainsFunc114_115.c 0).A, (slices_ContainsFunc114_115.c 0).R, [], fun k => [(119, [slices_IndexFunc119_115.c k])], []⟩
noncomputable def impl_IsPolicy.c (k : Nat) : Con U := ⟨[.agg [.int .i64, .tree 82]], [.c .bool], fun x => impl_IsPolicy.f k x.1 x.2⟩
noncomputable def impl_IsPolicy.d : FD U := ⟨(impl_IsPolicy.c 0).A, (impl_IsPolicy.c 0).R, [], fun k => [(104, [impl_InRange.c k]), (114, [slices_ContainsFunc114_115.c k])], []⟩
noncomputable def impl_IsEpoch.c (k : Nat) : Con U := ⟨[.agg [.int .i64, .int .i64, .tree 75, .int .i64, .tree 82]], [.c .bool], fun x => impl_IsEpoch.f k x.1 x.2.1 x.2.2.1 x.2.2.2.1 x.2.2.2.2⟩
noncomputable def impl_IsEpoch.d : FD U := ⟨(impl_IsEpoch.c 0).A, (impl_IsEpoch.c 0).R, [], fun k => [(104, [impl_InRange.c k]), (105, [impl_IsTime.c k]), (106, [impl_ArePairs.c k]), (107, [impl_IsPolicy.c k])], []⟩
noncomputable def impl_AreEpochs.c (k : Nat) : Con U := ⟨[.c (.tree 115)], [.c .bool], fun x => impl_AreEpochs.f k x⟩
noncomputable def impl_AreEpochs.d : FD U := ⟨(impl_AreEpochs.c 0).A, (impl_AreEpochs.c 0).R, [], fun k => [(93, [impl_IsEpoch.c k])], [⟨2, ⟨[0, 5, 6, 7], [.c (.tree 115), .c (.tree 115), .c (.int .i64), .c (.int .i64)]⟩, fun k x => impl_AreEpochs.l0 k x.1 x.2.1 x.2.2.1 x.2.2.2⟩]⟩
noncomputable def impl_PublishEpoch.c (k : Nat) : Con U := ⟨[.c (.tree 115), .c (.tree 75), .c (.tree 82), .c (.int .i64)], [.c (.own 115), .c .bool], fun x => impl_PublishEpoch.f k x.1 x.2.1 x.2.2.1 x.2.2.2⟩
noncomputable def impl_PublishEpoch.d : FD U := ⟨(impl_PublishEpoch.c 0).A, (impl_PublishEpoch.c 0).R, [], fun k => [(71, [impl_NewestNumber.c k]), (69, [impl_copyEpochs.c k]), (72, [impl_copyEpoch.c k]), (73, [impl_AreEpochs.c k])], []⟩
noncomputable def impl_CenterPublish.c (k : Nat) : Con U := ⟨[.agg [.tree 117, .tree 115, .tree 121, .tree 125, .int .i64, .tree 129], .c (.tree 75), .c (.tree 82), .c (.int .i64)], [.agg [.own 117, .own 115, .own 121, .own 125, .int .i64, .own 129], .c .bool], fun x => impl_CenterPublish.f k x.1 x.2.1 x.2.2.1 x.2.2.2.1 x.2.2.2.2.1 x.2.2.2.2.2.1 x.2.2.2.2.2.2.1 x.2.2.2.2.2.2.2.1 x.2.2.2.2.2.2.2.2⟩
noncomputable def impl_CenterPublish.d : FD U := ⟨(impl_CenterPublish.c 0).A, (impl_CenterPublish.c 0).R, [], fun k => [(34, [impl_copyCenter.c k]), (35, [impl_PublishEpoch.c k])], []⟩
noncomputable def laws_eqIntS.c (k : Nat) : Con U := ⟨[.c (.tree 3), .c (.tree 3)], [.c .bool], fun x => laws_eqIntS.f k x.1 x.2⟩
noncomputable def laws_eqIntS.d : FD U := ⟨(laws_eqIntS.c 0).A, (laws_eqIntS.c 0).R, [], fun k => [], [⟨4, ⟨[0, 1, 5], [.c (.tree 3), .c (.tree 3), .c (.int .i64)]⟩, fun k x => laws_eqIntS.l0 k x.1 x.2.1 x.2.2⟩]⟩
noncomputable def laws_eqIssuer.c (k : Nat) : Con U := ⟨[.agg [.int .i64, .tree 3, .int .i64], .agg [.int .i64, .tree 3, .int .i64]], [.c .bool], fun x => laws_eqIssuer.f k x.1 x.2.1 x.2.2.1 x.2.2.2.1 x.2.2.2.2.1 x.2.2.2.2.2⟩
noncomputable def laws_eqIssuer.d : FD U := ⟨(laws_eqIssuer.c 0).A, (laws_eqIssuer.c 0).R, [], fun k => [(94, [laws_eqIntS.c k])], []⟩
noncomputable def laws_eqIssuerS.c (k : Nat) : Con U := ⟨[.c (.tree 117), .c (.tree 117)], [.c .bool], fun x => laws_eqIssuerS.f k x.1 x.2⟩
noncomputable def laws_eqIssuerS.d : FD U := ⟨(laws_eqIssuerS.c 0).A, (laws_eqIssuerS.c 0).R, [], fun k => [(74, [laws_eqIssuer.c k])], [⟨4, ⟨[0, 1, 5], [.c (.tree 117), .c (.tree 117), .c (.int .i64)]⟩, fun k x => laws_eqIssuerS.l0 k x.1 x.2.1 x.2.2⟩]⟩
noncomputable def laws_eqIncludes.c (k : Nat) : Con U := ⟨[.agg [.int .i64, .int .i64], .agg [.int .i64, .int .i64]], [.c .bool], fun x => laws_eqIncludes.f x.1 x.2.1 x.2.2.1 x.2.2.2⟩
noncomputable def laws_eqIncludes.d : FD U := ⟨(laws_eqIncludes.c 0).A, (laws_eqIncludes.c 0).R, [], fun k => [], []⟩
noncomputable def laws_eqIncludesS.c (k : Nat) : Con U := ⟨[.c (.tree 75), .c (.tree 75)], [.c .bool], fun x => laws_eqIncludesS.f k x.1 x.2⟩
noncomputable def laws_eqIncludesS.d : FD U := ⟨(laws_eqIncludesS.c 0).A, (laws_eqIncludesS.c 0).R, [], fun k => [(41, [laws_eqIncludes.c k])], [⟨4, ⟨[0, 1, 5], [.c (.tree 75), .c (.tree 75), .c (.int .i64)]⟩, fun k x => laws_eqIncludesS.l0 k x.1 x.2.1 x.2.2⟩]⟩
noncomputable def laws_eqCondS.c (k : Nat) : Con U := ⟨[.c (.tree 80), .c (.tree 80)], [.c .bool], fun x => laws_eqCondS.f k x.1 x.2⟩
noncomputable def laws_eqCond.c (k : Nat) : Con U := ⟨[.agg [.int .i64, .int .i64, .int .i64, .tree 80], .agg [.int .i64, .int .i64, .int .i64, .tree 80]], [.c .bool], fun x => laws_eqCond.f k x.1 x.2.1 x.2.2.1 x.2.2.2.1 x.2.2.2.2.1 x.2.2.2.2.2.1 x.2.2.2.2.2.2.1 x.2.2.2.2.2.2.2⟩
noncomputable def laws_eqCondS.d : FD U := ⟨(laws_eqCondS.c 0).A, (laws_eqCondS.c 0).R, [], fun k => [(79, [laws_eqCond.c k])], [⟨4, ⟨[0, 1, 5], [.c (.tree 80), .c (.tree 80), .c (.int .i64)]⟩, fun k x => laws_eqCondS.l0 k x.1 x.2.1 x.2.2⟩]⟩
noncomputable def laws_eqCond.d : FD U := ⟨(laws_eqCond.c 0).A, (laws_eqCond.c 0).R, [], fun k => [(96, [laws_eqCondS.c k])], []⟩
noncomputable def laws_eqRule.c (k : Nat) : Con U := ⟨[.agg [.int .i64, .int .i64, .int .i64, .int .i64, .int .i64, .int .i64, .tree 80], .agg [.int .i64, .int .i64, .int .i64, .int .i64, .int .i64, .int .i64, .tree 80]], [.c .bool], fun x => laws_eqRule.f k x.1 x.2.1 x.2.2.1 x.2.2.2.1 x.2.2.2.2.1 x.2.2.2.2.2.1 x.2.2.2.2.2.2.1 x.2.2.2.2.2.2.2.1 x.2.2.2.2.2.2.2.2.1 x.2.2.2.2.2.2.2.2.2.1 x.2.2.2.2.2.2.2.2.2.2.1 x.2.2.2.2.2.2.2.2.2.2.2.1 x.2.2.2.2.2.2.2.2.2.2.2.2.1 x.2.2.2.2.2.2.2.2.2.2.2.2.2⟩
noncomputable def laws_eqRule.d : FD U := ⟨(laws_eqRule.c 0).A, (laws_eqRule.c 0).R, [], fun k => [(79, [laws_eqCond.c k])], []⟩
noncomputable def laws_eqRuleS.c (k : Nat) : Con U := ⟨[.c (.tree 82), .c (.tree 82)], [.c .bool], fun x => laws_eqRuleS.f k x.1 x.2⟩
noncomputable def laws_eqRuleS.d : FD U := ⟨(laws_eqRuleS.c 0).A, (laws_eqRuleS.c 0).R, [], fun k => [(42, [laws_eqRule.c k])], [⟨4, ⟨[0, 1, 5], [.c (.tree 82), .c (.tree 82), .c (.int .i64)]⟩, fun k x => laws_eqRuleS.l0 k x.1 x.2.1 x.2.2⟩]⟩
noncomputable def laws_eqPolicy.c (k : Nat) : Con U := ⟨[.agg [.int .i64, .tree 82], .agg [.int .i64, .tree 82]], [.c .bool], fun x => laws_eqPolicy.f k x.1 x.2.1 x.2.2.1 x.2.2.2⟩
noncomputable def laws_eqPolicy.d : FD U := ⟨(laws_eqPolicy.c 0).A, (laws_eqPolicy.c 0).R, [], fun k => [(14, [laws_eqRuleS.c k])], []⟩
noncomputable def laws_eqEpoch.c (k : Nat) : Con U := ⟨[.agg [.int .i64, .int .i64, .tree 75, .int .i64, .tree 82], .agg [.int .i64, .int .i64, .tree 75, .int .i64, .tree 82]], [.c .bool], fun x => laws_eqEpoch.f k x.1 x.2.1 x.2.2.1 x.2.2.2.1 x.2.2.2.2.1 x.2.2.2.2.2.1 x.2.2.2.2.2.2.1 x.2.2.2.2.2.2.2.1 x.2.2.2.2.2.2.2.2.1 x.2.2.2.2.2.2.2.2.2⟩
noncomputable def laws_eqEpoch.d : FD U := ⟨(laws_eqEpoch.c 0).A, (laws_eqEpoch.c 0).R, [], fun k => [(13, [laws_eqIncludesS.c k]), (95, [laws_eqPolicy.c k])], []⟩
noncomputable def laws_eqEpochS.c (k : Nat) : Con U := ⟨[.c (.tree 115), .c (.tree 115)], [.c .bool], fun x => laws_eqEpochS.f k x.1 x.2⟩
noncomputable def laws_eqEpochS.d : FD U := ⟨(laws_eqEpochS.c 0).A, (laws_eqEpochS.c 0).R, [], fun k => [(75, [laws_eqEpoch.c k])], [⟨4, ⟨[0, 1, 5], [.c (.tree 115), .c (.tree 115), .c (.int .i64)]⟩, fun k x => laws_eqEpochS.l0 k x.1 x.2.1 x.2.2⟩]⟩
noncomputable def laws_eqFact.c (k : Nat) : Con U := ⟨[.agg [.int .i64, .int .i64, .int .i64, .int .i64, .int .i64, .int .i64], .agg [.int .i64, .int .i64, .int .i64, .int .i64, .int .i64, .int .i64]], [.c .bool], fun x => laws_eqFact.f x.1 x.2.1 x.2.2.1 x.2.2.2.1 x.2.2.2.2.1 x.2.2.2.2.2.1 x.2.2.2.2.2.2.1 x.2.2.2.2.2.2.2.1 x.2.2.2.2.2.2.2.2.1 x.2.2.2.2.2.2.2.2.2.1 x.2.2.2.2.2.2.2.2.2.2.1 x.2.2.2.2.2.2.2.2.2.2.2⟩
noncomputable def laws_eqFact.d : FD U := ⟨(laws_eqFact.c 0).A, (laws_eqFact.c 0).R, [], fun k => [], []⟩
noncomputable def laws_eqFactS.c (k : Nat) : Con U := ⟨[.c (.tree 121), .c (.tree 121)], [.c .bool], fun x => laws_eqFactS.f k x.1 x.2⟩
noncomputable def laws_eqFactS.d : FD U := ⟨(laws_eqFactS.c 0).A, (laws_eqFactS.c 0).R, [], fun k => [(76, [laws_eqFact.c k])], [⟨4, ⟨[0, 1, 5], [.c (.tree 121), .c (.tree 121), .c (.int .i64)]⟩, fun k x => laws_eqFactS.l0 k x.1 x.2.1 x.2.2⟩]⟩
noncomputable def laws_eqRevoked.c (k : Nat) : Con U := ⟨[.agg [.int .i64, .int .i64], .agg [.int .i64, .int .i64]], [.c .bool], fun x => laws_eqRevoked.f x.1 x.2.1 x.2.2.1 x.2.2.2⟩
noncomputable def laws_eqRevoked.d : FD U := ⟨(laws_eqRevoked.c 0).A, (laws_eqRevoked.c 0).R, [], fun k => [], []⟩
noncomputable def laws_eqRevokedS.c (k : Nat) : Con U := ⟨[.c (.tree 125), .c (.tree 125)], [.c .bool], fun x => laws_eqRevokedS.f k x.1 x.2⟩
noncomputable def laws_eqRevokedS.d : FD U := ⟨(laws_eqRevokedS.c 0).A, (laws_eqRevokedS.c 0).R, [], fun k => [(77, [laws_eqRevoked.c k])], [⟨4, ⟨[0, 1, 5], [.c (.tree 125), .c (.tree 125), .c (.int .i64)]⟩, fun k x => laws_eqRevokedS.l0 k x.1 x.2.1 x.2.2⟩]⟩
noncomputable def laws_eqCert.c (k : Nat) : Con U := ⟨[.agg [.int .i64, .int .i64, .int .i64, .int .i64, .int .i64, .int .i64], .agg [.int .i64, .int .i64, .int .i64, .int .i64, .int .i64, .int .i64]], [.c .bool], fun x => laws_eqCert.f x.1 x.2.1 x.2.2.1 x.2.2.2.1 x.2.2.2.2.1 x.2.2.2.2.2.1 x.2.2.2.2.2.2.1 x.2.2.2.2.2.2.2.1 x.2.2.2.2.2.2.2.2.1 x.2.2.2.2.2.2.2.2.2.1 x.2.2.2.2.2.2.2.2.2.2.1 x.2.2.2.2.2.2.2.2.2.2.2⟩
noncomputable def laws_eqCert.d : FD U := ⟨(laws_eqCert.c 0).A, (laws_eqCert.c 0).R, [], fun k => [], []⟩
noncomputable def laws_eqCertS.c (k : Nat) : Con U := ⟨[.c (.tree 129), .c (.tree 129)], [.c .bool], fun x => laws_eqCertS.f k x.1 x.2⟩
noncomputable def laws_eqCertS.d : FD U := ⟨(laws_eqCertS.c 0).A, (laws_eqCertS.c 0).R, [], fun k => [(78, [laws_eqCert.c k])], [⟨4, ⟨[0, 1, 5], [.c (.tree 129), .c (.tree 129), .c (.int .i64)]⟩, fun k x => laws_eqCertS.l0 k x.1 x.2.1 x.2.2⟩]⟩
noncomputable def laws_eqCenter.c (k : Nat) : Con U := ⟨[.agg [.tree 117, .tree 115, .tree 121, .tree 125, .int .i64, .tree 129], .agg [.tree 117, .tree 115, .tree 121, .tree 125, .int .i64, .tree 129]], [.c .bool], fun x => laws_eqCenter.f k x.1 x.2.1 x.2.2.1 x.2.2.2.1 x.2.2.2.2.1 x.2.2.2.2.2.1 x.2.2.2.2.2.2.1 x.2.2.2.2.2.2.2.1 x.2.2.2.2.2.2.2.2.1 x.2.2.2.2.2.2.2.2.2.1 x.2.2.2.2.2.2.2.2.2.2.1 x.2.2.2.2.2.2.2.2.2.2.2⟩
noncomputable def laws_eqCenter.d : FD U := ⟨(laws_eqCenter.c 0).A, (laws_eqCenter.c 0).R, [], fun k => [(36, [laws_eqIssuerS.c k]), (37, [laws_eqEpochS.c k]), (38, [laws_eqFactS.c k]), (39, [laws_eqRevokedS.c k]), (40, [laws_eqCertS.c k])], []⟩
noncomputable def laws_markIntS.c (k : Nat) : Con U := ⟨[.c (.nest 3), .c (.int .i64)], [.c (.int .i64)], fun x => laws_markIntS.f k x.1 x.2⟩
noncomputable def laws_markIntS.d : FD U := ⟨(laws_markIntS.c 0).A, (laws_markIntS.c 0).R, [], fun k => [], [⟨2, ⟨[0, 1, 5], [.c (.nest 3), .c (.int .i64), .c (.int .i64)]⟩, fun k x => laws_markIntS.l0 k x.1 x.2.1 x.2.2⟩]⟩
noncomputable def laws_markIssuerS.c (k : Nat) : Con U := ⟨[.c (.nest 117), .c (.int .i64)], [.c (.int .i64)], fun x => laws_markIssuerS.f k x.1 x.2⟩
noncomputable def laws_markIssuerS.d : FD U := ⟨(laws_markIssuerS.c 0).A, (laws_markIssuerS.c 0).R, [], fun k => [(80, [laws_markIntS.c k])], [⟨2, ⟨[0, 1, 5], [.c (.nest 117), .c (.int .i64), .c (.int .i64)]⟩, fun k x => laws_markIssuerS.l0 k x.1 x.2.1 x.2.2⟩]⟩
noncomputable def laws_markIncludesS.c (k : Nat) : Con U := ⟨[.c (.nest 75), .c (.int .i64)], [.c (.int .i64)], fun x => laws_markIncludesS.f k x.1 x.2⟩
noncomputable def laws_markIncludesS.d : FD U := ⟨(laws_markIncludesS.c 0).A, (laws_markIncludesS.c 0).R, [], fun k => [], [⟨2, ⟨[0, 1, 5], [.c (.nest 75), .c (.int .i64), .c (.int .i64)]⟩, fun k x => laws_markIncludesS.l0 k x.1 x.2.1 x.2.2⟩]⟩
noncomputable def laws_markCondS.c (k : Nat) : Con U := ⟨[.c (.nest 80), .c (.int .i64)], [.c (.int .i64)], fun x => laws_markCondS.f k x.1 x.2⟩
noncomputable def laws_markCondS.d : FD U := ⟨(laws_markCondS.c 0).A, (laws_markCondS.c 0).R, [], fun k => [(48, [laws_markCondS.c k])], [⟨2, ⟨[0, 1, 5], [.c (.nest 80), .c (.int .i64), .c (.int .i64)]⟩, fun k x => laws_markCondS.l0 k x.1 x.2.1 x.2.2⟩]⟩
noncomputable def laws_markRuleS.c (k : Nat) : Con U := ⟨[.c (.nest 82), .c (.int .i64)], [.c (.int .i64)], fun x => laws_markRuleS.f k x.1 x.2⟩
noncomputable def laws_markRuleS.d : FD U := ⟨(laws_markRuleS.c 0).A, (laws_markRuleS.c 0).R, [], fun k => [(48, [laws_markCondS.c k])], [⟨2, ⟨[0, 1, 5], [.c (.nest 82), .c (.int .i64), .c (.int .i64)]⟩, fun k x => laws_markRuleS.l0 k x.1 x.2.1 x.2.2⟩]⟩
noncomputable def laws_markEpochS.c (k : Nat) : Con U := ⟨[.c (.nest 115), .c (.int .i64)], [.c (.int .i64)], fun x => laws_markEpochS.f k x.1 x.2⟩
noncomputable def laws_markEpochS.d : FD U := ⟨(laws_markEpochS.c 0).A, (laws_markEpochS.c 0).R, [], fun k => [(16, [laws_markIncludesS.c k]), (17, [laws_markRuleS.c k])], [⟨2, ⟨[0, 1, 5], [.c (.nest 115), .c (.int .i64), .c (.int .i64)]⟩, fun k x => laws_markEpochS.l0 k x.1 x.2.1 x.2.2⟩]⟩
noncomputable def laws_markFactS.c (k : Nat) : Con U := ⟨[.c (.nest 121), .c (.int .i64)], [.c (.int .i64)], fun x => laws_markFactS.f k x.1 x.2⟩
noncomputable def laws_markFactS.d : FD U := ⟨(laws_markFactS.c 0).A, (laws_markFactS.c 0).R, [], fun k => [], [⟨2, ⟨[0, 1, 5], [.c (.nest 121), .c (.int .i64), .c (.int .i64)]⟩, fun k x => laws_markFactS.l0 k x.1 x.2.1 x.2.2⟩]⟩
noncomputable def laws_markRevokedS.c (k : Nat) : Con U := ⟨[.c (.nest 125), .c (.int .i64)], [.c (.int .i64)], fun x => laws_markRevokedS.f k x.1 x.2⟩
noncomputable def laws_markRevokedS.d : FD U := ⟨(laws_markRevokedS.c 0).A, (laws_markRevokedS.c 0).R, [], fun k => [], [⟨2, ⟨[0, 1, 5], [.c (.nest 125), .c (.int .i64), .c (.int .i64)]⟩, fun k x => laws_markRevokedS.l0 k x.1 x.2.1 x.2.2⟩]⟩
noncomputable def laws_markCertS.c (k : Nat) : Con U := ⟨[.c (.nest 129), .c (.int .i64)], [.c (.int .i64)], fun x => laws_markCertS.f k x.1 x.2⟩
noncomputable def laws_markCertS.d : FD U := ⟨(laws_markCertS.c 0).A, (laws_markCertS.c 0).R, [], fun k => [], [⟨2, ⟨[0, 1, 5], [.c (.nest 129), .c (.int .i64), .c (.int .i64)]⟩, fun k x => laws_markCertS.l0 k x.1 x.2.1 x.2.2⟩]⟩
noncomputable def laws_markCenter.c (k : Nat) : Con U := ⟨[.wag [.nest 117, .nest 115, .nest 121, .nest 125, .int .i64, .nest 129], .c (.int .i64)], [.c (.int .i64)], fun x => laws_markCenter.f k x.1 x.2.1 x.2.2.1 x.2.2.2.1 x.2.2.2.2.1 x.2.2.2.2.2.1 x.2.2.2.2.2.2⟩
noncomputable def laws_markCenter.d : FD U := ⟨(laws_markCenter.c 0).A, (laws_markCenter.c 0).R, [], fun k => [(43, [laws_markIssuerS.c k]), (44, [laws_markEpochS.c k]), (45, [laws_markFactS.c k]), (46, [laws_markRevokedS.c k]), (47, [laws_markCertS.c k])], []⟩
noncomputable def laws_heldIntS.c (k : Nat) : Con U := ⟨[.c (.tree 3), .c (.int .i64)], [.c (.int .i64)], fun x => laws_heldIntS.f k x.1 x.2⟩
noncomputable def laws_heldIntS.d : FD U := ⟨(laws_heldIntS.c 0).A, (laws_heldIntS.c 0).R, [], fun k => [], [⟨2, ⟨[0, 1, 5], [.c (.tree 3), .c (.int .i64), .c (.int .i64)]⟩, fun k x => laws_heldIntS.l0 k x.1 x.2.1 x.2.2⟩]⟩
noncomputable def laws_heldIssuerS.c (k : Nat) : Con U := ⟨[.c (.tree 117), .c (.int .i64)], [.c (.int .i64)], fun x => laws_heldIssuerS.f k x.1 x.2⟩
noncomputable def laws_heldIssuerS.d : FD U := ⟨(laws_heldIssuerS.c 0).A, (laws_heldIssuerS.c 0).R, [], fun k => [(81, [laws_heldIntS.c k])], [⟨2, ⟨[0, 1, 5], [.c (.tree 117), .c (.int .i64), .c (.int .i64)]⟩, fun k x => laws_heldIssuerS.l0 k x.1 x.2.1 x.2.2⟩]⟩
noncomputable def laws_heldIncludesS.c (k : Nat) : Con U := ⟨[.c (.tree 75), .c (.int .i64)], [.c (.int .i64)], fun x => laws_heldIncludesS.f k x.1 x.2⟩
noncomputable def laws_heldIncludesS.d : FD U := ⟨(laws_heldIncludesS.c 0).A, (laws_heldIncludesS.c 0).R, [], fun k => [], [⟨2, ⟨[0, 1, 5], [.c (.tree 75), .c (.int .i64), .c (.int .i64)]⟩, fun k x => laws_heldIncludesS.l0 k x.1 x.2.1 x.2.2⟩]⟩
noncomputable def laws_heldCondS.c (k : Nat) : Con U := ⟨[.c (.tree 80), .c (.int .i64)], [.c (.int .i64)], fun x => laws_heldCondS.f k x.1 x.2⟩
noncomputable def laws_heldCondS.d : FD U := ⟨(laws_heldCondS.c 0).A, (laws_heldCondS.c 0).R, [], fun k => [(97, [laws_heldCondS.c k])], [⟨2, ⟨[0, 1, 5], [.c (.tree 80), .c (.int .i64), .c (.int .i64)]⟩, fun k x => laws_heldCondS.l0 k x.1 x.2.1 x.2.2⟩]⟩
noncomputable def laws_heldRuleS.c (k : Nat) : Con U := ⟨[.c (.tree 82), .c (.int .i64)], [.c (.int .i64)], fun x => laws_heldRuleS.f k x.1 x.2⟩
noncomputable def laws_heldRuleS.d : FD U := ⟨(laws_heldRuleS.c 0).A, (laws_heldRuleS.c 0).R, [], fun k => [(97, [laws_heldCondS.c k])], [⟨2, ⟨[0, 1, 5], [.c (.tree 82), .c (.int .i64), .c (.int .i64)]⟩, fun k x => laws_heldRuleS.l0 k x.1 x.2.1 x.2.2⟩]⟩
noncomputable def laws_heldEpochS.c (k : Nat) : Con U := ⟨[.c (.tree 115), .c (.int .i64)], [.c (.int .i64)], fun x => laws_heldEpochS.f k x.1 x.2⟩
noncomputable def laws_heldEpochS.d : FD U := ⟨(laws_heldEpochS.c 0).A, (laws_heldEpochS.c 0).R, [], fun k => [(82, [laws_heldIncludesS.c k]), (83, [laws_heldRuleS.c k])], [⟨2, ⟨[0, 1, 5], [.c (.tree 115), .c (.int .i64), .c (.int .i64)]⟩, fun k x => laws_heldEpochS.l0 k x.1 x.2.1 x.2.2⟩]⟩
noncomputable def laws_heldFactS.c (k : Nat) : Con U := ⟨[.c (.tree 121), .c (.int .i64)], [.c (.int .i64)], fun x => laws_heldFactS.f k x.1 x.2⟩
noncomputable def laws_heldFactS.d : FD U := ⟨(laws_heldFactS.c 0).A, (laws_heldFactS.c 0).R, [], fun k => [], [⟨2, ⟨[0, 1, 5], [.c (.tree 121), .c (.int .i64), .c (.int .i64)]⟩, fun k x => laws_heldFactS.l0 k x.1 x.2.1 x.2.2⟩]⟩
noncomputable def laws_heldRevokedS.c (k : Nat) : Con U := ⟨[.c (.tree 125), .c (.int .i64)], [.c (.int .i64)], fun x => laws_heldRevokedS.f k x.1 x.2⟩
noncomputable def laws_heldRevokedS.d : FD U := ⟨(laws_heldRevokedS.c 0).A, (laws_heldRevokedS.c 0).R, [], fun k => [], [⟨2, ⟨[0, 1, 5], [.c (.tree 125), .c (.int .i64), .c (.int .i64)]⟩, fun k x => laws_heldRevokedS.l0 k x.1 x.2.1 x.2.2⟩]⟩
noncomputable def laws_heldCertS.c (k : Nat) : Con U := ⟨[.c (.tree 129), .c (.int .i64)], [.c (.int .i64)], fun x => laws_heldCertS.f k x.1 x.2⟩
noncomputable def laws_heldCertS.d : FD U := ⟨(laws_heldCertS.c 0).A, (laws_heldCertS.c 0).R, [], fun k => [], [⟨2, ⟨[0, 1, 5], [.c (.tree 129), .c (.int .i64), .c (.int .i64)]⟩, fun k x => laws_heldCertS.l0 k x.1 x.2.1 x.2.2⟩]⟩
noncomputable def laws_heldCenter.c (k : Nat) : Con U := ⟨[.agg [.tree 117, .tree 115, .tree 121, .tree 125, .int .i64, .tree 129], .c (.int .i64)], [.c (.int .i64)], fun x => laws_heldCenter.f k x.1 x.2.1 x.2.2.1 x.2.2.2.1 x.2.2.2.2.1 x.2.2.2.2.2.1 x.2.2.2.2.2.2⟩
noncomputable def laws_heldCenter.d : FD U := ⟨(laws_heldCenter.c 0).A, (laws_heldCenter.c 0).R, [], fun k => [(49, [laws_heldIssuerS.c k]), (50, [laws_heldEpochS.c k]), (51, [laws_heldFactS.c k]), (52, [laws_heldRevokedS.c k]), (53, [laws_heldCertS.c k])], []⟩
noncomputable def laws_FnExactCenterPublish.c (k : Nat) : Con U := ⟨[.agg [.tree 100, .tree 105, .tree 123, .tree 127, .int .i64, .tree 131], .c (.tree 77), .c (.tree 65), .c (.int .i64)], [.c .bool], fun x => laws_FnExactCenterPublish.f k x.1 x.2.1 x.2.2.1 x.2.2.2.1 x.2.2.2.2.1 x.2.2.2.2.2.1 x.2.2.2.2.2.2.1 x.2.2.2.2.2.2.2.1 x.2.2.2.2.2.2.2.2⟩
noncomputable def laws_FnExactCenterPublish.d : FD U := ⟨(laws_FnExactCenterPublish.c 0).A, (laws_FnExactCenterPublish.c 0).R, [], fun k => [(4, [laws_szCenter.c k]), (5, [laws_szIncludesS.c k]), (6, [laws_szRuleS.c k]), (8, [laws_toCenter.c k]), (9, [laws_toIncludesS.c k]), (10, [laws_toRuleS.c k]), (7, [spec_CenterPublish.c k]), (11, [impl_CenterPublish.c k]), (12, [laws_eqCenter.c k]), (13, [laws_eqIncludesS.c k]), (14, [laws_eqRuleS.c k]), (15, [laws_markCenter.c k]), (16, [laws_markIncludesS.c k]), (17, [laws_markRuleS.c k]), (18, [laws_heldCenter.c k])], []⟩
end Go.Proofs.YtlnimankbhcinaaGreat.QFnExactCenterPublish
