import Derived.Test.YthliecjiafjokaaGreatWV5
import Derived.Test.YthliecjiafjokaaGreatQFnExactCenterIssuex0
import Derived.Test.YthliecjiafjokaaGreatProg
/- The machine side of FnExactCenterIssue: each function does what its plain function tells. -/
namespace Go.Proofs.YthliecjiafjokaaGreat.QFnExactCenterIssue
open Go Go.RowKit Go.Proofs Go.Proofs.YthliecjiafjokaaGreatV Go.Proofs.YthliecjiafjokaaGreatW.PrintWords
set_option linter.unusedVariables false
set_option maxRecDepth 100000
def tyP : Nat → Pt
  | 3 => ⟨Int, (0 : Int)⟩
  | 50 => ⟨S50, z50⟩
  | 69 => ⟨(List Int), ([] : List Int)⟩
  | 71 => ⟨S71, z71⟩
  | 78 => ⟨S78, z78⟩
  | 86 => ⟨S86, z86⟩
  | 93 => ⟨S93, z93⟩
  | 96 => ⟨S96, z96⟩
  | 98 => ⟨S98, z98⟩
  | 100 => ⟨S100, z100⟩
  | 102 => ⟨S102, z102⟩
  | 104 => ⟨S104, z104⟩
  | 125 => ⟨S125, z125⟩
  | 128 => ⟨S128, z128⟩
  | 130 => ⟨S130, z130⟩
  | 136 => ⟨S136, z136⟩
  | 144 => ⟨S144, z144⟩
  | 146 => ⟨S146, z146⟩
  | _ => ⟨Unit, ()⟩
def tyF : Nat → Bool
  | 69 => false
  | 71 => false
  | 78 => false
  | 86 => false
  | 93 => false
  | 128 => false
  | 130 => false
  | 144 => false
  | 146 => false
  | _ => true
def tyL : Nat → Nat
  | 3 => 17592186044416
  | 50 => 2932031007402
  | 69 => 5864062014805
  | 71 => 3518437208883
  | 78 => 1954687338268
  | 86 => 3518437208883
  | 93 => 1954687338268
  | 96 => 2932031007402
  | 98 => 2932031007402
  | 100 => 8796093022208
  | 102 => 8796093022208
  | 104 => 2932031007402
  | 125 => 8796093022208
  | 128 => 2932031007402
  | 130 => 1954687338268
  | 136 => 8796093022208
  | 144 => 2932031007402
  | 146 => 1954687338268
  | _ => 0
def tyT : List (Nat × TY) := [(3, ⟨.int .i64, 1, 8, [.i .i64], false⟩), (22, ⟨.sl 71, 1, 24, [.n], false⟩), (23, ⟨.sl 78, 1, 24, [.n], false⟩), (24, ⟨.sl 98, 1, 24, [.n], false⟩), (25, ⟨.sl 102, 1, 24, [.n], false⟩), (26, ⟨.sl 104, 1, 24, [.n], false⟩), (28, ⟨.str [(0, 22), (1, 23), (2, 24), (3, 25), (4, 3), (5, 26)], 6, 128, [.n, .n, .n, .n, .i .i64, .n], false⟩), (30, ⟨.sl 86, 1, 24, [.n], false⟩), (31, ⟨.sl 93, 1, 24, [.n], false⟩), (32, ⟨.sl 96, 1, 24, [.n], false⟩), (33, ⟨.sl 100, 1, 24, [.n], false⟩), (34, ⟨.sl 50, 1, 24, [.n], false⟩), (36, ⟨.str [(0, 30), (1, 31), (2, 32), (3, 33), (4, 3), (5, 34)], 6, 128, [.n, .n, .n, .n, .i .i64, .n], false⟩), (50, ⟨.str [(0, 3), (1, 3), (2, 3), (3, 3), (4, 3), (5, 3)], 6, 48, [.i .i64, .i .i64, .i .i64, .i .i64, .i .i64, .i .i64], false⟩), (69, ⟨.sl 3, 1, 24, [.n], false⟩), (71, ⟨.str [(0, 3), (1, 69), (2, 3)], 3, 40, [.i .i64, .n, .i .i64], false⟩), (73, ⟨.sl 136, 1, 24, [.n], false⟩), (74, ⟨.sl 146, 1, 24, [.n], false⟩), (76, ⟨.str [(0, 3), (1, 74)], 2, 32, [.i .i64, .n], false⟩), (78, ⟨.str [(0, 3), (1, 3), (2, 73), (3, 76)], 5, 72, [.i .i64, .i .i64, .n, .i .i64, .n], false⟩), (86, ⟨.str [(0, 3), (1, 69), (2, 3)], 3, 40, [.i .i64, .n, .i .i64], false⟩), (88, ⟨.sl 125, 1, 24, [.n], false⟩), (89, ⟨.sl 130, 1, 24, [.n], false⟩), (91, ⟨.str [(0, 3), (1, 89)], 2, 32, [.i .i64, .n], false⟩), (93, ⟨.str [(0, 3), (1, 3), (2, 88), (3, 91)], 5, 72, [.i .i64, .i .i64, .n, .i .i64, .n], false⟩), (96, ⟨.str [(0, 3), (1, 3), (2, 3), (3, 3), (4, 3), (5, 3)], 6, 48, [.i .i64, .i .i64, .i .i64, .i .i64, .i .i64, .i .i64], false⟩), (98, ⟨.str [(0, 3), (1, 3), (2, 3), (3, 3), (4, 3), (5, 3)], 6, 48, [.i .i64, .i .i64, .i .i64, .i .i64, .i .i64, .i .i64], false⟩), (100, ⟨.str [(0, 3), (1, 3)], 2, 16, [.i .i64, .i .i64], false⟩), (102, ⟨.str [(0, 3), (1, 3)], 2, 16, [.i .i64, .i .i64], false⟩), (104, ⟨.str [(0, 3), (1, 3), (2, 3), (3, 3), (4, 3), (5, 3)], 6, 48, [.i .i64, .i .i64, .i .i64, .i .i64, .i .i64, .i .i64], false⟩), (125, ⟨.str [(0, 3), (1, 3)], 2, 16, [.i .i64, .i .i64], false⟩), (126, ⟨.sl 128, 1, 24, [.n], false⟩), (128, ⟨.str [(0, 3), (1, 3), (2, 3), (3, 126)], 4, 48, [.i .i64, .i .i64, .i .i64, .n], false⟩), (130, ⟨.str [(0, 3), (1, 3), (2, 3), (3, 128)], 7, 72, [.i .i64, .i .i64, .i .i64, .i .i64, .i .i64, .i .i64, .n], false⟩), (136, ⟨.str [(0, 3), (1, 3)], 2, 16, [.i .i64, .i .i64], false⟩), (142, ⟨.sl 144, 1, 24, [.n], false⟩), (144, ⟨.str [(0, 3), (1, 3), (2, 3), (3, 142)], 4, 48, [.i .i64, .i .i64, .i .i64, .n], false⟩), (146, ⟨.str [(0, 3), (1, 3), (2, 3), (3, 144)], 7, 72, [.i .i64, .i .i64, .i .i64, .i .i64, .i .i64, .i .i64, .n], false⟩), (150, ⟨.sl 69, 1, 24, [.n], false⟩)]
def tyE : List (KE tyP tyF) := [⟨3, (EL.int .i64 : EL (fun k => (tyP k).α) Int), EL.int_ok _ rfl _⟩, ⟨50, (EL.iso (EL.pair (EL.int .i64) (EL.pair (EL.int .i64) (EL.pair (EL.int .i64) (EL.pair (EL.int .i64) (EL.pair (EL.int .i64) (EL.int .i64)))))) (fun x => (⟨x.1, x.2.1, x.2.2.1, x.2.2.2.1, x.2.2.2.2.1, x.2.2.2.2.2⟩ : S50)) (fun x : S50 => (x.f0, x.f1, x.f2, x.f3, x.f4, x.f5)) : EL (fun k => (tyP k).α) S50), EL.iso_ok (EL.pair_ok (EL.int_ok _ rfl _) (EL.pair_ok (EL.int_ok _ rfl _) (EL.pair_ok (EL.int_ok _ rfl _) (EL.pair_ok (EL.int_ok _ rfl _) (EL.pair_ok (EL.int_ok _ rfl _) (EL.int_ok _ rfl _)))))) (fun _ => rfl)⟩, ⟨69, (EL.row 3 : EL (fun k => (tyP k).α) (List Int)), EL.row_ok _⟩, ⟨71, (EL.iso (EL.pair (EL.int .i64) (EL.pair (EL.row 3) (EL.int .i64))) (fun x => (⟨x.1, x.2.1, x.2.2⟩ : S71)) (fun x : S71 => (x.f0, x.f1, x.f2)) : EL (fun k => (tyP k).α) S71), EL.iso_ok (EL.pair_ok (EL.int_ok _ rfl _) (EL.pair_ok (EL.row_ok _) (EL.int_ok _ rfl _))) (fun _ => rfl)⟩, ⟨78, (EL.iso (EL.pair (EL.int .i64) (EL.pair (EL.int .i64) (EL.pair (EL.row 136) (EL.iso (EL.pair (EL.int .i64) (EL.row 146)) (fun x => (⟨x.1, x.2⟩ : S76)) (fun x : S76 => (x.f0, x.f1)))))) (fun x => (⟨x.1, x.2.1, x.2.2.1, x.2.2.2⟩ : S78)) (fun x : S78 => (x.f0, x.f1, x.f2, x.f3)) : EL (fun k => (tyP k).α) S78), EL.iso_ok (EL.pair_ok (EL.int_ok _ rfl _) (EL.pair_ok (EL.int_ok _ rfl _) (EL.pair_ok (EL.row_ok _) (EL.iso_ok (EL.pair_ok (EL.int_ok _ rfl _) (EL.row_ok _)) (fun _ => rfl))))) (fun _ => rfl)⟩, ⟨86, (EL.iso (EL.pair (EL.int .i64) (EL.pair (EL.row 3) (EL.int .i64))) (fun x => (⟨x.1, x.2.1, x.2.2⟩ : S86)) (fun x : S86 => (x.f0, x.f1, x.f2)) : EL (fun k => (tyP k).α) S86), EL.iso_ok (EL.pair_ok (EL.int_ok _ rfl _) (EL.pair_ok (EL.row_ok _) (EL.int_ok _ rfl _))) (fun _ => rfl)⟩, ⟨93, (EL.iso (EL.pair (EL.int .i64) (EL.pair (EL.int .i64) (EL.pair (EL.row 125) (EL.iso (EL.pair (EL.int .i64) (EL.row 130)) (fun x => (⟨x.1, x.2⟩ : S91)) (fun x : S91 => (x.f0, x.f1)))))) (fun x => (⟨x.1, x.2.1, x.2.2.1, x.2.2.2⟩ : S93)) (fun x : S93 => (x.f0, x.f1, x.f2, x.f3)) : EL (fun k => (tyP k).α) S93), EL.iso_ok (EL.pair_ok (EL.int_ok _ rfl _) (EL.pair_ok (EL.int_ok _ rfl _) (EL.pair_ok (EL.row_ok _) (EL.iso_ok (EL.pair_ok (EL.int_ok _ rfl _) (EL.row_ok _)) (fun _ => rfl))))) (fun _ => rfl)⟩, ⟨96, (EL.iso (EL.pair (EL.int .i64) (EL.pair (EL.int .i64) (EL.pair (EL.int .i64) (EL.pair (EL.int .i64) (EL.pair (EL.int .i64) (EL.int .i64)))))) (fun x => (⟨x.1, x.2.1, x.2.2.1, x.2.2.2.1, x.2.2.2.2.1, x.2.2.2.2.2⟩ : S96)) (fun x : S96 => (x.f0, x.f1, x.f2, x.f3, x.f4, x.f5)) : EL (fun k => (tyP k).α) S96), EL.iso_ok (EL.pair_ok (EL.int_ok _ rfl _) (EL.pair_ok (EL.int_ok _ rfl _) (EL.pair_ok (EL.int_ok _ rfl _) (EL.pair_ok (EL.int_ok _ rfl _) (EL.pair_ok (EL.int_ok _ rfl _) (EL.int_ok _ rfl _)))))) (fun _ => rfl)⟩, ⟨98, (EL.iso (EL.pair (EL.int .i64) (EL.pair (EL.int .i64) (EL.pair (EL.int .i64) (EL.pair (EL.int .i64) (EL.pair (EL.int .i64) (EL.int .i64)))))) (fun x => (⟨x.1, x.2.1, x.2.2.1, x.2.2.2.1, x.2.2.2.2.1, x.2.2.2.2.2⟩ : S98)) (fun x : S98 => (x.f0, x.f1, x.f2, x.f3, x.f4, x.f5)) : EL (fun k => (tyP k).α) S98), EL.iso_ok (EL.pair_ok (EL.int_ok _ rfl _) (EL.pair_ok (EL.int_ok _ rfl _) (EL.pair_ok (EL.int_ok _ rfl _) (EL.pair_ok (EL.int_ok _ rfl _) (EL.pair_ok (EL.int_ok _ rfl _) (EL.int_ok _ rfl _)))))) (fun _ => rfl)⟩, ⟨100, (EL.iso (EL.pair (EL.int .i64) (EL.int .i64)) (fun x => (⟨x.1, x.2⟩ : S100)) (fun x : S100 => (x.f0, x.f1)) : EL (fun k => (tyP k).α) S100), EL.iso_ok (EL.pair_ok (EL.int_ok _ rfl _) (EL.int_ok _ rfl _)) (fun _ => rfl)⟩, ⟨102, (EL.iso (EL.pair (EL.int .i64) (EL.int .i64)) (fun x => (⟨x.1, x.2⟩ : S102)) (fun x : S102 => (x.f0, x.f1)) : EL (fun k => (tyP k).α) S102), EL.iso_ok (EL.pair_ok (EL.int_ok _ rfl _) (EL.int_ok _ rfl _)) (fun _ => rfl)⟩, ⟨104, (EL.iso (EL.pair (EL.int .i64) (EL.pair (EL.int .i64) (EL.pair (EL.int .i64) (EL.pair (EL.int .i64) (EL.pair (EL.int .i64) (EL.int .i64)))))) (fun x => (⟨x.1, x.2.1, x.2.2.1, x.2.2.2.1, x.2.2.2.2.1, x.2.2.2.2.2⟩ : S104)) (fun x : S104 => (x.f0, x.f1, x.f2, x.f3, x.f4, x.f5)) : EL (fun k => (tyP k).α) S104), EL.iso_ok (EL.pair_ok (EL.int_ok _ rfl _) (EL.pair_ok (EL.int_ok _ rfl _) (EL.pair_ok (EL.int_ok _ rfl _) (EL.pair_ok (EL.int_ok _ rfl _) (EL.pair_ok (EL.int_ok _ rfl _) (EL.int_ok _ rfl _)))))) (fun _ => rfl)⟩, ⟨125, (EL.iso (EL.pair (EL.int .i64) (EL.int .i64)) (fun x => (⟨x.1, x.2⟩ : S125)) (fun x : S125 => (x.f0, x.f1)) : EL (fun k => (tyP k).α) S125), EL.iso_ok (EL.pair_ok (EL.int_ok _ rfl _) (EL.int_ok _ rfl _)) (fun _ => rfl)⟩, ⟨128, (EL.iso (EL.pair (EL.int .i64) (EL.pair (EL.int .i64) (EL.pair (EL.int .i64) (EL.row 128)))) (fun x => (⟨x.1, x.2.1, x.2.2.1, x.2.2.2⟩ : S128)) (fun x : S128 => (x.f0, x.f1, x.f2, x.f3)) : EL (fun k => (tyP k).α) S128), EL.iso_ok (EL.pair_ok (EL.int_ok _ rfl _) (EL.pair_ok (EL.int_ok _ rfl _) (EL.pair_ok (EL.int_ok _ rfl _) (EL.row_ok _)))) (fun _ => rfl)⟩, ⟨130, (EL.iso (EL.pair (EL.int .i64) (EL.pair (EL.int .i64) (EL.pair (EL.int .i64) (EL.iso (EL.pair (EL.int .i64) (EL.pair (EL.int .i64) (EL.pair (EL.int .i64) (EL.row 128)))) (fun x => (⟨x.1, x.2.1, x.2.2.1, x.2.2.2⟩ : S128)) (fun x : S128 => (x.f0, x.f1, x.f2, x.f3)))))) (fun x => (⟨x.1, x.2.1, x.2.2.1, x.2.2.2⟩ : S130)) (fun x : S130 => (x.f0, x.f1, x.f2, x.f3)) : EL (fun k => (tyP k).α) S130), EL.iso_ok (EL.pair_ok (EL.int_ok _ rfl _) (EL.pair_ok (EL.int_ok _ rfl _) (EL.pair_ok (EL.int_ok _ rfl _) (EL.iso_ok (EL.pair_ok (EL.int_ok _ rfl _) (EL.pair_ok (EL.int_ok _ rfl _) (EL.pair_ok (EL.int_ok _ rfl _) (EL.row_ok _)))) (fun _ => rfl))))) (fun _ => rfl)⟩, ⟨136, (EL.iso (EL.pair (EL.int .i64) (EL.int .i64)) (fun x => (⟨x.1, x.2⟩ : S136)) (fun x : S136 => (x.f0, x.f1)) : EL (fun k => (tyP k).α) S136), EL.iso_ok (EL.pair_ok (EL.int_ok _ rfl _) (EL.int_ok _ rfl _)) (fun _ => rfl)⟩, ⟨144, (EL.iso (EL.pair (EL.int .i64) (EL.pair (EL.int .i64) (EL.pair (EL.int .i64) (EL.row 144)))) (fun x => (⟨x.1, x.2.1, x.2.2.1, x.2.2.2⟩ : S144)) (fun x : S144 => (x.f0, x.f1, x.f2, x.f3)) : EL (fun k => (tyP k).α) S144), EL.iso_ok (EL.pair_ok (EL.int_ok _ rfl _) (EL.pair_ok (EL.int_ok _ rfl _) (EL.pair_ok (EL.int_ok _ rfl _) (EL.row_ok _)))) (fun _ => rfl)⟩, ⟨146, (EL.iso (EL.pair (EL.int .i64) (EL.pair (EL.int .i64) (EL.pair (EL.int .i64) (EL.iso (EL.pair (EL.int .i64) (EL.pair (EL.int .i64) (EL.pair (EL.int .i64) (EL.row 144)))) (fun x => (⟨x.1, x.2.1, x.2.2.1, x.2.2.2⟩ : S144)) (fun x : S144 => (x.f0, x.f1, x.f2, x.f3)))))) (fun x => (⟨x.1, x.2.1, x.2.2.1, x.2.2.2⟩ : S146)) (fun x : S146 => (x.f0, x.f1, x.f2, x.f3)) : EL (fun k => (tyP k).α) S146), EL.iso_ok (EL.pair_ok (EL.int_ok _ rfl _) (EL.pair_ok (EL.int_ok _ rfl _) (EL.pair_ok (EL.int_ok _ rfl _) (EL.iso_ok (EL.pair_ok (EL.int_ok _ rfl _) (EL.pair_ok (EL.int_ok _ rfl _) (EL.pair_ok (EL.int_ok _ rfl _) (EL.row_ok _)))) (fun _ => rfl))))) (fun _ => rfl)⟩]
def U : Uni := mkU tyP (findE tyE) tyF tyL (lookT tyT)
theorem PL : Plaw Tryz.prog U := plaw_of (findE_ok tyE) (by kernel_rfl)
theorem mx : Tryz.prog.follows .mixedOrders = true := by kernel_rfl
noncomputable def laws_szIntS.c (k : Nat) : Con U := ⟨[.c (.tree 3), .c (.int .i64)], [.c (.int .i64)], fun x => laws_szIntS.f x.1 x.2⟩
noncomputable def laws_szIntS.d : FD U := ⟨(laws_szIntS.c 0).A, (laws_szIntS.c 0).R, [], fun k => [], []⟩
noncomputable def laws_szIssuer.c (k : Nat) : Con U := ⟨[.agg [.int .i64, .tree 3, .int .i64], .c (.int .i64)], [.c (.int .i64)], fun x => laws_szIssuer.f x.1 x.2.1 x.2.2.1 x.2.2.2⟩
noncomputable def laws_szIssuer.d : FD U := ⟨(laws_szIssuer.c 0).A, (laws_szIssuer.c 0).R, [], fun k => [(71, [laws_szIntS.c k])], []⟩
noncomputable def laws_szIssuerS.c (k : Nat) : Con U := ⟨[.c (.tree 71), .c (.int .i64)], [.c (.int .i64)], fun x => laws_szIssuerS.f k x.1 x.2⟩
noncomputable def laws_szIssuerS.d : FD U := ⟨(laws_szIssuerS.c 0).A, (laws_szIssuerS.c 0).R, [], fun k => [(40, [laws_szIssuer.c k])], [⟨5, ⟨[0, 1, 5], [.c (.tree 71), .c (.int .i64), .c (.int .i64)]⟩, fun k x => laws_szIssuerS.l0 k x.1 x.2.1 x.2.2⟩]⟩
noncomputable def laws_szIncludesS.c (k : Nat) : Con U := ⟨[.c (.tree 136), .c (.int .i64)], [.c (.int .i64)], fun x => laws_szIncludesS.f x.1 x.2⟩
noncomputable def laws_szIncludesS.d : FD U := ⟨(laws_szIncludesS.c 0).A, (laws_szIncludesS.c 0).R, [], fun k => [], []⟩
noncomputable def laws_szCondS.c (k : Nat) : Con U := ⟨[.c (.tree 144), .c (.int .i64)], [.c (.int .i64)], fun x => laws_szCondS.f k x.1 x.2⟩
noncomputable def laws_szCond.c (k : Nat) : Con U := ⟨[.agg [.int .i64, .int .i64, .int .i64, .tree 144], .c (.int .i64)], [.c (.int .i64)], fun x => laws_szCond.f k x.1 x.2.1 x.2.2.1 x.2.2.2.1 x.2.2.2.2⟩
noncomputable def laws_szCondS.d : FD U := ⟨(laws_szCondS.c 0).A, (laws_szCondS.c 0).R, [], fun k => [(111, [laws_szCond.c k])], [⟨5, ⟨[0, 1, 5], [.c (.tree 144), .c (.int .i64), .c (.int .i64)]⟩, fun k x => laws_szCondS.l0 k x.1 x.2.1 x.2.2⟩]⟩
noncomputable def laws_szCond.d : FD U := ⟨(laws_szCond.c 0).A, (laws_szCond.c 0).R, [], fun k => [(115, [laws_szCondS.c k])], []⟩
noncomputable def laws_szRule.c (k : Nat) : Con U := ⟨[.agg [.int .i64, .int .i64, .int .i64, .int .i64, .int .i64, .int .i64, .tree 144], .c (.int .i64)], [.c (.int .i64)], fun x => laws_szRule.f k x.1 x.2.1 x.2.2.1 x.2.2.2.1 x.2.2.2.2.1 x.2.2.2.2.2.1 x.2.2.2.2.2.2.1 x.2.2.2.2.2.2.2⟩
noncomputable def laws_szRule.d : FD U := ⟨(laws_szRule.c 0).A, (laws_szRule.c 0).R, [], fun k => [(111, [laws_szCond.c k])], []⟩
noncomputable def laws_szRuleS.c (k : Nat) : Con U := ⟨[.c (.tree 146), .c (.int .i64)], [.c (.int .i64)], fun x => laws_szRuleS.f k x.1 x.2⟩
noncomputable def laws_szRuleS.d : FD U := ⟨(laws_szRuleS.c 0).A, (laws_szRuleS.c 0).R, [], fun k => [(103, [laws_szRule.c k])], [⟨5, ⟨[0, 1, 5], [.c (.tree 146), .c (.int .i64), .c (.int .i64)]⟩, fun k x => laws_szRuleS.l0 k x.1 x.2.1 x.2.2⟩]⟩
noncomputable def laws_szPolicy.c (k : Nat) : Con U := ⟨[.agg [.int .i64, .tree 146], .c (.int .i64)], [.c (.int .i64)], fun x => laws_szPolicy.f k x.1 x.2.1 x.2.2⟩
noncomputable def laws_szPolicy.d : FD U := ⟨(laws_szPolicy.c 0).A, (laws_szPolicy.c 0).R, [], fun k => [(93, [laws_szRuleS.c k])], []⟩
noncomputable def laws_szEpoch.c (k : Nat) : Con U := ⟨[.agg [.int .i64, .int .i64, .tree 136, .int .i64, .tree 146], .c (.int .i64)], [.c (.int .i64)], fun x => laws_szEpoch.f k x.1 x.2.1 x.2.2.1 x.2.2.2.1 x.2.2.2.2.1 x.2.2.2.2.2⟩
noncomputable def laws_szEpoch.d : FD U := ⟨(laws_szEpoch.c 0).A, (laws_szEpoch.c 0).R, [], fun k => [(72, [laws_szIncludesS.c k]), (73, [laws_szPolicy.c k])], []⟩
noncomputable def laws_szEpochS.c (k : Nat) : Con U := ⟨[.c (.tree 78), .c (.int .i64)], [.c (.int .i64)], fun x => laws_szEpochS.f k x.1 x.2⟩
noncomputable def laws_szEpochS.d : FD U := ⟨(laws_szEpochS.c 0).A, (laws_szEpochS.c 0).R, [], fun k => [(41, [laws_szEpoch.c k])], [⟨5, ⟨[0, 1, 5], [.c (.tree 78), .c (.int .i64), .c (.int .i64)]⟩, fun k x => laws_szEpochS.l0 k x.1 x.2.1 x.2.2⟩]⟩
noncomputable def laws_szFactS.c (k : Nat) : Con U := ⟨[.c (.tree 98), .c (.int .i64)], [.c (.int .i64)], fun x => laws_szFactS.f x.1 x.2⟩
noncomputable def laws_szFactS.d : FD U := ⟨(laws_szFactS.c 0).A, (laws_szFactS.c 0).R, [], fun k => [], []⟩
noncomputable def laws_szRevokedS.c (k : Nat) : Con U := ⟨[.c (.tree 102), .c (.int .i64)], [.c (.int .i64)], fun x => laws_szRevokedS.f x.1 x.2⟩
noncomputable def laws_szRevokedS.d : FD U := ⟨(laws_szRevokedS.c 0).A, (laws_szRevokedS.c 0).R, [], fun k => [], []⟩
noncomputable def laws_szCertS.c (k : Nat) : Con U := ⟨[.c (.tree 104), .c (.int .i64)], [.c (.int .i64)], fun x => laws_szCertS.f x.1 x.2⟩
noncomputable def laws_szCertS.d : FD U := ⟨(laws_szCertS.c 0).A, (laws_szCertS.c 0).R, [], fun k => [], []⟩
noncomputable def laws_szCenter.c (k : Nat) : Con U := ⟨[.agg [.tree 71, .tree 78, .tree 98, .tree 102, .int .i64, .tree 104], .c (.int .i64)], [.c (.int .i64)], fun x => laws_szCenter.f k x.1 x.2.1 x.2.2.1 x.2.2.2.1 x.2.2.2.2.1 x.2.2.2.2.2.1 x.2.2.2.2.2.2⟩
noncomputable def laws_szCenter.d : FD U := ⟨(laws_szCenter.c 0).A, (laws_szCenter.c 0).R, [], fun k => [(11, [laws_szIssuerS.c k]), (12, [laws_szEpochS.c k]), (13, [laws_szFactS.c k]), (14, [laws_szRevokedS.c k]), (15, [laws_szCertS.c k])], []⟩
noncomputable def laws_toIntS.c (k : Nat) : Con U := ⟨[.c (.tree 3)], [.c (.own 3)], fun x => laws_toIntS.f k x⟩
noncomputable def laws_toIntS.d : FD U := ⟨(laws_toIntS.c 0).A, (laws_toIntS.c 0).R, [], fun k => [], [⟨3, ⟨[0, 3, 4], [.c (.tree 3), .c (.own 3), .c (.int .i64)]⟩, fun k x => laws_toIntS.l0 k x.1 x.2.1 x.2.2⟩]⟩
noncomputable def laws_toIssuer.c (k : Nat) : Con U := ⟨[.agg [.int .i64, .tree 3, .int .i64]], [.agg [.int .i64, .own 3, .int .i64]], fun x => laws_toIssuer.f k x.1 x.2.1 x.2.2⟩
noncomputable def laws_toIssuer.d : FD U := ⟨(laws_toIssuer.c 0).A, (laws_toIssuer.c 0).R, [], fun k => [(80, [laws_toIntS.c k])], []⟩
noncomputable def laws_toIssuerS.c (k : Nat) : Con U := ⟨[.c (.tree 71)], [.c (.own 86)], fun x => laws_toIssuerS.f k x⟩
noncomputable def laws_toIssuerS.d : FD U := ⟨(laws_toIssuerS.c 0).A, (laws_toIssuerS.c 0).R, [], fun k => [(49, [laws_toIssuer.c k])], [⟨3, ⟨[0, 3, 4], [.c (.tree 71), .c (.own 86), .c (.int .i64)]⟩, fun k x => laws_toIssuerS.l0 k x.1 x.2.1 x.2.2⟩]⟩
noncomputable def laws_toIncludes.c (k : Nat) : Con U := ⟨[.agg [.int .i64, .int .i64]], [.agg [.int .i64, .int .i64]], fun x => laws_toIncludes.f x.1 x.2⟩
noncomputable def laws_toIncludes.d : FD U := ⟨(laws_toIncludes.c 0).A, (laws_toIncludes.c 0).R, [], fun k => [], []⟩
noncomputable def laws_toIncludesS.c (k : Nat) : Con U := ⟨[.c (.tree 136)], [.c (.own 125)], fun x => laws_toIncludesS.f k x⟩
noncomputable def laws_toIncludesS.d : FD U := ⟨(laws_toIncludesS.c 0).A, (laws_toIncludesS.c 0).R, [], fun k => [(96, [laws_toIncludes.c k])], [⟨3, ⟨[0, 3, 4], [.c (.tree 136), .c (.own 125), .c (.int .i64)]⟩, fun k x => laws_toIncludesS.l0 k x.1 x.2.1 x.2.2⟩]⟩
noncomputable def laws_toCondS.c (k : Nat) : Con U := ⟨[.c (.tree 144)], [.c (.own 128)], fun x => laws_toCondS.f k x⟩
noncomputable def laws_toCond.c (k : Nat) : Con U := ⟨[.agg [.int .i64, .int .i64, .int .i64, .tree 144]], [.agg [.int .i64, .int .i64, .int .i64, .own 128]], fun x => laws_toCond.f k x.1 x.2.1 x.2.2.1 x.2.2.2⟩
noncomputable def laws_toCondS.d : FD U := ⟨(laws_toCondS.c 0).A, (laws_toCondS.c 0).R, [], fun k => [(112, [laws_toCond.c k])], [⟨3, ⟨[0, 3, 4], [.c (.tree 144), .c (.own 128), .c (.int .i64)]⟩, fun k x => laws_toCondS.l0 k x.1 x.2.1 x.2.2⟩]⟩
noncomputable def laws_toCond.d : FD U := ⟨(laws_toCond.c 0).A, (laws_toCond.c 0).R, [], fun k => [(116, [laws_toCondS.c k])], []⟩
noncomputable def laws_toRule.c (k : Nat) : Con U := ⟨[.agg [.int .i64, .int .i64, .int .i64, .int .i64, .int .i64, .int .i64, .tree 144]], [.agg [.int .i64, .int .i64, .int .i64, .int .i64, .int .i64, .int .i64, .own 128]], fun x => laws_toRule.f k x.1 x.2.1 x.2.2.1 x.2.2.2.1 x.2.2.2.2.1 x.2.2.2.2.2.1 x.2.2.2.2.2.2⟩
noncomputable def laws_toRule.d : FD U := ⟨(laws_toRule.c 0).A, (laws_toRule.c 0).R, [], fun k => [(112, [laws_toCond.c k])], []⟩
noncomputable def laws_toRuleS.c (k : Nat) : Con U := ⟨[.c (.tree 146)], [.c (.own 130)], fun x => laws_toRuleS.f k x⟩
noncomputable def laws_toRuleS.d : FD U := ⟨(laws_toRuleS.c 0).A, (laws_toRuleS.c 0).R, [], fun k => [(106, [laws_toRule.c k])], [⟨3, ⟨[0, 3, 4], [.c (.tree 146), .c (.own 130), .c (.int .i64)]⟩, fun k x => laws_toRuleS.l0 k x.1 x.2.1 x.2.2⟩]⟩
noncomputable def laws_toPolicy.c (k : Nat) : Con U := ⟨[.agg [.int .i64, .tree 146]], [.agg [.int .i64, .own 130]], fun x => laws_toPolicy.f k x.1 x.2⟩
noncomputable def laws_toPolicy.d : FD U := ⟨(laws_toPolicy.c 0).A, (laws_toPolicy.c 0).R, [], fun k => [(97, [laws_toRuleS.c k])], []⟩
noncomputable def laws_toEpoch.c (k : Nat) : Con U := ⟨[.agg [.int .i64, .int .i64, .tree 136, .int .i64, .tree 146]], [.agg [.int .i64, .int .i64, .own 125, .int .i64, .own 130]], fun x => laws_toEpoch.f k x.1 x.2.1 x.2.2.1 x.2.2.2.1 x.2.2.2.2⟩
noncomputable def laws_toEpoch.d : FD U := ⟨(laws_toEpoch.c 0).A, (laws_toEpoch.c 0).R, [], fun k => [(81, [laws_toIncludesS.c k]), (82, [laws_toPolicy.c k])], []⟩
noncomputable def laws_toEpochS.c (k : Nat) : Con U := ⟨[.c (.tree 78)], [.c (.own 93)], fun x => laws_toEpochS.f k x⟩
noncomputable def laws_toEpochS.d : FD U := ⟨(laws_toEpochS.c 0).A, (laws_toEpochS.c 0).R, [], fun k => [(50, [laws_toEpoch.c k])], [⟨3, ⟨[0, 3, 4], [.c (.tree 78), .c (.own 93), .c (.int .i64)]⟩, fun k x => laws_toEpochS.l0 k x.1 x.2.1 x.2.2⟩]⟩
noncomputable def laws_toFact.c (k : Nat) : Con U := ⟨[.agg [.int .i64, .int .i64, .int .i64, .int .i64, .int .i64, .int .i64]], [.agg [.int .i64, .int .i64, .int .i64, .int .i64, .int .i64, .int .i64]], fun x => laws_toFact.f x.1 x.2.1 x.2.2.1 x.2.2.2.1 x.2.2.2.2.1 x.2.2.2.2.2⟩
noncomputable def laws_toFact.d : FD U := ⟨(laws_toFact.c 0).A, (laws_toFact.c 0).R, [], fun k => [], []⟩
noncomputable def laws_toFactS.c (k : Nat) : Con U := ⟨[.c (.tree 98)], [.c (.own 96)], fun x => laws_toFactS.f k x⟩
noncomputable def laws_toFactS.d : FD U := ⟨(laws_toFactS.c 0).A, (laws_toFactS.c 0).R, [], fun k => [(51, [laws_toFact.c k])], [⟨3, ⟨[0, 3, 4], [.c (.tree 98), .c (.own 96), .c (.int .i64)]⟩, fun k x => laws_toFactS.l0 k x.1 x.2.1 x.2.2⟩]⟩
noncomputable def laws_toRevoked.c (k : Nat) : Con U := ⟨[.agg [.int .i64, .int .i64]], [.agg [.int .i64, .int .i64]], fun x => laws_toRevoked.f x.1 x.2⟩
noncomputable def laws_toRevoked.d : FD U := ⟨(laws_toRevoked.c 0).A, (laws_toRevoked.c 0).R, [], fun k => [], []⟩
noncomputable def laws_toRevokedS.c (k : Nat) : Con U := ⟨[.c (.tree 102)], [.c (.own 100)], fun x => laws_toRevokedS.f k x⟩
noncomputable def laws_toRevokedS.d : FD U := ⟨(laws_toRevokedS.c 0).A, (laws_toRevokedS.c 0).R, [], fun k => [(52, [laws_toRevoked.c k])], [⟨3, ⟨[0, 3, 4], [.c (.tree 102), .c (.own 100), .c (.int .i64)]⟩, fun k x => laws_toRevokedS.l0 k x.1 x.2.1 x.2.2⟩]⟩
noncomputable def laws_toCert.c (k : Nat) : Con U := ⟨[.agg [.int .i64, .int .i64, .int .i64, .int .i64, .int .i64, .int .i64]], [.agg [.int .i64, .int .i64, .int .i64, .int .i64, .int .i64, .int .i64]], fun x => laws_toCert.f x.1 x.2.1 x.2.2.1 x.2.2.2.1 x.2.2.2.2.1 x.2.2.2.2.2⟩
noncomputable def laws_toCert.d : FD U := ⟨(laws_toCert.c 0).A, (laws_toCert.c 0).R, [], fun k => [], []⟩
noncomputable def laws_toCertS.c (k : Nat) : Con U := ⟨[.c (.tree 104)], [.c (.own 50)], fun x => laws_toCertS.f k x⟩
noncomputable def laws_toCertS.d : FD U := ⟨(laws_toCertS.c 0).A, (laws_toCertS.c 0).R, [], fun k => [(53, [laws_toCert.c k])], [⟨3, ⟨[0, 3, 4], [.c (.tree 104), .c (.own 50), .c (.int .i64)]⟩, fun k x => laws_toCertS.l0 k x.1 x.2.1 x.2.2⟩]⟩
noncomputable def laws_toCenter.c (k : Nat) : Con U := ⟨[.agg [.tree 71, .tree 78, .tree 98, .tree 102, .int .i64, .tree 104]], [.agg [.own 86, .own 93, .own 96, .own 100, .int .i64, .own 50]], fun x => laws_toCenter.f k x.1 x.2.1 x.2.2.1 x.2.2.2.1 x.2.2.2.2.1 x.2.2.2.2.2⟩
noncomputable def laws_toCenter.d : FD U := ⟨(laws_toCenter.c 0).A, (laws_toCenter.c 0).R, [], fun k => [(18, [laws_toIssuerS.c k]), (19, [laws_toEpochS.c k]), (20, [laws_toFactS.c k]), (21, [laws_toRevokedS.c k]), (22, [laws_toCertS.c k])], []⟩
noncomputable def spec_l8Copy.c (k : Nat) : Con U := ⟨[.c (.tree 86)], [.c (.own 86)], fun x => spec_l8Copy.f k x⟩
noncomputable def spec_l8Copy.d : FD U := ⟨(spec_l8Copy.c 0).A, (spec_l8Copy.c 0).R, [], fun k => [], [⟨3, ⟨[0, 3, 4], [.c (.tree 86), .c (.own 86), .c (.int .i64)]⟩, fun k x => spec_l8Copy.l0 k x.1 x.2.1 x.2.2⟩]⟩
noncomputable def spec_l15Copy.c (k : Nat) : Con U := ⟨[.agg [.int .i64, .int .i64, .int .i64, .tree 128]], [.agg [.int .i64, .int .i64, .int .i64, .own 128]], fun x => spec_l15Copy.f k x.1 x.2.1 x.2.2.1 x.2.2.2⟩
noncomputable def spec_l15Copy.d : FD U := ⟨(spec_l15Copy.c 0).A, (spec_l15Copy.c 0).R, [], fun k => [(104, [spec_l15Copy.c k])], [⟨3, ⟨[1, 2, 3, 4], [.box 128 [.int .i64, .int .i64, .int .i64, .tree 128], .box 128 [.int .i64, .int .i64, .int .i64, .own 128], .box 128 [.int .i64, .int .i64, .int .i64, .own 128], .c (.int .i64)]⟩, fun k x => spec_l15Copy.l0 k x.1 x.2.1 x.2.2.1 x.2.2.2.1 x.2.2.2.2.1 x.2.2.2.2.2.1 x.2.2.2.2.2.2.1 x.2.2.2.2.2.2.2.1 x.2.2.2.2.2.2.2.2.1 x.2.2.2.2.2.2.2.2.2.1 x.2.2.2.2.2.2.2.2.2.2.1 x.2.2.2.2.2.2.2.2.2.2.2.1 x.2.2.2.2.2.2.2.2.2.2.2.2⟩]⟩
noncomputable def spec_l19Copy.c (k : Nat) : Con U := ⟨[.agg [.int .i64, .tree 130]], [.agg [.int .i64, .own 130]], fun x => spec_l19Copy.f k x.1 x.2⟩
noncomputable def spec_l19Copy.d : FD U := ⟨(spec_l19Copy.c 0).A, (spec_l19Copy.c 0).R, [], fun k => [(104, [spec_l15Copy.c k])], [⟨3, ⟨[1, 2, 3, 4], [.box 91 [.int .i64, .tree 130], .box 91 [.int .i64, .own 130], .box 91 [.int .i64, .own 130], .c (.int .i64)]⟩, fun k x => spec_l19Copy.l0 k x.1 x.2.1 x.2.2.1 x.2.2.2.1 x.2.2.2.2.1 x.2.2.2.2.2.1 x.2.2.2.2.2.2⟩]⟩
noncomputable def spec_l24Copy.c (k : Nat) : Con U := ⟨[.agg [.int .i64, .int .i64, .tree 125, .int .i64, .tree 130]], [.agg [.int .i64, .int .i64, .own 125, .int .i64, .own 130]], fun x => spec_l24Copy.f k x.1 x.2.1 x.2.2.1 x.2.2.2.1 x.2.2.2.2⟩
noncomputable def spec_l24Copy.d : FD U := ⟨(spec_l24Copy.c 0).A, (spec_l24Copy.c 0).R, [], fun k => [(94, [spec_l19Copy.c k])], []⟩
noncomputable def spec_l24All.c (k : Nat) : Con U := ⟨[.c (.tree 93)], [.c (.own 93)], fun x => spec_l24All.f k x⟩
noncomputable def spec_l24All.d : FD U := ⟨(spec_l24All.c 0).A, (spec_l24All.c 0).R, [], fun k => [(74, [spec_l24Copy.c k])], [⟨3, ⟨[0, 3, 4], [.c (.tree 93), .c (.own 93), .c (.int .i64)]⟩, fun k x => spec_l24All.l0 k x.1 x.2.1 x.2.2⟩]⟩
noncomputable def spec_l7Copy.c (k : Nat) : Con U := ⟨[.c (.tree 96)], [.c (.own 96)], fun x => spec_l7Copy.f x⟩
noncomputable def spec_l7Copy.d : FD U := ⟨(spec_l7Copy.c 0).A, (spec_l7Copy.c 0).R, [], fun k => [], []⟩
noncomputable def spec_l28Copy.c (k : Nat) : Con U := ⟨[.agg [.tree 86, .tree 93, .tree 96, .tree 100, .int .i64, .tree 50]], [.agg [.own 86, .own 93, .own 96, .own 100, .int .i64, .own 50]], fun x => spec_l28Copy.f k x.1 x.2.1 x.2.2.1 x.2.2.2.1 x.2.2.2.2.1 x.2.2.2.2.2⟩
noncomputable def spec_l28Copy.d : FD U := ⟨(spec_l28Copy.c 0).A, (spec_l28Copy.c 0).R, [], fun k => [(42, [spec_l8Copy.c k]), (43, [spec_l24All.c k]), (44, [spec_l7Copy.c k])], []⟩
noncomputable def spec_l1In.c (k : Nat) : Con U := ⟨[.c (.int .i64), .c (.int .i64), .c (.int .i64)], [.c .bool], fun x => spec_l1In.f x.1 x.2.1 x.2.2⟩
noncomputable def spec_l1In.d : FD U := ⟨(spec_l1In.c 0).A, (spec_l1In.c 0).R, [], fun k => [], []⟩
noncomputable def spec_IsTime.c (k : Nat) : Con U := ⟨[.c (.int .i64)], [.c .bool], fun x => spec_IsTime.f x⟩
noncomputable def spec_IsTime.d : FD U := ⟨(spec_IsTime.c 0).A, (spec_IsTime.c 0).R, [], fun k => [(78, [spec_l1In.c k])], []⟩
noncomputable def spec_Min.c (k : Nat) : Con U := ⟨[.c (.int .i64), .c (.int .i64)], [.c (.int .i64)], fun x => spec_Min.f x.1 x.2⟩
noncomputable def spec_Min.d : FD U := ⟨(spec_Min.c 0).A, (spec_Min.c 0).R, [], fun k => [], []⟩
noncomputable def spec_EndOf.c (k : Nat) : Con U := ⟨[.c (.int .i64), .c (.int .i64)], [.c (.int .i64)], fun x => spec_EndOf.f x.1 x.2⟩
noncomputable def spec_EndOf.d : FD U := ⟨(spec_EndOf.c 0).A, (spec_EndOf.c 0).R, [], fun k => [(76, [spec_IsTime.c k]), (77, [spec_Min.c k])], []⟩
noncomputable def spec_Mod.c (k : Nat) : Con U := ⟨[.c (.int .i64), .c (.int .i64)], [.c (.int .i64)], fun x => spec_Mod.f x.1 x.2⟩
noncomputable def spec_Mod.d : FD U := ⟨(spec_Mod.c 0).A, (spec_Mod.c 0).R, [], fun k => [(78, [spec_l1In.c k])], []⟩
noncomputable def spec_Hash.c (k : Nat) : Con U := ⟨[.c (.tree 3)], [.c (.int .i64)], fun x => spec_Hash.f k x⟩
noncomputable def spec_Hash.d : FD U := ⟨(spec_Hash.c 0).A, (spec_Hash.c 0).R, [], fun k => [(105, [spec_Mod.c k])], [⟨3, ⟨[0, 3, 4], [.c (.tree 3), .c (.int .i64), .c (.int .i64)]⟩, fun k x => spec_Hash.l0 k x.1 x.2.1 x.2.2⟩]⟩
noncomputable def spec_KeyedHash.c (k : Nat) : Con U := ⟨[.c (.int .i64), .c (.tree 3)], [.c (.int .i64)], fun x => spec_KeyedHash.f k x.1 x.2⟩
noncomputable def spec_KeyedHash.d : FD U := ⟨(spec_KeyedHash.c 0).A, (spec_KeyedHash.c 0).R, [], fun k => [(95, [spec_Hash.c k])], []⟩
noncomputable def spec_MarkCert.c (k : Nat) : Con U := ⟨[.c (.int .i64), .agg [.int .i64, .int .i64, .int .i64, .int .i64, .int .i64, .int .i64]], [.agg [.int .i64, .int .i64, .int .i64, .int .i64, .int .i64, .int .i64]], fun x => spec_MarkCert.f k x.1 x.2.1 x.2.2.1 x.2.2.2.1 x.2.2.2.2.1 x.2.2.2.2.2.1 x.2.2.2.2.2.2⟩
noncomputable def spec_MarkCert.d : FD U := ⟨(spec_MarkCert.c 0).A, (spec_MarkCert.c 0).R, [], fun k => [(75, [spec_KeyedHash.c k])], []⟩
noncomputable def spec_IsValidKey.c (k : Nat) : Con U := ⟨[.c (.int .i64)], [.c .bool], fun x => spec_IsValidKey.f x⟩
noncomputable def spec_IsValidKey.d : FD U := ⟨(spec_IsValidKey.c 0).A, (spec_IsValidKey.c 0).R, [], fun k => [(78, [spec_l1In.c k])], []⟩
noncomputable def spec_IsName.c (k : Nat) : Con U := ⟨[.c (.int .i64)], [.c .bool], fun x => spec_IsName.f x⟩
noncomputable def spec_IsName.d : FD U := ⟨(spec_IsName.c 0).A, (spec_IsName.c 0).R, [], fun k => [(78, [spec_l1In.c k])], []⟩
noncomputable def spec_IsCert.c (k : Nat) : Con U := ⟨[.agg [.int .i64, .int .i64, .int .i64, .int .i64, .int .i64, .int .i64]], [.c .bool], fun x => spec_IsCert.f x.1 x.2.1 x.2.2.1 x.2.2.2.1 x.2.2.2.2.1 x.2.2.2.2.2⟩
noncomputable def spec_IsCert.d : FD U := ⟨(spec_IsCert.c 0).A, (spec_IsCert.c 0).R, [], fun k => [(78, [spec_l1In.c k]), (79, [spec_IsName.c k]), (47, [spec_IsValidKey.c k]), (76, [spec_IsTime.c k])], []⟩
noncomputable def spec_IssueCert.c (k : Nat) : Con U := ⟨[.c (.int .i64), .c (.int .i64), .c (.int .i64), .c (.int .i64), .c (.int .i64), .c (.int .i64)], [.agg [.int .i64, .int .i64, .int .i64, .int .i64, .int .i64, .int .i64], .c .bool], fun x => spec_IssueCert.f k x.1 x.2.1 x.2.2.1 x.2.2.2.1 x.2.2.2.2.1 x.2.2.2.2.2⟩
noncomputable def spec_IssueCert.d : FD U := ⟨(spec_IssueCert.c 0).A, (spec_IssueCert.c 0).R, [], fun k => [(46, [spec_EndOf.c k]), (45, [spec_MarkCert.c k]), (47, [spec_IsValidKey.c k]), (48, [spec_IsCert.c k])], []⟩
noncomputable def spec_CenterIssue.c (k : Nat) : Con U := ⟨[.agg [.tree 86, .tree 93, .tree 96, .tree 100, .int .i64, .tree 50], .c (.int .i64), .c (.int .i64), .c (.int .i64), .c (.int .i64)], [.agg [.own 86, .own 93, .own 96, .own 100, .int .i64, .own 50], .c (.int .i64)], fun x => spec_CenterIssue.f k x.1 x.2.1 x.2.2.1 x.2.2.2.1 x.2.2.2.2.1 x.2.2.2.2.2.1 x.2.2.2.2.2.2.1 x.2.2.2.2.2.2.2.1 x.2.2.2.2.2.2.2.2.1 x.2.2.2.2.2.2.2.2.2⟩
noncomputable def spec_CenterIssue.d : FD U := ⟨(spec_CenterIssue.c 0).A, (spec_CenterIssue.c 0).R, [], fun k => [(16, [spec_l28Copy.c k]), (17, [spec_IssueCert.c k])], []⟩
noncomputable def impl_copyCond.c (k : Nat) : Con U := ⟨[.agg [.int .i64, .int .i64, .int .i64, .tree 128]], [.agg [.int .i64, .int .i64, .int .i64, .own 128]], fun x => impl_copyCond.f k x.1 x.2.1 x.2.2.1 x.2.2.2⟩
noncomputable def impl_copyCond.d : FD U := ⟨(impl_copyCond.c 0).A, (impl_copyCond.c 0).R, [], fun k => [(113, [impl_copyCond.c k])], [⟨3, ⟨[2, 3, 14, 15, 16], [.box 128 [.int .i64, .int .i64, .int .i64, .own 128], .box 128 [.int .i64, .int .i64, .int .i64, .own 128], .c (.tree 128), .c (.int .i64), .c (.int .i64)]⟩, fun k x => impl_copyCond.l0 k x.1 x.2.1 x.2.2.1 x.2.2.2.1 x.2.2.2.2.1 x.2.2.2.2.2.1 x.2.2.2.2.2.2.1 x.2.2.2.2.2.2.2.1 x.2.2.2.2.2.2.2.2.1 x.2.2.2.2.2.2.2.2.2.1 x.2.2.2.2.2.2.2.2.2.2⟩]⟩
noncomputable def impl_copyRules.c (k : Nat) : Con U := ⟨[.c (.tree 130)], [.c (.own 130)], fun x => impl_copyRules.f k x⟩
noncomputable def impl_copyRules.d : FD U := ⟨(impl_copyRules.c 0).A, (impl_copyRules.c 0).R, [], fun k => [(113, [impl_copyCond.c k])], [⟨3, ⟨[3, 7, 8, 9], [.c (.own 130), .c (.tree 130), .c (.int .i64), .c (.int .i64)]⟩, fun k x => impl_copyRules.l0 k x.1 x.2.1 x.2.2.1 x.2.2.2⟩]⟩
noncomputable def impl_copyPolicy.c (k : Nat) : Con U := ⟨[.agg [.int .i64, .tree 130]], [.agg [.int .i64, .own 130]], fun x => impl_copyPolicy.f k x.1 x.2⟩
noncomputable def impl_copyPolicy.d : FD U := ⟨(impl_copyPolicy.c 0).A, (impl_copyPolicy.c 0).R, [], fun k => [(107, [impl_copyRules.c k])], []⟩
noncomputable def impl_copyEpoch.c (k : Nat) : Con U := ⟨[.agg [.int .i64, .int .i64, .tree 125, .int .i64, .tree 130]], [.agg [.int .i64, .int .i64, .own 125, .int .i64, .own 130]], fun x => impl_copyEpoch.f k x.1 x.2.1 x.2.2.1 x.2.2.2.1 x.2.2.2.2⟩
noncomputable def impl_copyEpoch.d : FD U := ⟨(impl_copyEpoch.c 0).A, (impl_copyEpoch.c 0).R, [], fun k => [(98, [impl_copyPolicy.c k])], []⟩
noncomputable def impl_copyEpochs.c (k : Nat) : Con U := ⟨[.c (.tree 93)], [.c (.own 93)], fun x => impl_copyEpochs.f k x⟩
noncomputable def impl_copyEpochs.d : FD U := ⟨(impl_copyEpochs.c 0).A, (impl_copyEpochs.c 0).R, [], fun k => [(83, [impl_copyEpoch.c k])], [⟨3, ⟨[3, 7, 8, 9], [.c (.own 93), .c (.tree 93), .c (.int .i64), .c (.int .i64)]⟩, fun k x => impl_copyEpochs.l0 k x.1 x.2.1 x.2.2.1 x.2.2.2⟩]⟩
noncomputable def impl_copyFacts.c (k : Nat) : Con U := ⟨[.c (.tree 96)], [.c (.own 96)], fun x => impl_copyFacts.f x⟩
noncomputable def impl_copyFacts.d : FD U := ⟨(impl_copyFacts.c 0).A, (impl_copyFacts.c 0).R, [], fun k => [], []⟩
noncomputable def impl_copyCenter.c (k : Nat) : Con U := ⟨[.agg [.tree 86, .tree 93, .tree 96, .tree 100, .int .i64, .tree 50]], [.agg [.own 86, .own 93, .own 96, .own 100, .int .i64, .own 50]], fun x => impl_copyCenter.f k x.1 x.2.1 x.2.2.1 x.2.2.2.1 x.2.2.2.2.1 x.2.2.2.2.2⟩
noncomputable def impl_copyCenter.d : FD U := ⟨(impl_copyCenter.c 0).A, (impl_copyCenter.c 0).R, [], fun k => [(54, [impl_copyEpochs.c k]), (55, [impl_copyFacts.c k])], [⟨3, ⟨[2, 3, 24, 25, 26], [.box 36 [.own 86, .own 93, .own 96, .own 100, .int .i64, .own 50], .box 36 [.own 86, .own 93, .own 96, .own 100, .int .i64, .own 50], .c (.tree 86), .c (.int .i64), .c (.int .i64)]⟩, fun k x => impl_copyCenter.l0 k x.1 x.2.1 x.2.2.1 x.2.2.2.1 x.2.2.2.2.1 x.2.2.2.2.2.1 x.2.2.2.2.2.2.1 x.2.2.2.2.2.2.2.1 x.2.2.2.2.2.2.2.2.1 x.2.2.2.2.2.2.2.2.2.1 x.2.2.2.2.2.2.2.2.2.2.1 x.2.2.2.2.2.2.2.2.2.2.2.1 x.2.2.2.2.2.2.2.2.2.2.2.2.1 x.2.2.2.2.2.2.2.2.2.2.2.2.2.1 x.2.2.2.2.2.2.2.2.2.2.2.2.2.2⟩]⟩
noncomputable def impl_InRange.c (k : Nat) : Con U := ⟨[.c (.int .i64), .c (.int .i64), .c (.int .i64)], [.c .bool], fun x => impl_InRange.f x.1 x.2.1 x.2.2⟩
noncomputable def impl_InRange.d : FD U := ⟨(impl_InRange.c 0).A, (impl_InRange.c 0).R, [], fun k => [], []⟩
noncomputable def impl_IsTime.c (k : Nat) : Con U := ⟨[.c (.int .i64)], [.c .bool], fun x => impl_IsTime.f x⟩
noncomputable def impl_IsTime.d : FD U := ⟨(impl_IsTime.c 0).A, (impl_IsTime.c 0).R, [], fun k => [(86, [impl_InRange.c k])], []⟩
noncomputable def impl_EndOf.c (k : Nat) : Con U := ⟨[.c (.int .i64), .c (.int .i64)], [.c (.int .i64)], fun x => impl_EndOf.f x.1 x.2⟩
noncomputable def impl_EndOf.d : FD U := ⟨(impl_EndOf.c 0).A, (impl_EndOf.c 0).R, [], fun k => [(85, [impl_IsTime.c k]), (86, [impl_InRange.c k])], []⟩
noncomputable def slices_Grow_int_int.c (k : Nat) : Con U := ⟨[.c (.nul 3), .c (.int .i64)], [.c (.own 3)], fun x => slices_Grow_int_int.f x.1 x.2⟩
noncomputable def slices_Concat100.c (k : Nat) : Con U := ⟨[.c (.tree 69)], [.c (.own 3)], fun x => slices_Concat100.f k x⟩
noncomputable def slices_Concat100.d : FD U := ⟨(slices_Concat100.c 0).A, (slices_Concat100.c 0).R, [], fun k => [(109, [slices_Grow_int_int.c k])], [⟨3, ⟨[0, 3, 9, 10, 11], [.c (.tree 69), .c (.int .i64), .c (.tree 69), .c (.int .i64), .c (.int .i64)]⟩, fun k x => slices_Concat100.l0 k x.1 x.2.1 x.2.2.1 x.2.2.2.1 x.2.2.2.2⟩, ⟨11, ⟨[6, 25, 26, 27], [.c (.own 3), .c (.tree 69), .c (.int .i64), .c (.int .i64)]⟩, fun k x => slices_Concat100.l1 k x.1 x.2.1 x.2.2.1 x.2.2.2⟩]⟩
noncomputable def impl_Mod.c (k : Nat) : Con U := ⟨[.c (.int .i64), .c (.int .i64)], [.c (.int .i64)], fun x => impl_Mod.f x.1 x.2⟩
noncomputable def impl_Mod.d : FD U := ⟨(impl_Mod.c 0).A, (impl_Mod.c 0).R, [], fun k => [(86, [impl_InRange.c k])], []⟩
noncomputable def impl_Hash.c (k : Nat) : Con U := ⟨[.c (.tree 3)], [.c (.int .i64)], fun x => impl_Hash.f k x⟩
noncomputable def impl_Hash.d : FD U := ⟨(impl_Hash.c 0).A, (impl_Hash.c 0).R, [], fun k => [(108, [impl_Mod.c k])], [⟨3, ⟨[3, 6, 7, 8], [.c (.int .i64), .c (.tree 3), .c (.int .i64), .c (.int .i64)]⟩, fun k x => impl_Hash.l0 k x.1 x.2.1 x.2.2.1 x.2.2.2⟩]⟩
noncomputable def impl_KeyedHash.c (k : Nat) : Con U := ⟨[.c (.int .i64), .c (.tree 3)], [.c (.int .i64)], fun x => impl_KeyedHash.f k x.1 x.2⟩
noncomputable def impl_KeyedHash.d : FD U := ⟨(impl_KeyedHash.c 0).A, (impl_KeyedHash.c 0).R, [], fun k => [(100, [slices_Concat100.c k]), (99, [impl_Hash.c k])], []⟩
noncomputable def impl_MarkCert.c (k : Nat) : Con U := ⟨[.c (.int .i64), .agg [.int .i64, .int .i64, .int .i64, .int .i64, .int .i64, .int .i64]], [.agg [.int .i64, .int .i64, .int .i64, .int .i64, .int .i64, .int .i64]], fun x => impl_MarkCert.f k x.1 x.2.1 x.2.2.1 x.2.2.2.1 x.2.2.2.2.1 x.2.2.2.2.2.1 x.2.2.2.2.2.2⟩
noncomputable def impl_MarkCert.d : FD U := ⟨(impl_MarkCert.c 0).A, (impl_MarkCert.c 0).R, [], fun k => [(84, [impl_KeyedHash.c k])], []⟩
noncomputable def impl_IsValidKey.c (k : Nat) : Con U := ⟨[.c (.int .i64)], [.c .bool], fun x => impl_IsValidKey.f x⟩
noncomputable def impl_IsValidKey.d : FD U := ⟨(impl_IsValidKey.c 0).A, (impl_IsValidKey.c 0).R, [], fun k => [(86, [impl_InRange.c k])], []⟩
noncomputable def impl_IsName.c (k : Nat) : Con U := ⟨[.c (.int .i64)], [.c .bool], fun x => impl_IsName.f x⟩
noncomputable def impl_IsName.d : FD U := ⟨(impl_IsName.c 0).A, (impl_IsName.c 0).R, [], fun k => [(86, [impl_InRange.c k])], []⟩
noncomputable def impl_IsCert.c (k : Nat) : Con U := ⟨[.agg [.int .i64, .int .i64, .int .i64, .int .i64, .int .i64, .int .i64]], [.c .bool], fun x => impl_IsCert.f x.1 x.2.1 x.2.2.1 x.2.2.2.1 x.2.2.2.2.1 x.2.2.2.2.2⟩
noncomputable def impl_IsCert.d : FD U := ⟨(impl_IsCert.c 0).A, (impl_IsCert.c 0).R, [], fun k => [(86, [impl_InRange.c k]), (87, [impl_IsName.c k]), (58, [impl_IsValidKey.c k]), (85, [impl_IsTime.c k])], []⟩
noncomputable def impl_IssueCert.c (k : Nat) : Con U := ⟨[.c (.int .i64), .c (.int .i64), .c (.int .i64), .c (.int .i64), .c (.int .i64), .c (.int .i64)], [.agg [.int .i64, .int .i64, .int .i64, .int .i64, .int .i64, .int .i64], .c .bool], fun x => impl_IssueCert.f k x.1 x.2.1 x.2.2.1 x.2.2.2.1 x.2.2.2.2.1 x.2.2.2.2.2⟩
noncomputable def impl_IssueCert.d : FD U := ⟨(impl_IssueCert.c 0).A, (impl_IssueCert.c 0).R, [], fun k => [(57, [impl_EndOf.c k]), (56, [impl_MarkCert.c k]), (58, [impl_IsValidKey.c k]), (59, [impl_IsCert.c k])], []⟩
noncomputable def impl_CenterIssue.c (k : Nat) : Con U := ⟨[.agg [.tree 86, .tree 93, .tree 96, .tree 100, .int .i64, .tree 50], .c (.int .i64), .c (.int .i64), .c (.int .i64), .c (.int .i64)], [.agg [.own 86, .own 93, .own 96, .own 100, .int .i64, .own 50], .c (.int .i64)], fun x => impl_CenterIssue.f k x.1 x.2.1 x.2.2.1 x.2.2.2.1 x.2.2.2.2.1 x.2.2.2.2.2.1 x.2.2.2.2.2.2.1 x.2.2.2.2.2.2.2.1 x.2.2.2.2.2.2.2.2.1 x.2.2.2.2.2.2.2.2.2⟩
noncomputable def impl_CenterIssue.d : FD U := ⟨(impl_CenterIssue.c 0).A, (impl_CenterIssue.c 0).R, [], fun k => [(23, [impl_copyCenter.c k]), (24, [impl_IssueCert.c k])], []⟩
noncomputable def laws_eqIntS.c (k : Nat) : Con U := ⟨[.c (.tree 3), .c (.tree 3)], [.c .bool], fun x => laws_eqIntS.f k x.1 x.2⟩
noncomputable def laws_eqIntS.d : FD U := ⟨(laws_eqIntS.c 0).A, (laws_eqIntS.c 0).R, [], fun k => [], [⟨4, ⟨[0, 1, 5], [.c (.tree 3), .c (.tree 3), .c (.int .i64)]⟩, fun k x => laws_eqIntS.l0 k x.1 x.2.1 x.2.2⟩]⟩
noncomputable def laws_eqIssuer.c (k : Nat) : Con U := ⟨[.agg [.int .i64, .tree 3, .int .i64], .agg [.int .i64, .tree 3, .int .i64]], [.c .bool], fun x => laws_eqIssuer.f k x.1 x.2.1 x.2.2.1 x.2.2.2.1 x.2.2.2.2.1 x.2.2.2.2.2⟩
noncomputable def laws_eqIssuer.d : FD U := ⟨(laws_eqIssuer.c 0).A, (laws_eqIssuer.c 0).R, [], fun k => [(88, [laws_eqIntS.c k])], []⟩
noncomputable def laws_eqIssuerS.c (k : Nat) : Con U := ⟨[.c (.tree 86), .c (.tree 86)], [.c .bool], fun x => laws_eqIssuerS.f k x.1 x.2⟩
noncomputable def laws_eqIssuerS.d : FD U := ⟨(laws_eqIssuerS.c 0).A, (laws_eqIssuerS.c 0).R, [], fun k => [(60, [laws_eqIssuer.c k])], [⟨4, ⟨[0, 1, 5], [.c (.tree 86), .c (.tree 86), .c (.int .i64)]⟩, fun k x => laws_eqIssuerS.l0 k x.1 x.2.1 x.2.2⟩]⟩
noncomputable def laws_eqIncludes.c (k : Nat) : Con U := ⟨[.agg [.int .i64, .int .i64], .agg [.int .i64, .int .i64]], [.c .bool], fun x => laws_eqIncludes.f x.1 x.2.1 x.2.2.1 x.2.2.2⟩
noncomputable def laws_eqIncludes.d : FD U := ⟨(laws_eqIncludes.c 0).A, (laws_eqIncludes.c 0).R, [], fun k => [], []⟩
noncomputable def laws_eqIncludesS.c (k : Nat) : Con U := ⟨[.c (.tree 125), .c (.tree 125)], [.c .bool], fun x => laws_eqIncludesS.f k x.1 x.2⟩
noncomputable def laws_eqIncludesS.d : FD U := ⟨(laws_eqIncludesS.c 0).A, (laws_eqIncludesS.c 0).R, [], fun k => [(101, [laws_eqIncludes.c k])], [⟨4, ⟨[0, 1, 5], [.c (.tree 125), .c (.tree 125), .c (.int .i64)]⟩, fun k x => laws_eqIncludesS.l0 k x.1 x.2.1 x.2.2⟩]⟩
noncomputable def laws_eqCondS.c (k : Nat) : Con U := ⟨[.c (.tree 128), .c (.tree 128)], [.c .bool], fun x => laws_eqCondS.f k x.1 x.2⟩
noncomputable def laws_eqCond.c (k : Nat) : Con U := ⟨[.agg [.int .i64, .int .i64, .int .i64, .tree 128], .agg [.int .i64, .int .i64, .int .i64, .tree 128]], [.c .bool], fun x => laws_eqCond.f k x.1 x.2.1 x.2.2.1 x.2.2.2.1 x.2.2.2.2.1 x.2.2.2.2.2.1 x.2.2.2.2.2.2.1 x.2.2.2.2.2.2.2⟩
noncomputable def laws_eqCondS.d : FD U := ⟨(laws_eqCondS.c 0).A, (laws_eqCondS.c 0).R, [], fun k => [(114, [laws_eqCond.c k])], [⟨4, ⟨[0, 1, 5], [.c (.tree 128), .c (.tree 128), .c (.int .i64)]⟩, fun k x => laws_eqCondS.l0 k x.1 x.2.1 x.2.2⟩]⟩
noncomputable def laws_eqCond.d : FD U := ⟨(laws_eqCond.c 0).A, (laws_eqCond.c 0).R, [], fun k => [(117, [laws_eqCondS.c k])], []⟩
noncomputable def laws_eqRule.c (k : Nat) : Con U := ⟨[.agg [.int .i64, .int .i64, .int .i64, .int .i64, .int .i64, .int .i64, .tree 128], .agg [.int .i64, .int .i64, .int .i64, .int .i64, .int .i64, .int .i64, .tree 128]], [.c .bool], fun x => laws_eqRule.f k x.1 x.2.1 x.2.2.1 x.2.2.2.1 x.2.2.2.2.1 x.2.2.2.2.2.1 x.2.2.2.2.2.2.1 x.2.2.2.2.2.2.2.1 x.2.2.2.2.2.2.2.2.1 x.2.2.2.2.2.2.2.2.2.1 x.2.2.2.2.2.2.2.2.2.2.1 x.2.2.2.2.2.2.2.2.2.2.2.1 x.2.2.2.2.2.2.2.2.2.2.2.2.1 x.2.2.2.2.2.2.2.2.2.2.2.2.2⟩
noncomputable def laws_eqRule.d : FD U := ⟨(laws_eqRule.c 0).A, (laws_eqRule.c 0).R, [], fun k => [(114, [laws_eqCond.c k])], []⟩
noncomputable def laws_eqRuleS.c (k : Nat) : Con U := ⟨[.c (.tree 130), .c (.tree 130)], [.c .bool], fun x => laws_eqRuleS.f k x.1 x.2⟩
noncomputable def laws_eqRuleS.d : FD U := ⟨(laws_eqRuleS.c 0).A, (laws_eqRuleS.c 0).R, [], fun k => [(110, [laws_eqRule.c k])], [⟨4, ⟨[0, 1, 5], [.c (.tree 130), .c (.tree 130), .c (.int .i64)]⟩, fun k x => laws_eqRuleS.l0 k x.1 x.2.1 x.2.2⟩]⟩
noncomputable def laws_eqPolicy.c (k : Nat) : Con U := ⟨[.agg [.int .i64, .tree 130], .agg [.int .i64, .tree 130]], [.c .bool], fun x => laws_eqPolicy.f k x.1 x.2.1 x.2.2.1 x.2.2.2⟩
noncomputable def laws_eqPolicy.d : FD U := ⟨(laws_eqPolicy.c 0).A, (laws_eqPolicy.c 0).R, [], fun k => [(102, [laws_eqRuleS.c k])], []⟩
noncomputable def laws_eqEpoch.c (k : Nat) : Con U := ⟨[.agg [.int .i64, .int .i64, .tree 125, .int .i64, .tree 130], .agg [.int .i64, .int .i64, .tree 125, .int .i64, .tree 130]], [.c .bool], fun x => laws_eqEpoch.f k x.1 x.2.1 x.2.2.1 x.2.2.2.1 x.2.2.2.2.1 x.2.2.2.2.2.1 x.2.2.2.2.2.2.1 x.2.2.2.2.2.2.2.1 x.2.2.2.2.2.2.2.2.1 x.2.2.2.2.2.2.2.2.2⟩
noncomputable def laws_eqEpoch.d : FD U := ⟨(laws_eqEpoch.c 0).A, (laws_eqEpoch.c 0).R, [], fun k => [(89, [laws_eqIncludesS.c k]), (90, [laws_eqPolicy.c k])], []⟩
noncomputable def laws_eqEpochS.c (k : Nat) : Con U := ⟨[.c (.tree 93), .c (.tree 93)], [.c .bool], fun x => laws_eqEpochS.f k x.1 x.2⟩
noncomputable def laws_eqEpochS.d : FD U := ⟨(laws_eqEpochS.c 0).A, (laws_eqEpochS.c 0).R, [], fun k => [(61, [laws_eqEpoch.c k])], [⟨4, ⟨[0, 1, 5], [.c (.tree 93), .c (.tree 93), .c (.int .i64)]⟩, fun k x => laws_eqEpochS.l0 k x.1 x.2.1 x.2.2⟩]⟩
noncomputable def laws_eqFact.c (k : Nat) : Con U := ⟨[.agg [.int .i64, .int .i64, .int .i64, .int .i64, .int .i64, .int .i64], .agg [.int .i64, .int .i64, .int .i64, .int .i64, .int .i64, .int .i64]], [.c .bool], fun x => laws_eqFact.f x.1 x.2.1 x.2.2.1 x.2.2.2.1 x.2.2.2.2.1 x.2.2.2.2.2.1 x.2.2.2.2.2.2.1 x.2.2.2.2.2.2.2.1 x.2.2.2.2.2.2.2.2.1 x.2.2.2.2.2.2.2.2.2.1 x.2.2.2.2.2.2.2.2.2.2.1 x.2.2.2.2.2.2.2.2.2.2.2⟩
noncomputable def laws_eqFact.d : FD U := ⟨(laws_eqFact.c 0).A, (laws_eqFact.c 0).R, [], fun k => [], []⟩
noncomputable def laws_eqFactS.c (k : Nat) : Con U := ⟨[.c (.tree 96), .c (.tree 96)], [.c .bool], fun x => laws_eqFactS.f k x.1 x.2⟩
noncomputable def laws_eqFactS.d : FD U := ⟨(laws_eqFactS.c 0).A, (laws_eqFactS.c 0).R, [], fun k => [(62, [laws_eqFact.c k])], [⟨4, ⟨[0, 1, 5], [.c (.tree 96), .c (.tree 96), .c (.int .i64)]⟩, fun k x => laws_eqFactS.l0 k x.1 x.2.1 x.2.2⟩]⟩
noncomputable def laws_eqRevoked.c (k : Nat) : Con U := ⟨[.agg [.int .i64, .int .i64], .agg [.int .i64, .int .i64]], [.c .bool], fun x => laws_eqRevoked.f x.1 x.2.1 x.2.2.1 x.2.2.2⟩
noncomputable def laws_eqRevoked.d : FD U := ⟨(laws_eqRevoked.c 0).A, (laws_eqRevoked.c 0).R, [], fun k => [], []⟩
noncomputable def laws_eqRevokedS.c (k : Nat) : Con U := ⟨[.c (.tree 100), .c (.tree 100)], [.c .bool], fun x => laws_eqRevokedS.f k x.1 x.2⟩
noncomputable def laws_eqRevokedS.d : FD U := ⟨(laws_eqRevokedS.c 0).A, (laws_eqRevokedS.c 0).R, [], fun k => [(63, [laws_eqRevoked.c k])], [⟨4, ⟨[0, 1, 5], [.c (.tree 100), .c (.tree 100), .c (.int .i64)]⟩, fun k x => laws_eqRevokedS.l0 k x.1 x.2.1 x.2.2⟩]⟩
noncomputable def laws_eqCert.c (k : Nat) : Con U := ⟨[.agg [.int .i64, .int .i64, .int .i64, .int .i64, .int .i64, .int .i64], .agg [.int .i64, .int .i64, .int .i64, .int .i64, .int .i64, .int .i64]], [.c .bool], fun x => laws_eqCert.f x.1 x.2.1 x.2.2.1 x.2.2.2.1 x.2.2.2.2.1 x.2.2.2.2.2.1 x.2.2.2.2.2.2.1 x.2.2.2.2.2.2.2.1 x.2.2.2.2.2.2.2.2.1 x.2.2.2.2.2.2.2.2.2.1 x.2.2.2.2.2.2.2.2.2.2.1 x.2.2.2.2.2.2.2.2.2.2.2⟩
noncomputable def laws_eqCert.d : FD U := ⟨(laws_eqCert.c 0).A, (laws_eqCert.c 0).R, [], fun k => [], []⟩
noncomputable def laws_eqCertS.c (k : Nat) : Con U := ⟨[.c (.tree 50), .c (.tree 50)], [.c .bool], fun x => laws_eqCertS.f k x.1 x.2⟩
noncomputable def laws_eqCertS.d : FD U := ⟨(laws_eqCertS.c 0).A, (laws_eqCertS.c 0).R, [], fun k => [(64, [laws_eqCert.c k])], [⟨4, ⟨[0, 1, 5], [.c (.tree 50), .c (.tree 50), .c (.int .i64)]⟩, fun k x => laws_eqCertS.l0 k x.1 x.2.1 x.2.2⟩]⟩
noncomputable def laws_eqCenter.c (k : Nat) : Con U := ⟨[.agg [.tree 86, .tree 93, .tree 96, .tree 100, .int .i64, .tree 50], .agg [.tree 86, .tree 93, .tree 96, .tree 100, .int .i64, .tree 50]], [.c .bool], fun x => laws_eqCenter.f k x.1 x.2.1 x.2.2.1 x.2.2.2.1 x.2.2.2.2.1 x.2.2.2.2.2.1 x.2.2.2.2.2.2.1 x.2.2.2.2.2.2.2.1 x.2.2.2.2.2.2.2.2.1 x.2.2.2.2.2.2.2.2.2.1 x.2.2.2.2.2.2.2.2.2.2.1 x.2.2.2.2.2.2.2.2.2.2.2⟩
noncomputable def laws_eqCenter.d : FD U := ⟨(laws_eqCenter.c 0).A, (laws_eqCenter.c 0).R, [], fun k => [(25, [laws_eqIssuerS.c k]), (26, [laws_eqEpochS.c k]), (27, [laws_eqFactS.c k]), (28, [laws_eqRevokedS.c k]), (29, [laws_eqCertS.c k])], []⟩
noncomputable def laws_markIntS.c (k : Nat) : Con U := ⟨[.c (.nest 3), .c (.int .i64)], [.c (.int .i64)], fun x => laws_markIntS.f k x.1 x.2⟩
noncomputable def laws_markIntS.d : FD U := ⟨(laws_markIntS.c 0).A, (laws_markIntS.c 0).R, [], fun k => [], [⟨2, ⟨[0, 1, 5], [.c (.nest 3), .c (.int .i64), .c (.int .i64)]⟩, fun k x => laws_markIntS.l0 k x.1 x.2.1 x.2.2⟩]⟩
noncomputable def laws_markIssuerS.c (k : Nat) : Con U := ⟨[.c (.nest 86), .c (.int .i64)], [.c (.int .i64)], fun x => laws_markIssuerS.f k x.1 x.2⟩
noncomputable def laws_markIssuerS.d : FD U := ⟨(laws_markIssuerS.c 0).A, (laws_markIssuerS.c 0).R, [], fun k => [(65, [laws_markIntS.c k])], [⟨2, ⟨[0, 1, 5], [.c (.nest 86), .c (.int .i64), .c (.int .i64)]⟩, fun k x => laws_markIssuerS.l0 k x.1 x.2.1 x.2.2⟩]⟩
noncomputable def laws_markIncludesS.c (k : Nat) : Con U := ⟨[.c (.nest 125), .c (.int .i64)], [.c (.int .i64)], fun x => laws_markIncludesS.f k x.1 x.2⟩
noncomputable def laws_markIncludesS.d : FD U := ⟨(laws_markIncludesS.c 0).A, (laws_markIncludesS.c 0).R, [], fun k => [], [⟨2, ⟨[0, 1, 5], [.c (.nest 125), .c (.int .i64), .c (.int .i64)]⟩, fun k x => laws_markIncludesS.l0 k x.1 x.2.1 x.2.2⟩]⟩
noncomputable def laws_markCondS.c (k : Nat) : Con U := ⟨[.c (.nest 128), .c (.int .i64)], [.c (.int .i64)], fun x => laws_markCondS.f k x.1 x.2⟩
noncomputable def laws_markCondS.d : FD U := ⟨(laws_markCondS.c 0).A, (laws_markCondS.c 0).R, [], fun k => [(91, [laws_markCondS.c k])], [⟨2, ⟨[0, 1, 5], [.c (.nest 128), .c (.int .i64), .c (.int .i64)]⟩, fun k x => laws_markCondS.l0 k x.1 x.2.1 x.2.2⟩]⟩
noncomputable def laws_markRuleS.c (k : Nat) : Con U := ⟨[.c (.nest 130), .c (.int .i64)], [.c (.int .i64)], fun x => laws_markRuleS.f k x.1 x.2⟩
noncomputable def laws_markRuleS.d : FD U := ⟨(laws_markRuleS.c 0).A, (laws_markRuleS.c 0).R, [], fun k => [(91, [laws_markCondS.c k])], [⟨2, ⟨[0, 1, 5], [.c (.nest 130), .c (.int .i64), .c (.int .i64)]⟩, fun k x => laws_markRuleS.l0 k x.1 x.2.1 x.2.2⟩]⟩
noncomputable def laws_markEpochS.c (k : Nat) : Con U := ⟨[.c (.nest 93), .c (.int .i64)], [.c (.int .i64)], fun x => laws_markEpochS.f k x.1 x.2⟩
noncomputable def laws_markEpochS.d : FD U := ⟨(laws_markEpochS.c 0).A, (laws_markEpochS.c 0).R, [], fun k => [(66, [laws_markIncludesS.c k]), (67, [laws_markRuleS.c k])], [⟨2, ⟨[0, 1, 5], [.c (.nest 93), .c (.int .i64), .c (.int .i64)]⟩, fun k x => laws_markEpochS.l0 k x.1 x.2.1 x.2.2⟩]⟩
noncomputable def laws_markFactS.c (k : Nat) : Con U := ⟨[.c (.nest 96), .c (.int .i64)], [.c (.int .i64)], fun x => laws_markFactS.f k x.1 x.2⟩
noncomputable def laws_markFactS.d : FD U := ⟨(laws_markFactS.c 0).A, (laws_markFactS.c 0).R, [], fun k => [], [⟨2, ⟨[0, 1, 5], [.c (.nest 96), .c (.int .i64), .c (.int .i64)]⟩, fun k x => laws_markFactS.l0 k x.1 x.2.1 x.2.2⟩]⟩
noncomputable def laws_markRevokedS.c (k : Nat) : Con U := ⟨[.c (.nest 100), .c (.int .i64)], [.c (.int .i64)], fun x => laws_markRevokedS.f k x.1 x.2⟩
noncomputable def laws_markRevokedS.d : FD U := ⟨(laws_markRevokedS.c 0).A, (laws_markRevokedS.c 0).R, [], fun k => [], [⟨2, ⟨[0, 1, 5], [.c (.nest 100), .c (.int .i64), .c (.int .i64)]⟩, fun k x => laws_markRevokedS.l0 k x.1 x.2.1 x.2.2⟩]⟩
noncomputable def laws_markCertS.c (k : Nat) : Con U := ⟨[.c (.nest 50), .c (.int .i64)], [.c (.int .i64)], fun x => laws_markCertS.f k x.1 x.2⟩
noncomputable def laws_markCertS.d : FD U := ⟨(laws_markCertS.c 0).A, (laws_markCertS.c 0).R, [], fun k => [], [⟨2, ⟨[0, 1, 5], [.c (.nest 50), .c (.int .i64), .c (.int .i64)]⟩, fun k x => laws_markCertS.l0 k x.1 x.2.1 x.2.2⟩]⟩
noncomputable def laws_markCenter.c (k : Nat) : Con U := ⟨[.wag [.nest 86, .nest 93, .nest 96, .nest 100, .int .i64, .nest 50], .c (.int .i64)], [.c (.int .i64)], fun x => laws_markCenter.f k x.1 x.2.1 x.2.2.1 x.2.2.2.1 x.2.2.2.2.1 x.2.2.2.2.2.1 x.2.2.2.2.2.2⟩
noncomputable def laws_markCenter.d : FD U := ⟨(laws_markCenter.c 0).A, (laws_markCenter.c 0).R, [], fun k => [(30, [laws_markIssuerS.c k]), (31, [laws_markEpochS.c k]), (32, [laws_markFactS.c k]), (33, [laws_markRevokedS.c k]), (34, [laws_markCertS.c k])], []⟩
noncomputable def laws_heldIntS.c (k : Nat) : Con U := ⟨[.c (.tree 3), .c (.int .i64)], [.c (.int .i64)], fun x => laws_heldIntS.f k x.1 x.2⟩
noncomputable def laws_heldIntS.d : FD U := ⟨(laws_heldIntS.c 0).A, (laws_heldIntS.c 0).R, [], fun k => [], [⟨2, ⟨[0, 1, 5], [.c (.tree 3), .c (.int .i64), .c (.int .i64)]⟩, fun k x => laws_heldIntS.l0 k x.1 x.2.1 x.2.2⟩]⟩
noncomputable def laws_heldIssuerS.c (k : Nat) : Con U := ⟨[.c (.tree 86), .c (.int .i64)], [.c (.int .i64)], fun x => laws_heldIssuerS.f k x.1 x.2⟩
noncomputable def laws_heldIssuerS.d : FD U := ⟨(laws_heldIssuerS.c 0).A, (laws_heldIssuerS.c 0).R, [], fun k => [(68, [laws_heldIntS.c k])], [⟨2, ⟨[0, 1, 5], [.c (.tree 86), .c (.int .i64), .c (.int .i64)]⟩, fun k x => laws_heldIssuerS.l0 k x.1 x.2.1 x.2.2⟩]⟩
noncomputable def laws_heldIncludesS.c (k : Nat) : Con U := ⟨[.c (.tree 125), .c (.int .i64)], [.c (.int .i64)], fun x => laws_heldIncludesS.f k x.1 x.2⟩
noncomputable def laws_heldIncludesS.d : FD U := ⟨(laws_heldIncludesS.c 0).A, (laws_heldIncludesS.c 0).R, [], fun k => [], [⟨2, ⟨[0, 1, 5], [.c (.tree 125), .c (.int .i64), .c (.int .i64)]⟩, fun k x => laws_heldIncludesS.l0 k x.1 x.2.1 x.2.2⟩]⟩
noncomputable def laws_heldCondS.c (k : Nat) : Con U := ⟨[.c (.tree 128), .c (.int .i64)], [.c (.int .i64)], fun x => laws_heldCondS.f k x.1 x.2⟩
noncomputable def laws_heldCondS.d : FD U := ⟨(laws_heldCondS.c 0).A, (laws_heldCondS.c 0).R, [], fun k => [(92, [laws_heldCondS.c k])], [⟨2, ⟨[0, 1, 5], [.c (.tree 128), .c (.int .i64), .c (.int .i64)]⟩, fun k x => laws_heldCondS.l0 k x.1 x.2.1 x.2.2⟩]⟩
noncomputable def laws_heldRuleS.c (k : Nat) : Con U := ⟨[.c (.tree 130), .c (.int .i64)], [.c (.int .i64)], fun x => laws_heldRuleS.f k x.1 x.2⟩
noncomputable def laws_heldRuleS.d : FD U := ⟨(laws_heldRuleS.c 0).A, (laws_heldRuleS.c 0).R, [], fun k => [(92, [laws_heldCondS.c k])], [⟨2, ⟨[0, 1, 5], [.c (.tree 130), .c (.int .i64), .c (.int .i64)]⟩, fun k x => laws_heldRuleS.l0 k x.1 x.2.1 x.2.2⟩]⟩
noncomputable def laws_heldEpochS.c (k : Nat) : Con U := ⟨[.c (.tree 93), .c (.int .i64)], [.c (.int .i64)], fun x => laws_heldEpochS.f k x.1 x.2⟩
noncomputable def laws_heldEpochS.d : FD U := ⟨(laws_heldEpochS.c 0).A, (laws_heldEpochS.c 0).R, [], fun k => [(69, [laws_heldIncludesS.c k]), (70, [laws_heldRuleS.c k])], [⟨2, ⟨[0, 1, 5], [.c (.tree 93), .c (.int .i64), .c (.int .i64)]⟩, fun k x => laws_heldEpochS.l0 k x.1 x.2.1 x.2.2⟩]⟩
noncomputable def laws_heldFactS.c (k : Nat) : Con U := ⟨[.c (.tree 96), .c (.int .i64)], [.c (.int .i64)], fun x => laws_heldFactS.f k x.1 x.2⟩
noncomputable def laws_heldFactS.d : FD U := ⟨(laws_heldFactS.c 0).A, (laws_heldFactS.c 0).R, [], fun k => [], [⟨2, ⟨[0, 1, 5], [.c (.tree 96), .c (.int .i64), .c (.int .i64)]⟩, fun k x => laws_heldFactS.l0 k x.1 x.2.1 x.2.2⟩]⟩
noncomputable def laws_heldRevokedS.c (k : Nat) : Con U := ⟨[.c (.tree 100), .c (.int .i64)], [.c (.int .i64)], fun x => laws_heldRevokedS.f k x.1 x.2⟩
noncomputable def laws_heldRevokedS.d : FD U := ⟨(laws_heldRevokedS.c 0).A, (laws_heldRevokedS.c 0).R, [], fun k => [], [⟨2, ⟨[0, 1, 5], [.c (.tree 100), .c (.int .i64), .c (.int .i64)]⟩, fun k x => laws_heldRevokedS.l0 k x.1 x.2.1 x.2.2⟩]⟩
noncomputable def laws_heldCertS.c (k : Nat) : Con U := ⟨[.c (.tree 50), .c (.int .i64)], [.c (.int .i64)], fun x => laws_heldCertS.f k x.1 x.2⟩
noncomputable def laws_heldCertS.d : FD U := ⟨(laws_heldCertS.c 0).A, (laws_heldCertS.c 0).R, [], fun k => [], [⟨2, ⟨[0, 1, 5], [.c (.tree 50), .c (.int .i64), .c (.int .i64)]⟩, fun k x => laws_heldCertS.l0 k x.1 x.2.1 x.2.2⟩]⟩
noncomputable def laws_heldCenter.c (k : Nat) : Con U := ⟨[.agg [.tree 86, .tree 93, .tree 96, .tree 100, .int .i64, .tree 50], .c (.int .i64)], [.c (.int .i64)], fun x => laws_heldCenter.f k x.1 x.2.1 x.2.2.1 x.2.2.2.1 x.2.2.2.2.1 x.2.2.2.2.2.1 x.2.2.2.2.2.2⟩
noncomputable def laws_heldCenter.d : FD U := ⟨(laws_heldCenter.c 0).A, (laws_heldCenter.c 0).R, [], fun k => [(35, [laws_heldIssuerS.c k]), (36, [laws_heldEpochS.c k]), (37, [laws_heldFactS.c k]), (38, [laws_heldRevokedS.c k]), (39, [laws_heldCertS.c k])], []⟩
noncomputable def laws_FnExactCenterIssue.c (k : Nat) : Con U := ⟨[.agg [.tree 71, .tree 78, .tree 98, .tree 102, .int .i64, .tree 104], .c (.int .i64), .c (.int .i64), .c (.int .i64), .c (.int .i64)], [.c .bool], fun x => laws_FnExactCenterIssue.f k x.1 x.2.1 x.2.2.1 x.2.2.2.1 x.2.2.2.2.1 x.2.2.2.2.2.1 x.2.2.2.2.2.2.1 x.2.2.2.2.2.2.2.1 x.2.2.2.2.2.2.2.2.1 x.2.2.2.2.2.2.2.2.2⟩
noncomputable def laws_FnExactCenterIssue.d : FD U := ⟨(laws_FnExactCenterIssue.c 0).A, (laws_FnExactCenterIssue.c 0).R, [], fun k => [(4, [laws_szCenter.c k]), (6, [laws_toCenter.c k]), (5, [spec_CenterIssue.c k]), (7, [impl_CenterIssue.c k]), (8, [laws_eqCenter.c k]), (9, [laws_markCenter.c k]), (10, [laws_heldCenter.c k])], []⟩
end Go.Proofs.YthliecjiafjokaaGreat.QFnExactCenterIssue
