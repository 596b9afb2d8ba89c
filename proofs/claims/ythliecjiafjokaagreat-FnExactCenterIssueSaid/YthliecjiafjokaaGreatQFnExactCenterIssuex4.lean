import Derived.Test.YthliecjiafjokaaGreatQFnExactCenterIssuex1
/- The machine side of FnExactCenterIssue: each function does what its plain function tells. -/
namespace Go.Proofs.YthliecjiafjokaaGreat.QFnExactCenterIssue
open Go Go.RowKit Go.Proofs Go.Proofs.YthliecjiafjokaaGreatV Go.Proofs.YthliecjiafjokaaGreatW.PrintWords
set_option linter.unusedVariables false
set_option maxRecDepth 100000
theorem spec_l15Copy.t (k : Nat) (x : TL U.D (lvsL (spec_l15Copy.c 0).A)) : VT spec_l15Copy.d Tryz.f104 k x = spec_l15Copy.f (k + 1) x.1 x.2.1 x.2.2.1 x.2.2.2 := by kernel_rfl
theorem spec_l15Copy.s0' (k : Nat) (x1_0 : Int) (x1_1 : Int) (x1_2 : Int) (x1_3 : List S128) (x2_0 : Int) (x2_1 : Int) (x2_2 : Int) (x2_3 : List S128) (x3_0 : Int) (x3_1 : Int) (x3_2 : Int) (x3_3 : List S128) (x4 : Int) : VS spec_l15Copy.d Tryz.f104 k 0 ⟨[1, 2, 3, 4], [.box 128 [.int .i64, .int .i64, .int .i64, .tree 128], .box 128 [.int .i64, .int .i64, .int .i64, .own 128], .box 128 [.int .i64, .int .i64, .int .i64, .own 128], .c (.int .i64)]⟩ (x1_0, x1_1, x1_2, x1_3, x2_0, x2_1, x2_2, x2_3, x3_0, x3_1, x3_2, x3_3, x4) = spec_l15Copy.l0 (k + 1) x1_0 x1_1 x1_2 x1_3 x2_0 x2_1 x2_2 x2_3 x3_0 x3_1 x3_2 x3_3 x4 := Eq.trans (b := (if x4 < (x1_3.length : Int) then (if 0 ≤ x4 then (if x4 < (x1_3.length : Int) then ((spec_l15Copy.f k ((rd_T128 x1_3 x4).f0) ((rd_T128 x1_3 x4).f1) ((rd_T128 x1_3 x4).f2) ((rd_T128 x1_3 x4).f3)).bind fun t26 => (if x3_3.length < 2932031007402 then (spec_l15Copy.l0 k x1_0 x1_1 x1_2 x1_3 x2_0 x2_1 x2_2 x2_3 x3_0 x3_1 x3_2 (x3_3 ++ ([(⟨t26.1, t26.2.1, t26.2.2.1, t26.2.2.2⟩ : S128)] : List S128)) (wrap64 (x4 + 1))) else none)) else none) else none) else (some (x3_0, x3_1, x3_2, x3_3)) : Option (Int × Int × Int × (List S128)))) (by kernel_rfl) (ite_c (fun h0 => (ite_c (fun _ => (ite_l h0 rfl)) (fun _ => rfl))) (fun _ => rfl))
theorem spec_l15Copy.s0 (k : Nat) (x : TL U.D (lvsL [.box 128 [.int .i64, .int .i64, .int .i64, .tree 128], .box 128 [.int .i64, .int .i64, .int .i64, .own 128], .box 128 [.int .i64, .int .i64, .int .i64, .own 128], .c (.int .i64)])) : VS spec_l15Copy.d Tryz.f104 k 0 ⟨[1, 2, 3, 4], [.box 128 [.int .i64, .int .i64, .int .i64, .tree 128], .box 128 [.int .i64, .int .i64, .int .i64, .own 128], .box 128 [.int .i64, .int .i64, .int .i64, .own 128], .c (.int .i64)]⟩ x = spec_l15Copy.l0 (k + 1) x.1 x.2.1 x.2.2.1 x.2.2.2.1 x.2.2.2.2.1 x.2.2.2.2.2.1 x.2.2.2.2.2.2.1 x.2.2.2.2.2.2.2.1 x.2.2.2.2.2.2.2.2.1 x.2.2.2.2.2.2.2.2.2.1 x.2.2.2.2.2.2.2.2.2.2.1 x.2.2.2.2.2.2.2.2.2.2.2.1 x.2.2.2.2.2.2.2.2.2.2.2.2 := spec_l15Copy.s0' k x.1 x.2.1 x.2.2.1 x.2.2.2.1 x.2.2.2.2.1 x.2.2.2.2.2.1 x.2.2.2.2.2.2.1 x.2.2.2.2.2.2.2.1 x.2.2.2.2.2.2.2.2.1 x.2.2.2.2.2.2.2.2.2.1 x.2.2.2.2.2.2.2.2.2.2.1 x.2.2.2.2.2.2.2.2.2.2.2.1 x.2.2.2.2.2.2.2.2.2.2.2.2
theorem spec_l15Copy.i (k : Nat) : (VL spec_l15Copy.d Tryz.f104 k).map (·.1) = spec_l15Copy.d.K.map (·.id) := by kernel_rfl
theorem spec_l15Copy.o : stOk spec_l15Copy.d Tryz.f104 = true := by kernel_rfl
theorem spec_l19Copy.t (k : Nat) (x : TL U.D (lvsL (spec_l19Copy.c 0).A)) : VT spec_l19Copy.d Tryz.f94 k x = spec_l19Copy.f k x.1 x.2 := by kernel_rfl
theorem spec_l19Copy.s0' (k : Nat) (x1_0 : Int) (x1_1 : List S130) (x2_0 : Int) (x2_1 : List S130) (x3_0 : Int) (x3_1 : List S130) (x4 : Int) : VS spec_l19Copy.d Tryz.f94 k 0 ⟨[1, 2, 3, 4], [.box 91 [.int .i64, .tree 130], .box 91 [.int .i64, .own 130], .box 91 [.int .i64, .own 130], .c (.int .i64)]⟩ (x1_0, x1_1, x2_0, x2_1, x3_0, x3_1, x4) = spec_l19Copy.l0 (k + 1) x1_0 x1_1 x2_0 x2_1 x3_0 x3_1 x4 := Eq.trans (b := (if x4 < (x1_1.length : Int) then (if 0 ≤ x4 then (if x4 < (x1_1.length : Int) then (if 0 ≤ x4 then (if x4 < (x1_1.length : Int) then ((spec_l15Copy.f k ((rd_T130 x1_1 x4).f3.f0) ((rd_T130 x1_1 x4).f3.f1) ((rd_T130 x1_1 x4).f3.f2) ((rd_T130 x1_1 x4).f3.f3)).bind fun t27 => (if x3_1.length < 1954687338268 then (spec_l19Copy.l0 k x1_0 x1_1 x2_0 x2_1 x3_0 (x3_1 ++ ([(⟨(rd_T130 x1_1 x4).f0, (rd_T130 x1_1 x4).f1, (rd_T130 x1_1 x4).f2, (⟨t27.1, t27.2.1, t27.2.2.1, t27.2.2.2⟩ : S128)⟩ : S130)] : List S130)) (wrap64 (x4 + 1))) else none)) else none) else none) else none) else none) else (some (x3_0, x3_1)) : Option (Int × (List S130)))) (by kernel_rfl) (ite_c (fun h0 => (ite_c (fun h1 => (ite_l h0 (ite_l h1 (ite_l h0 rfl)))) (fun _ => rfl))) (fun _ => rfl))
theorem spec_l19Copy.s0 (k : Nat) (x : TL U.D (lvsL [.box 91 [.int .i64, .tree 130], .box 91 [.int .i64, .own 130], .box 91 [.int .i64, .own 130], .c (.int .i64)])) : VS spec_l19Copy.d Tryz.f94 k 0 ⟨[1, 2, 3, 4], [.box 91 [.int .i64, .tree 130], .box 91 [.int .i64, .own 130], .box 91 [.int .i64, .own 130], .c (.int .i64)]⟩ x = spec_l19Copy.l0 (k + 1) x.1 x.2.1 x.2.2.1 x.2.2.2.1 x.2.2.2.2.1 x.2.2.2.2.2.1 x.2.2.2.2.2.2 := spec_l19Copy.s0' k x.1 x.2.1 x.2.2.1 x.2.2.2.1 x.2.2.2.2.1 x.2.2.2.2.2.1 x.2.2.2.2.2.2
theorem spec_l19Copy.i (k : Nat) : (VL spec_l19Copy.d Tryz.f94 k).map (·.1) = spec_l19Copy.d.K.map (·.id) := by kernel_rfl
theorem spec_l19Copy.o : stOk spec_l19Copy.d Tryz.f94 = true := by kernel_rfl
theorem spec_l24Copy.t (k : Nat) (x : TL U.D (lvsL (spec_l24Copy.c 0).A)) : VT spec_l24Copy.d Tryz.f74 k x = spec_l24Copy.f k x.1 x.2.1 x.2.2.1 x.2.2.2.1 x.2.2.2.2 := by kernel_rfl
theorem spec_l24Copy.i (k : Nat) : (VL spec_l24Copy.d Tryz.f74 k).map (·.1) = spec_l24Copy.d.K.map (·.id) := by kernel_rfl
theorem spec_l24Copy.o : stOk spec_l24Copy.d Tryz.f74 = true := by kernel_rfl
theorem spec_l24All.t (k : Nat) (x : TL U.D (lvsL (spec_l24All.c 0).A)) : VT spec_l24All.d Tryz.f43 k x = spec_l24All.f k x := by kernel_rfl
theorem spec_l24All.s0' (k : Nat) (x0 : List S93) (x3 : List S93) (x4 : Int) : VS spec_l24All.d Tryz.f43 k 0 ⟨[0, 3, 4], [.c (.tree 93), .c (.own 93), .c (.int .i64)]⟩ (x0, x3, x4) = spec_l24All.l0 (k + 1) x0 x3 x4 := Eq.trans (b := (if x4 < (x0.length : Int) then (if 0 ≤ x4 then (if x4 < (x0.length : Int) then ((spec_l24Copy.f k ((rd_T93 x0 x4).f0) ((rd_T93 x0 x4).f1) ((rd_T93 x0 x4).f2) ((rd_T93 x0 x4).f3.f0) ((rd_T93 x0 x4).f3.f1)).bind fun t17 => (if x3.length < 1954687338268 then (spec_l24All.l0 k x0 (x3 ++ ([(⟨t17.1, t17.2.1, t17.2.2.1, (⟨t17.2.2.2.1, t17.2.2.2.2⟩ : S91)⟩ : S93)] : List S93)) (wrap64 (x4 + 1))) else none)) else none) else none) else (some x3) : Option ((List S93)))) (by kernel_rfl) (ite_c (fun h0 => (ite_c (fun _ => (ite_l h0 rfl)) (fun _ => rfl))) (fun _ => rfl))
theorem spec_l24All.s0 (k : Nat) (x : TL U.D (lvsL [.c (.tree 93), .c (.own 93), .c (.int .i64)])) : VS spec_l24All.d Tryz.f43 k 0 ⟨[0, 3, 4], [.c (.tree 93), .c (.own 93), .c (.int .i64)]⟩ x = spec_l24All.l0 (k + 1) x.1 x.2.1 x.2.2 := spec_l24All.s0' k x.1 x.2.1 x.2.2
theorem spec_l24All.i (k : Nat) : (VL spec_l24All.d Tryz.f43 k).map (·.1) = spec_l24All.d.K.map (·.id) := by kernel_rfl
theorem spec_l24All.o : stOk spec_l24All.d Tryz.f43 = true := by kernel_rfl
theorem spec_l7Copy.t (k : Nat) (x : TL U.D (lvsL (spec_l7Copy.c 0).A)) : VT spec_l7Copy.d Tryz.f44 k x = spec_l7Copy.f x := by kernel_rfl
theorem spec_l7Copy.i (k : Nat) : (VL spec_l7Copy.d Tryz.f44 k).map (·.1) = spec_l7Copy.d.K.map (·.id) := by kernel_rfl
theorem spec_l7Copy.o : stOk spec_l7Copy.d Tryz.f44 = true := by kernel_rfl
theorem spec_l28Copy.t (k : Nat) (x : TL U.D (lvsL (spec_l28Copy.c 0).A)) : VT spec_l28Copy.d Tryz.f16 k x = spec_l28Copy.f k x.1 x.2.1 x.2.2.1 x.2.2.2.1 x.2.2.2.2.1 x.2.2.2.2.2 := by kernel_rfl
theorem spec_l28Copy.i (k : Nat) : (VL spec_l28Copy.d Tryz.f16 k).map (·.1) = spec_l28Copy.d.K.map (·.id) := by kernel_rfl
theorem spec_l28Copy.o : stOk spec_l28Copy.d Tryz.f16 = true := by kernel_rfl
theorem spec_l1In.t (k : Nat) (x : TL U.D (lvsL (spec_l1In.c 0).A)) : VT spec_l1In.d Tryz.f78 k x = spec_l1In.f x.1 x.2.1 x.2.2 := by kernel_rfl
theorem spec_l1In.i (k : Nat) : (VL spec_l1In.d Tryz.f78 k).map (·.1) = spec_l1In.d.K.map (·.id) := by kernel_rfl
theorem spec_l1In.o : stOk spec_l1In.d Tryz.f78 = true := by kernel_rfl
theorem spec_IsTime.t (k : Nat) (x : TL U.D (lvsL (spec_IsTime.c 0).A)) : VT spec_IsTime.d Tryz.f76 k x = spec_IsTime.f x := by kernel_rfl
theorem spec_IsTime.i (k : Nat) : (VL spec_IsTime.d Tryz.f76 k).map (·.1) = spec_IsTime.d.K.map (·.id) := by kernel_rfl
theorem spec_IsTime.o : stOk spec_IsTime.d Tryz.f76 = true := by kernel_rfl
theorem spec_Min.t (k : Nat) (x : TL U.D (lvsL (spec_Min.c 0).A)) : VT spec_Min.d Tryz.f77 k x = spec_Min.f x.1 x.2 := by kernel_rfl
theorem spec_Min.i (k : Nat) : (VL spec_Min.d Tryz.f77 k).map (·.1) = spec_Min.d.K.map (·.id) := by kernel_rfl
theorem spec_Min.o : stOk spec_Min.d Tryz.f77 = true := by kernel_rfl
theorem spec_EndOf.t (k : Nat) (x : TL U.D (lvsL (spec_EndOf.c 0).A)) : VT spec_EndOf.d Tryz.f46 k x = spec_EndOf.f x.1 x.2 := by kernel_rfl
theorem spec_EndOf.i (k : Nat) : (VL spec_EndOf.d Tryz.f46 k).map (·.1) = spec_EndOf.d.K.map (·.id) := by kernel_rfl
theorem spec_EndOf.o : stOk spec_EndOf.d Tryz.f46 = true := by kernel_rfl
theorem spec_Mod.t' (k : Nat) (a0 : Int) (a1 : Int) : VT spec_Mod.d Tryz.f105 k (a0, a1) = spec_Mod.f a0 a1 := Eq.trans (b := ((spec_l1In.f a1 1 1000000000000).bind fun t6 => (if t6 = true then (if a1 = 0 then none else (if a1 = 0 then none else (some (Int.tmod (wrap64 ((Int.tmod a0 a1) + a1)) a1)))) else (some 0)) : Option (Int))) (by kernel_rfl) (bind_c fun _ => (ite_c (fun _ => (ite_c (fun _ => rfl) (fun h1 => (ite_r h1 rfl)))) (fun _ => rfl)))
theorem spec_Mod.t (k : Nat) (x : TL U.D (lvsL (spec_Mod.c 0).A)) : VT spec_Mod.d Tryz.f105 k x = spec_Mod.f x.1 x.2 := spec_Mod.t' k x.1 x.2
theorem spec_Mod.i (k : Nat) : (VL spec_Mod.d Tryz.f105 k).map (·.1) = spec_Mod.d.K.map (·.id) := by kernel_rfl
theorem spec_Mod.o : stOk spec_Mod.d Tryz.f105 = true := by kernel_rfl
theorem spec_Hash.t (k : Nat) (x : TL U.D (lvsL (spec_Hash.c 0).A)) : VT spec_Hash.d Tryz.f95 k x = spec_Hash.f k x := by kernel_rfl
theorem spec_Hash.s0' (k : Nat) (x0 : List Int) (x3 : Int) (x4 : Int) : VS spec_Hash.d Tryz.f95 k 0 ⟨[0, 3, 4], [.c (.tree 3), .c (.int .i64), .c (.int .i64)]⟩ (x0, x3, x4) = spec_Hash.l0 (k + 1) x0 x3 x4 := Eq.trans (b := (if x4 < (x0.length : Int) then (if 0 ≤ x4 then (if x4 < (x0.length : Int) then ((spec_Mod.f (rd x0 x4) 2147483647).bind fun t17 => (spec_Hash.l0 k x0 (Int.tmod (wrap64 ((wrap64 ((wrap64 (x3 * 1000003)) + t17)) + 13)) 2147483647) (wrap64 (x4 + 1)))) else none) else none) else (some x3) : Option (Int))) (by kernel_rfl) (ite_c (fun h0 => (ite_c (fun _ => (ite_l h0 rfl)) (fun _ => rfl))) (fun _ => rfl))
theorem spec_Hash.s0 (k : Nat) (x : TL U.D (lvsL [.c (.tree 3), .c (.int .i64), .c (.int .i64)])) : VS spec_Hash.d Tryz.f95 k 0 ⟨[0, 3, 4], [.c (.tree 3), .c (.int .i64), .c (.int .i64)]⟩ x = spec_Hash.l0 (k + 1) x.1 x.2.1 x.2.2 := spec_Hash.s0' k x.1 x.2.1 x.2.2
theorem spec_Hash.i (k : Nat) : (VL spec_Hash.d Tryz.f95 k).map (·.1) = spec_Hash.d.K.map (·.id) := by kernel_rfl
theorem spec_Hash.o : stOk spec_Hash.d Tryz.f95 = true := by kernel_rfl
theorem spec_KeyedHash.t (k : Nat) (x : TL U.D (lvsL (spec_KeyedHash.c 0).A)) : VT spec_KeyedHash.d Tryz.f75 k x = spec_KeyedHash.f k x.1 x.2 := by kernel_rfl
theorem spec_KeyedHash.i (k : Nat) : (VL spec_KeyedHash.d Tryz.f75 k).map (·.1) = spec_KeyedHash.d.K.map (·.id) := by kernel_rfl
theorem spec_KeyedHash.o : stOk spec_KeyedHash.d Tryz.f75 = true := by kernel_rfl
theorem spec_MarkCert.t (k : Nat) (x : TL U.D (lvsL (spec_MarkCert.c 0).A)) : VT spec_MarkCert.d Tryz.f45 k x = spec_MarkCert.f k x.1 x.2.1 x.2.2.1 x.2.2.2.1 x.2.2.2.2.1 x.2.2.2.2.2.1 x.2.2.2.2.2.2 := by kernel_rfl
theorem spec_MarkCert.i (k : Nat) : (VL spec_MarkCert.d Tryz.f45 k).map (·.1) = spec_MarkCert.d.K.map (·.id) := by kernel_rfl
theorem spec_MarkCert.o : stOk spec_MarkCert.d Tryz.f45 = true := by kernel_rfl
theorem spec_IsValidKey.t (k : Nat) (x : TL U.D (lvsL (spec_IsValidKey.c 0).A)) : VT spec_IsValidKey.d Tryz.f47 k x = spec_IsValidKey.f x := by kernel_rfl
theorem spec_IsValidKey.i (k : Nat) : (VL spec_IsValidKey.d Tryz.f47 k).map (·.1) = spec_IsValidKey.d.K.map (·.id) := by kernel_rfl
theorem spec_IsValidKey.o : stOk spec_IsValidKey.d Tryz.f47 = true := by kernel_rfl
theorem spec_IsName.t (k : Nat) (x : TL U.D (lvsL (spec_IsName.c 0).A)) : VT spec_IsName.d Tryz.f79 k x = spec_IsName.f x := by kernel_rfl
theorem spec_IsName.i (k : Nat) : (VL spec_IsName.d Tryz.f79 k).map (·.1) = spec_IsName.d.K.map (·.id) := by kernel_rfl
theorem spec_IsName.o : stOk spec_IsName.d Tryz.f79 = true := by kernel_rfl
theorem spec_IsCert.t (k : Nat) (x : TL U.D (lvsL (spec_IsCert.c 0).A)) : VT spec_IsCert.d Tryz.f48 k x = spec_IsCert.f x.1 x.2.1 x.2.2.1 x.2.2.2.1 x.2.2.2.2.1 x.2.2.2.2.2 := by kernel_rfl
theorem spec_IsCert.i (k : Nat) : (VL spec_IsCert.d Tryz.f48 k).map (·.1) = spec_IsCert.d.K.map (·.id) := by kernel_rfl
theorem spec_IsCert.o : stOk spec_IsCert.d Tryz.f48 = true := by kernel_rfl
theorem spec_IssueCert.t (k : Nat) (x : TL U.D (lvsL (spec_IssueCert.c 0).A)) : VT spec_IssueCert.d Tryz.f17 k x = spec_IssueCert.f k x.1 x.2.1 x.2.2.1 x.2.2.2.1 x.2.2.2.2.1 x.2.2.2.2.2 := by kernel_rfl
theorem spec_IssueCert.i (k : Nat) : (VL spec_IssueCert.d Tryz.f17 k).map (·.1) = spec_IssueCert.d.K.map (·.id) := by kernel_rfl
theorem spec_IssueCert.o : stOk spec_IssueCert.d Tryz.f17 = true := by kernel_rfl
theorem spec_CenterIssue.t (k : Nat) (x : TL U.D (lvsL (spec_CenterIssue.c 0).A)) : VT spec_CenterIssue.d Tryz.f5 k x = spec_CenterIssue.f k x.1 x.2.1 x.2.2.1 x.2.2.2.1 x.2.2.2.2.1 x.2.2.2.2.2.1 x.2.2.2.2.2.2.1 x.2.2.2.2.2.2.2.1 x.2.2.2.2.2.2.2.2.1 x.2.2.2.2.2.2.2.2.2 := by kernel_rfl
theorem spec_CenterIssue.i (k : Nat) : (VL spec_CenterIssue.d Tryz.f5 k).map (·.1) = spec_CenterIssue.d.K.map (·.id) := by kernel_rfl
theorem spec_CenterIssue.o : stOk spec_CenterIssue.d Tryz.f5 = true := by kernel_rfl
theorem impl_copyCond.t (k : Nat) (x : TL U.D (lvsL (impl_copyCond.c 0).A)) : VT impl_copyCond.d Tryz.f113 k x = impl_copyCond.f (k + 1) x.1 x.2.1 x.2.2.1 x.2.2.2 := by kernel_rfl
theorem impl_copyCond.s0 (k : Nat) (x : TL U.D (lvsL [.box 128 [.int .i64, .int .i64, .int .i64, .own 128], .box 128 [.int .i64, .int .i64, .int .i64, .own 128], .c (.tree 128), .c (.int .i64), .c (.int .i64)])) : VS impl_copyCond.d Tryz.f113 k 0 ⟨[2, 3, 14, 15, 16], [.box 128 [.int .i64, .int .i64, .int .i64, .own 128], .box 128 [.int .i64, .int .i64, .int .i64, .own 128], .c (.tree 128), .c (.int .i64), .c (.int .i64)]⟩ x = impl_copyCond.l0 (k + 1) x.1 x.2.1 x.2.2.1 x.2.2.2.1 x.2.2.2.2.1 x.2.2.2.2.2.1 x.2.2.2.2.2.2.1 x.2.2.2.2.2.2.2.1 x.2.2.2.2.2.2.2.2.1 x.2.2.2.2.2.2.2.2.2.1 x.2.2.2.2.2.2.2.2.2.2 := by kernel_rfl
theorem impl_copyCond.i (k : Nat) : (VL impl_copyCond.d Tryz.f113 k).map (·.1) = impl_copyCond.d.K.map (·.id) := by kernel_rfl
theorem impl_copyCond.o : stOk impl_copyCond.d Tryz.f113 = true := by kernel_rfl
theorem impl_copyRules.t (k : Nat) (x : TL U.D (lvsL (impl_copyRules.c 0).A)) : VT impl_copyRules.d Tryz.f107 k x = impl_copyRules.f k x := by kernel_rfl
theorem impl_copyRules.s0 (k : Nat) (x : TL U.D (lvsL [.c (.own 130), .c (.tree 130), .c (.int .i64), .c (.int .i64)])) : VS impl_copyRules.d Tryz.f107 k 0 ⟨[3, 7, 8, 9], [.c (.own 130), .c (.tree 130), .c (.int .i64), .c (.int .i64)]⟩ x = impl_copyRules.l0 (k + 1) x.1 x.2.1 x.2.2.1 x.2.2.2 := by kernel_rfl
theorem impl_copyRules.i (k : Nat) : (VL impl_copyRules.d Tryz.f107 k).map (·.1) = impl_copyRules.d.K.map (·.id) := by kernel_rfl
theorem impl_copyRules.o : stOk impl_copyRules.d Tryz.f107 = true := by kernel_rfl
theorem impl_copyPolicy.t (k : Nat) (x : TL U.D (lvsL (impl_copyPolicy.c 0).A)) : VT impl_copyPolicy.d Tryz.f98 k x = impl_copyPolicy.f k x.1 x.2 := by kernel_rfl
theorem impl_copyPolicy.i (k : Nat) : (VL impl_copyPolicy.d Tryz.f98 k).map (·.1) = impl_copyPolicy.d.K.map (·.id) := by kernel_rfl
theorem impl_copyPolicy.o : stOk impl_copyPolicy.d Tryz.f98 = true := by kernel_rfl
theorem impl_copyEpoch.t (k : Nat) (x : TL U.D (lvsL (impl_copyEpoch.c 0).A)) : VT impl_copyEpoch.d Tryz.f83 k x = impl_copyEpoch.f k x.1 x.2.1 x.2.2.1 x.2.2.2.1 x.2.2.2.2 := by kernel_rfl
theorem impl_copyEpoch.i (k : Nat) : (VL impl_copyEpoch.d Tryz.f83 k).map (·.1) = impl_copyEpoch.d.K.map (·.id) := by kernel_rfl
theorem impl_copyEpoch.o : stOk impl_copyEpoch.d Tryz.f83 = true := by kernel_rfl
theorem impl_copyEpochs.t (k : Nat) (x : TL U.D (lvsL (impl_copyEpochs.c 0).A)) : VT impl_copyEpochs.d Tryz.f54 k x = impl_copyEpochs.f k x := by kernel_rfl
theorem impl_copyEpochs.s0 (k : Nat) (x : TL U.D (lvsL [.c (.own 93), .c (.tree 93), .c (.int .i64), .c (.int .i64)])) : VS impl_copyEpochs.d Tryz.f54 k 0 ⟨[3, 7, 8, 9], [.c (.own 93), .c (.tree 93), .c (.int .i64), .c (.int .i64)]⟩ x = impl_copyEpochs.l0 (k + 1) x.1 x.2.1 x.2.2.1 x.2.2.2 := by kernel_rfl
theorem impl_copyEpochs.i (k : Nat) : (VL impl_copyEpochs.d Tryz.f54 k).map (·.1) = impl_copyEpochs.d.K.map (·.id) := by kernel_rfl
theorem impl_copyEpochs.o : stOk impl_copyEpochs.d Tryz.f54 = true := by kernel_rfl
theorem impl_copyFacts.t (k : Nat) (x : TL U.D (lvsL (impl_copyFacts.c 0).A)) : VT impl_copyFacts.d Tryz.f55 k x = impl_copyFacts.f x := by kernel_rfl
theorem impl_copyFacts.i (k : Nat) : (VL impl_copyFacts.d Tryz.f55 k).map (·.1) = impl_copyFacts.d.K.map (·.id) := by kernel_rfl
theorem impl_copyFacts.o : stOk impl_copyFacts.d Tryz.f55 = true := by kernel_rfl
theorem impl_copyCenter.t (k : Nat) (x : TL U.D (lvsL (impl_copyCenter.c 0).A)) : VT impl_copyCenter.d Tryz.f23 k x = impl_copyCenter.f k x.1 x.2.1 x.2.2.1 x.2.2.2.1 x.2.2.2.2.1 x.2.2.2.2.2 := by kernel_rfl
theorem impl_copyCenter.s0 (k : Nat) (x : TL U.D (lvsL [.box 36 [.own 86, .own 93, .own 96, .own 100, .int .i64, .own 50], .box 36 [.own 86, .own 93, .own 96, .own 100, .int .i64, .own 50], .c (.tree 86), .c (.int .i64), .c (.int .i64)])) : VS impl_copyCenter.d Tryz.f23 k 0 ⟨[2, 3, 24, 25, 26], [.box 36 [.own 86, .own 93, .own 96, .own 100, .int .i64, .own 50], .box 36 [.own 86, .own 93, .own 96, .own 100, .int .i64, .own 50], .c (.tree 86), .c (.int .i64), .c (.int .i64)]⟩ x = impl_copyCenter.l0 (k + 1) x.1 x.2.1 x.2.2.1 x.2.2.2.1 x.2.2.2.2.1 x.2.2.2.2.2.1 x.2.2.2.2.2.2.1 x.2.2.2.2.2.2.2.1 x.2.2.2.2.2.2.2.2.1 x.2.2.2.2.2.2.2.2.2.1 x.2.2.2.2.2.2.2.2.2.2.1 x.2.2.2.2.2.2.2.2.2.2.2.1 x.2.2.2.2.2.2.2.2.2.2.2.2.1 x.2.2.2.2.2.2.2.2.2.2.2.2.2.1 x.2.2.2.2.2.2.2.2.2.2.2.2.2.2 := by kernel_rfl
theorem impl_copyCenter.i (k : Nat) : (VL impl_copyCenter.d Tryz.f23 k).map (·.1) = impl_copyCenter.d.K.map (·.id) := by kernel_rfl
theorem impl_copyCenter.o : stOk impl_copyCenter.d Tryz.f23 = true := by kernel_rfl
theorem impl_InRange.t (k : Nat) (x : TL U.D (lvsL (impl_InRange.c 0).A)) : VT impl_InRange.d Tryz.f86 k x = impl_InRange.f x.1 x.2.1 x.2.2 := by kernel_rfl
theorem impl_InRange.i (k : Nat) : (VL impl_InRange.d Tryz.f86 k).map (·.1) = impl_InRange.d.K.map (·.id) := by kernel_rfl
theorem impl_InRange.o : stOk impl_InRange.d Tryz.f86 = true := by kernel_rfl
theorem impl_IsTime.t (k : Nat) (x : TL U.D (lvsL (impl_IsTime.c 0).A)) : VT impl_IsTime.d Tryz.f85 k x = impl_IsTime.f x := by kernel_rfl
theorem impl_IsTime.i (k : Nat) : (VL impl_IsTime.d Tryz.f85 k).map (·.1) = impl_IsTime.d.K.map (·.id) := by kernel_rfl
theorem impl_IsTime.o : stOk impl_IsTime.d Tryz.f85 = true := by kernel_rfl
theorem impl_EndOf.t (k : Nat) (x : TL U.D (lvsL (impl_EndOf.c 0).A)) : VT impl_EndOf.d Tryz.f57 k x = impl_EndOf.f x.1 x.2 := by kernel_rfl
theorem impl_EndOf.i (k : Nat) : (VL impl_EndOf.d Tryz.f57 k).map (·.1) = impl_EndOf.d.K.map (·.id) := by kernel_rfl
theorem impl_EndOf.o : stOk impl_EndOf.d Tryz.f57 = true := by kernel_rfl
theorem slices_Concat100.t (k : Nat) (x : TL U.D (lvsL (slices_Concat100.c 0).A)) : VT slices_Concat100.d Tryz.f100 k x = slices_Concat100.f k x := by kernel_rfl
theorem slices_Concat100.s0 (k : Nat) (x : TL U.D (lvsL [.c (.tree 69), .c (.int .i64), .c (.tree 69), .c (.int .i64), .c (.int .i64)])) : VS slices_Concat100.d Tryz.f100 k 0 ⟨[0, 3, 9, 10, 11], [.c (.tree 69), .c (.int .i64), .c (.tree 69), .c (.int .i64), .c (.int .i64)]⟩ x = slices_Concat100.l0 (k + 1) x.1 x.2.1 x.2.2.1 x.2.2.2.1 x.2.2.2.2 := by kernel_rfl
theorem slices_Concat100.s1 (k : Nat) (x : TL U.D (lvsL [.c (.own 3), .c (.tree 69), .c (.int .i64), .c (.int .i64)])) : VS slices_Concat100.d Tryz.f100 k 1 ⟨[6, 25, 26, 27], [.c (.own 3), .c (.tree 69), .c (.int .i64), .c (.int .i64)]⟩ x = slices_Concat100.l1 (k + 1) x.1 x.2.1 x.2.2.1 x.2.2.2 := by kernel_rfl
theorem slices_Concat100.i (k : Nat) : (VL slices_Concat100.d Tryz.f100 k).map (·.1) = slices_Concat100.d.K.map (·.id) := by kernel_rfl
theorem slices_Concat100.o : stOk slices_Concat100.d Tryz.f100 = true := by kernel_rfl
theorem impl_Mod.t' (k : Nat) (a0 : Int) (a1 : Int) : VT impl_Mod.d Tryz.f108 k (a0, a1) = impl_Mod.f a0 a1 := Eq.trans (b := ((impl_InRange.f a1 1 1000000000000).bind fun t6 => (if t6 = true then (if a1 = 0 then none else (if a1 = 0 then none else (some (Int.tmod (wrap64 ((Int.tmod a0 a1) + a1)) a1)))) else (some 0)) : Option (Int))) (by kernel_rfl) (bind_c fun _ => (ite_c (fun _ => (ite_c (fun _ => rfl) (fun h1 => (ite_r h1 rfl)))) (fun _ => rfl)))
theorem impl_Mod.t (k : Nat) (x : TL U.D (lvsL (impl_Mod.c 0).A)) : VT impl_Mod.d Tryz.f108 k x = impl_Mod.f x.1 x.2 := impl_Mod.t' k x.1 x.2
theorem impl_Mod.i (k : Nat) : (VL impl_Mod.d Tryz.f108 k).map (·.1) = impl_Mod.d.K.map (·.id) := by kernel_rfl
theorem impl_Mod.o : stOk impl_Mod.d Tryz.f108 = true := by kernel_rfl
theorem impl_Hash.t (k : Nat) (x : TL U.D (lvsL (impl_Hash.c 0).A)) : VT impl_Hash.d Tryz.f99 k x = impl_Hash.f k x := by kernel_rfl
theorem impl_Hash.s0 (k : Nat) (x : TL U.D (lvsL [.c (.int .i64), .c (.tree 3), .c (.int .i64), .c (.int .i64)])) : VS impl_Hash.d Tryz.f99 k 0 ⟨[3, 6, 7, 8], [.c (.int .i64), .c (.tree 3), .c (.int .i64), .c (.int .i64)]⟩ x = impl_Hash.l0 (k + 1) x.1 x.2.1 x.2.2.1 x.2.2.2 := by kernel_rfl
theorem impl_Hash.i (k : Nat) : (VL impl_Hash.d Tryz.f99 k).map (·.1) = impl_Hash.d.K.map (·.id) := by kernel_rfl
theorem impl_Hash.o : stOk impl_Hash.d Tryz.f99 = true := by kernel_rfl
theorem impl_KeyedHash.t (k : Nat) (x : TL U.D (lvsL (impl_KeyedHash.c 0).A)) : VT impl_KeyedHash.d Tryz.f84 k x = impl_KeyedHash.f k x.1 x.2 := by kernel_rfl
theorem impl_KeyedHash.i (k : Nat) : (VL impl_KeyedHash.d Tryz.f84 k).map (·.1) = impl_KeyedHash.d.K.map (·.id) := by kernel_rfl
theorem impl_KeyedHash.o : stOk impl_KeyedHash.d Tryz.f84 = true := by kernel_rfl
theorem impl_MarkCert.t (k : Nat) (x : TL U.D (lvsL (impl_MarkCert.c 0).A)) : VT impl_MarkCert.d Tryz.f56 k x = impl_MarkCert.f k x.1 x.2.1 x.2.2.1 x.2.2.2.1 x.2.2.2.2.1 x.2.2.2.2.2.1 x.2.2.2.2.2.2 := by kernel_rfl
theorem impl_MarkCert.i (k : Nat) : (VL impl_MarkCert.d Tryz.f56 k).map (·.1) = impl_MarkCert.d.K.map (·.id) := by kernel_rfl
theorem impl_MarkCert.o : stOk impl_MarkCert.d Tryz.f56 = true := by kernel_rfl
theorem impl_IsValidKey.t (k : Nat) (x : TL U.D (lvsL (impl_IsValidKey.c 0).A)) : VT impl_IsValidKey.d Tryz.f58 k x = impl_IsValidKey.f x := by kernel_rfl
theorem impl_IsValidKey.i (k : Nat) : (VL impl_IsValidKey.d Tryz.f58 k).map (·.1) = impl_IsValidKey.d.K.map (·.id) := by kernel_rfl
theorem impl_IsValidKey.o : stOk impl_IsValidKey.d Tryz.f58 = true := by kernel_rfl
theorem impl_IsName.t (k : Nat) (x : TL U.D (lvsL (impl_IsName.c 0).A)) : VT impl_IsName.d Tryz.f87 k x = impl_IsName.f x := by kernel_rfl
theorem impl_IsName.i (k : Nat) : (VL impl_IsName.d Tryz.f87 k).map (·.1) = impl_IsName.d.K.map (·.id) := by kernel_rfl
theorem impl_IsName.o : stOk impl_IsName.d Tryz.f87 = true := by kernel_rfl
theorem impl_IsCert.t (k : Nat) (x : TL U.D (lvsL (impl_IsCert.c 0).A)) : VT impl_IsCert.d Tryz.f59 k x = impl_IsCert.f x.1 x.2.1 x.2.2.1 x.2.2.2.1 x.2.2.2.2.1 x.2.2.2.2.2 := by kernel_rfl
theorem impl_IsCert.i (k : Nat) : (VL impl_IsCert.d Tryz.f59 k).map (·.1) = impl_IsCert.d.K.map (·.id) := by kernel_rfl
theorem impl_IsCert.o : stOk impl_IsCert.d Tryz.f59 = true := by kernel_rfl
theorem impl_IssueCert.t (k : Nat) (x : TL U.D (lvsL (impl_IssueCert.c 0).A)) : VT impl_IssueCert.d Tryz.f24 k x = impl_IssueCert.f k x.1 x.2.1 x.2.2.1 x.2.2.2.1 x.2.2.2.2.1 x.2.2.2.2.2 := by kernel_rfl
theorem impl_IssueCert.i (k : Nat) : (VL impl_IssueCert.d Tryz.f24 k).map (·.1) = impl_IssueCert.d.K.map (·.id) := by kernel_rfl
theorem impl_IssueCert.o : stOk impl_IssueCert.d Tryz.f24 = true := by kernel_rfl
theorem impl_CenterIssue.t (k : Nat) (x : TL U.D (lvsL (impl_CenterIssue.c 0).A)) : VT impl_CenterIssue.d Tryz.f7 k x = impl_CenterIssue.f k x.1 x.2.1 x.2.2.1 x.2.2.2.1 x.2.2.2.2.1 x.2.2.2.2.2.1 x.2.2.2.2.2.2.1 x.2.2.2.2.2.2.2.1 x.2.2.2.2.2.2.2.2.1 x.2.2.2.2.2.2.2.2.2 := by kernel_rfl
theorem impl_CenterIssue.i (k : Nat) : (VL impl_CenterIssue.d Tryz.f7 k).map (·.1) = impl_CenterIssue.d.K.map (·.id) := by kernel_rfl
theorem impl_CenterIssue.o : stOk impl_CenterIssue.d Tryz.f7 = true := by kernel_rfl
theorem laws_eqIntS.t (k : Nat) (x : TL U.D (lvsL (laws_eqIntS.c 0).A)) : VT laws_eqIntS.d Tryz.f88 k x = laws_eqIntS.f k x.1 x.2 := by kernel_rfl
theorem laws_eqIntS.s0' (k : Nat) (x0 : List Int) (x1 : List Int) (x5 : Int) : VS laws_eqIntS.d Tryz.f88 k 0 ⟨[0, 1, 5], [.c (.tree 3), .c (.tree 3), .c (.int .i64)]⟩ (x0, x1, x5) = laws_eqIntS.l0 (k + 1) x0 x1 x5 := Eq.trans (b := (if x5 < (x0.length : Int) then (if 0 ≤ x5 then (if x5 < (x0.length : Int) then (if 0 ≤ x5 then (if x5 < (x1.length : Int) then (if (rd x0 x5) = (rd x1 x5) then (laws_eqIntS.l0 k x0 x1 (wrap64 (x5 + 1))) else (some false)) else none) else none) else none) else none) else (some true) : Option (Bool))) (by kernel_rfl) (ite_c (fun h0 => (ite_c (fun h1 => (ite_l h0 (ite_l h1 rfl))) (fun _ => rfl))) (fun _ => rfl))
theorem laws_eqIntS.s0 (k : Nat) (x : TL U.D (lvsL [.c (.tree 3), .c (.tree 3), .c (.int .i64)])) : VS laws_eqIntS.d Tryz.f88 k 0 ⟨[0, 1, 5], [.c (.tree 3), .c (.tree 3), .c (.int .i64)]⟩ x = laws_eqIntS.l0 (k + 1) x.1 x.2.1 x.2.2 := laws_eqIntS.s0' k x.1 x.2.1 x.2.2
theorem laws_eqIntS.i (k : Nat) : (VL laws_eqIntS.d Tryz.f88 k).map (·.1) = laws_eqIntS.d.K.map (·.id) := by kernel_rfl
theorem laws_eqIntS.o : stOk laws_eqIntS.d Tryz.f88 = true := by kernel_rfl
theorem laws_eqIssuer.t (k : Nat) (x : TL U.D (lvsL (laws_eqIssuer.c 0).A)) : VT laws_eqIssuer.d Tryz.f60 k x = laws_eqIssuer.f k x.1 x.2.1 x.2.2.1 x.2.2.2.1 x.2.2.2.2.1 x.2.2.2.2.2 := by kernel_rfl
theorem laws_eqIssuer.i (k : Nat) : (VL laws_eqIssuer.d Tryz.f60 k).map (·.1) = laws_eqIssuer.d.K.map (·.id) := by kernel_rfl
theorem laws_eqIssuer.o : stOk laws_eqIssuer.d Tryz.f60 = true := by kernel_rfl
theorem laws_eqIssuerS.t (k : Nat) (x : TL U.D (lvsL (laws_eqIssuerS.c 0).A)) : VT laws_eqIssuerS.d Tryz.f25 k x = laws_eqIssuerS.f k x.1 x.2 := by kernel_rfl
theorem laws_eqIssuerS.s0' (k : Nat) (x0 : List S86) (x1 : List S86) (x5 : Int) : VS laws_eqIssuerS.d Tryz.f25 k 0 ⟨[0, 1, 5], [.c (.tree 86), .c (.tree 86), .c (.int .i64)]⟩ (x0, x1, x5) = laws_eqIssuerS.l0 (k + 1) x0 x1 x5 := Eq.trans (b := (if x5 < (x0.length : Int) then (if 0 ≤ x5 then (if x5 < (x0.length : Int) then (if 0 ≤ x5 then (if x5 < (x1.length : Int) then ((laws_eqIssuer.f k ((rd_T86 x0 x5).f0) ((rd_T86 x0 x5).f1) ((rd_T86 x0 x5).f2) ((rd_T86 x1 x5).f0) ((rd_T86 x1 x5).f1) ((rd_T86 x1 x5).f2)).bind fun t25 => (if t25 = true then (laws_eqIssuerS.l0 k x0 x1 (wrap64 (x5 + 1))) else (some false))) else none) else none) else none) else none) else (some true) : Option (Bool))) (by kernel_rfl) (ite_c (fun h0 => (ite_c (fun h1 => (ite_l h0 (ite_l h1 rfl))) (fun _ => rfl))) (fun _ => rfl))
theorem laws_eqIssuerS.s0 (k : Nat) (x : TL U.D (lvsL [.c (.tree 86), .c (.tree 86), .c (.int .i64)])) : VS laws_eqIssuerS.d Tryz.f25 k 0 ⟨[0, 1, 5], [.c (.tree 86), .c (.tree 86), .c (.int .i64)]⟩ x = laws_eqIssuerS.l0 (k + 1) x.1 x.2.1 x.2.2 := laws_eqIssuerS.s0' k x.1 x.2.1 x.2.2
theorem laws_eqIssuerS.i (k : Nat) : (VL laws_eqIssuerS.d Tryz.f25 k).map (·.1) = laws_eqIssuerS.d.K.map (·.id) := by kernel_rfl
theorem laws_eqIssuerS.o : stOk laws_eqIssuerS.d Tryz.f25 = true := by kernel_rfl
theorem laws_eqIncludes.t (k : Nat) (x : TL U.D (lvsL (laws_eqIncludes.c 0).A)) : VT laws_eqIncludes.d Tryz.f101 k x = laws_eqIncludes.f x.1 x.2.1 x.2.2.1 x.2.2.2 := by kernel_rfl
theorem laws_eqIncludes.i (k : Nat) : (VL laws_eqIncludes.d Tryz.f101 k).map (·.1) = laws_eqIncludes.d.K.map (·.id) := by kernel_rfl
theorem laws_eqIncludes.o : stOk laws_eqIncludes.d Tryz.f101 = true := by kernel_rfl
theorem laws_eqIncludesS.t (k : Nat) (x : TL U.D (lvsL (laws_eqIncludesS.c 0).A)) : VT laws_eqIncludesS.d Tryz.f89 k x = laws_eqIncludesS.f k x.1 x.2 := by kernel_rfl
theorem laws_eqIncludesS.s0' (k : Nat) (x0 : List S125) (x1 : List S125) (x5 : Int) : VS laws_eqIncludesS.d Tryz.f89 k 0 ⟨[0, 1, 5], [.c (.tree 125), .c (.tree 125), .c (.int .i64)]⟩ (x0, x1, x5) = laws_eqIncludesS.l0 (k + 1) x0 x1 x5 := Eq.trans (b := (if x5 < (x0.length : Int) then (if 0 ≤ x5 then (if x5 < (x0.length : Int) then (if 0 ≤ x5 then (if x5 < (x1.length : Int) then ((laws_eqIncludes.f ((rd_T125 x0 x5).f0) ((rd_T125 x0 x5).f1) ((rd_T125 x1 x5).f0) ((rd_T125 x1 x5).f1)).bind fun t25 => (if t25 = true then (laws_eqIncludesS.l0 k x0 x1 (wrap64 (x5 + 1))) else (some false))) else none) else none) else none) else none) else (some true) : Option (Bool))) (by kernel_rfl) (ite_c (fun h0 => (ite_c (fun h1 => (ite_l h0 (ite_l h1 rfl))) (fun _ => rfl))) (fun _ => rfl))
theorem laws_eqIncludesS.s0 (k : Nat) (x : TL U.D (lvsL [.c (.tree 125), .c (.tree 125), .c (.int .i64)])) : VS laws_eqIncludesS.d Tryz.f89 k 0 ⟨[0, 1, 5], [.c (.tree 125), .c (.tree 125), .c (.int .i64)]⟩ x = laws_eqIncludesS.l0 (k + 1) x.1 x.2.1 x.2.2 := laws_eqIncludesS.s0' k x.1 x.2.1 x.2.2
theorem laws_eqIncludesS.i (k : Nat) : (VL laws_eqIncludesS.d Tryz.f89 k).map (·.1) = laws_eqIncludesS.d.K.map (·.id) := by kernel_rfl
theorem laws_eqIncludesS.o : stOk laws_eqIncludesS.d Tryz.f89 = true := by kernel_rfl
end Go.Proofs.YthliecjiafjokaaGreat.QFnExactCenterIssue
