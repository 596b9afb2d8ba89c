import Derived.Test.YtlnimankbhcinaaGreatWWords
/- What each function that FnExactCenterPublish reaches computes, over numbers and lists. -/
namespace Go.Proofs.YtlnimankbhcinaaGreat.QFnExactCenterPublish
open Go Go.RowKit Go.Proofs.YtlnimankbhcinaaGreatW.PrintWords
set_option linter.unusedVariables false
structure S100 where
  f0 : Int
  f1 : (List Int)
  f2 : Int
def z100 : S100 := ⟨(0 : Int), ([] : List Int), (0 : Int)⟩
def rd_T100 (xs : List S100) (i : Int) : S100 := xs.getD i.toNat z100
structure S77 where
  f0 : Int
  f1 : Int
def z77 : S77 := ⟨(0 : Int), (0 : Int)⟩
def rd_T77 (xs : List S77) (i : Int) : S77 := xs.getD i.toNat z77
structure S63 where
  f0 : Int
  f1 : Int
  f2 : Int
  f3 : (List S63)
def z63 : S63 := ⟨(0 : Int), (0 : Int), (0 : Int), ([] : List S63)⟩
def rd_T63 (xs : List S63) (i : Int) : S63 := xs.getD i.toNat z63
structure S65 where
  f0 : Int
  f1 : Int
  f2 : Int
  f3 : S63
def z65 : S65 := ⟨(0 : Int), (0 : Int), (0 : Int), z63⟩
def rd_T65 (xs : List S65) (i : Int) : S65 := xs.getD i.toNat z65
structure S103 where
  f0 : Int
  f1 : (List S65)
def z103 : S103 := ⟨(0 : Int), ([] : List S65)⟩
structure S105 where
  f0 : Int
  f1 : Int
  f2 : (List S77)
  f3 : S103
def z105 : S105 := ⟨(0 : Int), (0 : Int), ([] : List S77), z103⟩
def rd_T105 (xs : List S105) (i : Int) : S105 := xs.getD i.toNat z105
structure S123 where
  f0 : Int
  f1 : Int
  f2 : Int
  f3 : Int
  f4 : Int
  f5 : Int
def z123 : S123 := ⟨(0 : Int), (0 : Int), (0 : Int), (0 : Int), (0 : Int), (0 : Int)⟩
def rd_T123 (xs : List S123) (i : Int) : S123 := xs.getD i.toNat z123
structure S127 where
  f0 : Int
  f1 : Int
def z127 : S127 := ⟨(0 : Int), (0 : Int)⟩
def rd_T127 (xs : List S127) (i : Int) : S127 := xs.getD i.toNat z127
structure S131 where
  f0 : Int
  f1 : Int
  f2 : Int
  f3 : Int
  f4 : Int
  f5 : Int
def z131 : S131 := ⟨(0 : Int), (0 : Int), (0 : Int), (0 : Int), (0 : Int), (0 : Int)⟩
def rd_T131 (xs : List S131) (i : Int) : S131 := xs.getD i.toNat z131
structure S117 where
  f0 : Int
  f1 : (List Int)
  f2 : Int
def z117 : S117 := ⟨(0 : Int), ([] : List Int), (0 : Int)⟩
def rd_T117 (xs : List S117) (i : Int) : S117 := xs.getD i.toNat z117
structure S75 where
  f0 : Int
  f1 : Int
def z75 : S75 := ⟨(0 : Int), (0 : Int)⟩
def rd_T75 (xs : List S75) (i : Int) : S75 := xs.getD i.toNat z75
structure S80 where
  f0 : Int
  f1 : Int
  f2 : Int
  f3 : (List S80)
def z80 : S80 := ⟨(0 : Int), (0 : Int), (0 : Int), ([] : List S80)⟩
def rd_T80 (xs : List S80) (i : Int) : S80 := xs.getD i.toNat z80
structure S82 where
  f0 : Int
  f1 : Int
  f2 : Int
  f3 : S80
def z82 : S82 := ⟨(0 : Int), (0 : Int), (0 : Int), z80⟩
def rd_T82 (xs : List S82) (i : Int) : S82 := xs.getD i.toNat z82
structure S113 where
  f0 : Int
  f1 : (List S82)
def z113 : S113 := ⟨(0 : Int), ([] : List S82)⟩
structure S115 where
  f0 : Int
  f1 : Int
  f2 : (List S75)
  f3 : S113
def z115 : S115 := ⟨(0 : Int), (0 : Int), ([] : List S75), z113⟩
def rd_T115 (xs : List S115) (i : Int) : S115 := xs.getD i.toNat z115
structure S121 where
  f0 : Int
  f1 : Int
  f2 : Int
  f3 : Int
  f4 : Int
  f5 : Int
def z121 : S121 := ⟨(0 : Int), (0 : Int), (0 : Int), (0 : Int), (0 : Int), (0 : Int)⟩
def rd_T121 (xs : List S121) (i : Int) : S121 := xs.getD i.toNat z121
structure S125 where
  f0 : Int
  f1 : Int
def z125 : S125 := ⟨(0 : Int), (0 : Int)⟩
def rd_T125 (xs : List S125) (i : Int) : S125 := xs.getD i.toNat z125
structure S129 where
  f0 : Int
  f1 : Int
  f2 : Int
  f3 : Int
  f4 : Int
  f5 : Int
def z129 : S129 := ⟨(0 : Int), (0 : Int), (0 : Int), (0 : Int), (0 : Int), (0 : Int)⟩
def rd_T129 (xs : List S129) (i : Int) : S129 := xs.getD i.toNat z129
structure S28 where
  f0 : (List S100)
  f1 : (List S105)
  f2 : (List S123)
  f3 : (List S127)
  f4 : Int
  f5 : (List S131)
def z28 : S28 := ⟨([] : List S100), ([] : List S105), ([] : List S123), ([] : List S127), (0 : Int), ([] : List S131)⟩
structure S40 where
  f0 : (List S117)
  f1 : (List S115)
  f2 : (List S121)
  f3 : (List S125)
  f4 : Int
  f5 : (List S129)
def z40 : S40 := ⟨([] : List S117), ([] : List S115), ([] : List S121), ([] : List S125), (0 : Int), ([] : List S129)⟩
def laws_szIntS.f (a0 : List Int) (a1 : Int) : Option (Int) := if (wrap64 (a1 - (a0.length : Int))) < 0 then (some (-1)) else (some (wrap64 (a1 - (a0.length : Int))))
def laws_szIssuer.f (a0_0 : Int) (a0_1 : List Int) (a0_2 : Int) (a1 : Int) : Option (Int) := (laws_szIntS.f a0_1 a1).bind fun t8 => (if t8 < 0 then (some (-1)) else (some t8))
def laws_szIssuerS.l0 : Nat → List S100 → Int → Int → Option (Int)
 | 0, _, _, _ => none
 | k + 1, x0, x1, x5 => if x5 < (x0.length : Int) then (if 0 ≤ x5 then ((laws_szIssuer.f ((rd_T100 x0 x5).f0) ((rd_T100 x0 x5).f1) ((rd_T100 x0 x5).f2) x1).bind fun t23 => (if t23 < 0 then (some (-1)) else (laws_szIssuerS.l0 k x0 t23 (wrap64 (x5 + 1))))) else none) else (some x1)
def laws_szIssuerS.f (k : Nat) (a0 : List S100) (a1 : Int) : Option (Int) := if (wrap64 (a1 - (a0.length : Int))) < 0 then (some (-1)) else (laws_szIssuerS.l0 k a0 (wrap64 (a1 - (a0.length : Int))) 0)
def laws_szIncludesS.f (a0 : List S77) (a1 : Int) : Option (Int) := if (wrap64 (a1 - (a0.length : Int))) < 0 then (some (-1)) else (some (wrap64 (a1 - (a0.length : Int))))
mutual
def laws_szCondS.l0 : Nat → List S63 → Int → Int → Option (Int)
 | 0, _, _, _ => none
 | k + 1, x0, x1, x5 => if x5 < (x0.length : Int) then (if 0 ≤ x5 then ((laws_szCond.f k ((rd_T63 x0 x5).f0) ((rd_T63 x0 x5).f1) ((rd_T63 x0 x5).f2) ((rd_T63 x0 x5).f3) x1).bind fun t23 => (if t23 < 0 then (some (-1)) else (laws_szCondS.l0 k x0 t23 (wrap64 (x5 + 1))))) else none) else (some x1)
def laws_szCondS.f : Nat → List S63 → Int → Option (Int)
 | 0, _, _ => none
 | k + 1, a0, a1 => if (wrap64 (a1 - (a0.length : Int))) < 0 then (some (-1)) else (laws_szCondS.l0 k a0 (wrap64 (a1 - (a0.length : Int))) 0)
def laws_szCond.f : Nat → Int → Int → Int → List S63 → Int → Option (Int)
 | 0, _, _, _, _, _ => none
 | k + 1, a0_0, a0_1, a0_2, a0_3, a1 => (laws_szCondS.f k a0_3 a1).bind fun t8 => (if t8 < 0 then (some (-1)) else (some t8))
end
def laws_szRule.f (k : Nat) (a0_0 : Int) (a0_1 : Int) (a0_2 : Int) (a0_3 : Int) (a0_4 : Int) (a0_5 : Int) (a0_6 : List S63) (a1 : Int) : Option (Int) := (laws_szCond.f k a0_3 a0_4 a0_5 a0_6 a1).bind fun t8 => (if t8 < 0 then (some (-1)) else (some t8))
def laws_szRuleS.l0 : Nat → List S65 → Int → Int → Option (Int)
 | 0, _, _, _ => none
 | k + 1, x0, x1, x5 => if x5 < (x0.length : Int) then (if 0 ≤ x5 then ((laws_szRule.f k ((rd_T65 x0 x5).f0) ((rd_T65 x0 x5).f1) ((rd_T65 x0 x5).f2) ((rd_T65 x0 x5).f3.f0) ((rd_T65 x0 x5).f3.f1) ((rd_T65 x0 x5).f3.f2) ((rd_T65 x0 x5).f3.f3) x1).bind fun t23 => (if t23 < 0 then (some (-1)) else (laws_szRuleS.l0 k x0 t23 (wrap64 (x5 + 1))))) else none) else (some x1)
def laws_szRuleS.f (k : Nat) (a0 : List S65) (a1 : Int) : Option (Int) := if (wrap64 (a1 - (a0.length : Int))) < 0 then (some (-1)) else (laws_szRuleS.l0 k a0 (wrap64 (a1 - (a0.length : Int))) 0)
def laws_szPolicy.f (k : Nat) (a0_0 : Int) (a0_1 : List S65) (a1 : Int) : Option (Int) := (laws_szRuleS.f k a0_1 a1).bind fun t8 => (if t8 < 0 then (some (-1)) else (some t8))
def laws_szEpoch.f (k : Nat) (a0_0 : Int) (a0_1 : Int) (a0_2 : List S77) (a0_3 : Int) (a0_4 : List S65) (a1 : Int) : Option (Int) := (laws_szIncludesS.f a0_2 a1).bind fun t8 => (if t8 < 0 then (some (-1)) else ((laws_szPolicy.f k a0_3 a0_4 t8).bind fun t14 => (if t14 < 0 then (some (-1)) else (some t14))))
def laws_szEpochS.l0 : Nat → List S105 → Int → Int → Option (Int)
 | 0, _, _, _ => none
 | k + 1, x0, x1, x5 => if x5 < (x0.length : Int) then (if 0 ≤ x5 then ((laws_szEpoch.f k ((rd_T105 x0 x5).f0) ((rd_T105 x0 x5).f1) ((rd_T105 x0 x5).f2) ((rd_T105 x0 x5).f3.f0) ((rd_T105 x0 x5).f3.f1) x1).bind fun t23 => (if t23 < 0 then (some (-1)) else (laws_szEpochS.l0 k x0 t23 (wrap64 (x5 + 1))))) else none) else (some x1)
def laws_szEpochS.f (k : Nat) (a0 : List S105) (a1 : Int) : Option (Int) := if (wrap64 (a1 - (a0.length : Int))) < 0 then (some (-1)) else (laws_szEpochS.l0 k a0 (wrap64 (a1 - (a0.length : Int))) 0)
def laws_szFactS.f (a0 : List S123) (a1 : Int) : Option (Int) := if (wrap64 (a1 - (a0.length : Int))) < 0 then (some (-1)) else (some (wrap64 (a1 - (a0.length : Int))))
def laws_szRevokedS.f (a0 : List S127) (a1 : Int) : Option (Int) := if (wrap64 (a1 - (a0.length : Int))) < 0 then (some (-1)) else (some (wrap64 (a1 - (a0.length : Int))))
def laws_szCertS.f (a0 : List S131) (a1 : Int) : Option (Int) := if (wrap64 (a1 - (a0.length : Int))) < 0 then (some (-1)) else (some (wrap64 (a1 - (a0.length : Int))))
def laws_szCenter.f (k : Nat) (a0_0 : List S100) (a0_1 : List S105) (a0_2 : List S123) (a0_3 : List S127) (a0_4 : Int) (a0_5 : List S131) (a1 : Int) : Option (Int) := (laws_szIssuerS.f k a0_0 a1).bind fun t8 => (if t8 < 0 then (some (-1)) else ((laws_szEpochS.f k a0_1 t8).bind fun t14 => (if t14 < 0 then (some (-1)) else ((laws_szFactS.f a0_2 t14).bind fun t20 => (if t20 < 0 then (some (-1)) else ((laws_szRevokedS.f a0_3 t20).bind fun t26 => (if t26 < 0 then (some (-1)) else ((laws_szCertS.f a0_5 t26).bind fun t32 => (if t32 < 0 then (some (-1)) else (some t32))))))))))
def laws_toIntS.l0 : Nat → List Int → List Int → Int → Option ((List Int))
 | 0, _, _, _ => none
 | k + 1, x0, x3, x4 => if x4 < (x0.length : Int) then (if 0 ≤ x4 then (if x4 < (x3.length : Int) then (laws_toIntS.l0 k x0 (x3.set (x4 : Int).toNat (rd x0 x4)) (wrap64 (x4 + 1))) else none) else none) else (some x3)
def laws_toIntS.f (k : Nat) (a0 : List Int) : Option ((List Int)) := if (a0.length : Int) = (a0.length : Int) then (if 0 ≤ (a0.length : Int) then (if (a0.length : Int) ≤ 35184372088832 then (laws_toIntS.l0 k a0 (List.replicate (a0.length : Int).toNat 0) 0) else none) else none) else none
def laws_toIssuer.f (k : Nat) (a0_0 : Int) (a0_1 : List Int) (a0_2 : Int) : Option (Int × (List Int) × Int) := (laws_toIntS.f k a0_1).bind fun t9 => (some (a0_0, t9, a0_2))
def laws_toIssuerS.l0 : Nat → List S100 → List S117 → Int → Option ((List S117))
 | 0, _, _, _ => none
 | k + 1, x0, x3, x4 => if x4 < (x0.length : Int) then (if 0 ≤ x4 then ((laws_toIssuer.f k ((rd_T100 x0 x4).f0) ((rd_T100 x0 x4).f1) ((rd_T100 x0 x4).f2)).bind fun t20 => (if x4 < (x3.length : Int) then (laws_toIssuerS.l0 k x0 (x3.set (x4 : Int).toNat (⟨t20.1, t20.2.1, t20.2.2⟩ : S117)) (wrap64 (x4 + 1))) else none)) else none) else (some x3)
def laws_toIssuerS.f (k : Nat) (a0 : List S100) : Option ((List S117)) := if (a0.length : Int) = (a0.length : Int) then (if 0 ≤ (a0.length : Int) then (if (a0.length : Int) ≤ 7036874417766 then (laws_toIssuerS.l0 k a0 (List.replicate (a0.length : Int).toNat (⟨0, ([] : List Int), 0⟩ : S117)) 0) else none) else none) else none
def laws_toIncludes.f (a0_0 : Int) (a0_1 : Int) : Option (Int × Int) := some (a0_0, a0_1)
def laws_toIncludesS.l0 : Nat → List S77 → List S75 → Int → Option ((List S75))
 | 0, _, _, _ => none
 | k + 1, x0, x3, x4 => if x4 < (x0.length : Int) then (if 0 ≤ x4 then ((laws_toIncludes.f ((rd_T77 x0 x4).f0) ((rd_T77 x0 x4).f1)).bind fun t20 => (if x4 < (x3.length : Int) then (laws_toIncludesS.l0 k x0 (x3.set (x4 : Int).toNat (⟨t20.1, t20.2⟩ : S75)) (wrap64 (x4 + 1))) else none)) else none) else (some x3)
def laws_toIncludesS.f (k : Nat) (a0 : List S77) : Option ((List S75)) := if (a0.length : Int) = (a0.length : Int) then (if 0 ≤ (a0.length : Int) then (if (a0.length : Int) ≤ 17592186044416 then (laws_toIncludesS.l0 k a0 (List.replicate (a0.length : Int).toNat (⟨0, 0⟩ : S75)) 0) else none) else none) else none
mutual
def laws_toCondS.l0 : Nat → List S63 → List S80 → Int → Option ((List S80))
 | 0, _, _, _ => none
 | k + 1, x0, x3, x4 => if x4 < (x0.length : Int) then (if 0 ≤ x4 then ((laws_toCond.f k ((rd_T63 x0 x4).f0) ((rd_T63 x0 x4).f1) ((rd_T63 x0 x4).f2) ((rd_T63 x0 x4).f3)).bind fun t20 => (if x4 < (x3.length : Int) then (laws_toCondS.l0 k x0 (x3.set (x4 : Int).toNat (⟨t20.1, t20.2.1, t20.2.2.1, t20.2.2.2⟩ : S80)) (wrap64 (x4 + 1))) else none)) else none) else (some x3)
def laws_toCondS.f : Nat → List S63 → Option ((List S80))
 | 0, _ => none
 | k + 1, a0 => if (a0.length : Int) = (a0.length : Int) then (if 0 ≤ (a0.length : Int) then (if (a0.length : Int) ≤ 5864062014805 then (laws_toCondS.l0 k a0 (List.replicate (a0.length : Int).toNat (⟨0, 0, 0, ([] : List S80)⟩ : S80)) 0) else none) else none) else none
def laws_toCond.f : Nat → Int → Int → Int → List S63 → Option (Int × Int × Int × (List S80))
 | 0, _, _, _, _ => none
 | k + 1, a0_0, a0_1, a0_2, a0_3 => (laws_toCondS.f k a0_3).bind fun t15 => (some (a0_0, a0_1, a0_2, t15))
end
def laws_toRule.f (k : Nat) (a0_0 : Int) (a0_1 : Int) (a0_2 : Int) (a0_3 : Int) (a0_4 : Int) (a0_5 : Int) (a0_6 : List S63) : Option (Int × Int × Int × Int × Int × Int × (List S80)) := (laws_toCond.f k a0_3 a0_4 a0_5 a0_6).bind fun t15 => (some (a0_0, a0_1, a0_2, t15.1, t15.2.1, t15.2.2.1, t15.2.2.2))
def laws_toRuleS.l0 : Nat → List S65 → List S82 → Int → Option ((List S82))
 | 0, _, _, _ => none
 | k + 1, x0, x3, x4 => if x4 < (x0.length : Int) then (if 0 ≤ x4 then ((laws_toRule.f k ((rd_T65 x0 x4).f0) ((rd_T65 x0 x4).f1) ((rd_T65 x0 x4).f2) ((rd_T65 x0 x4).f3.f0) ((rd_T65 x0 x4).f3.f1) ((rd_T65 x0 x4).f3.f2) ((rd_T65 x0 x4).f3.f3)).bind fun t20 => (if x4 < (x3.length : Int) then (laws_toRuleS.l0 k x0 (x3.set (x4 : Int).toNat (⟨t20.1, t20.2.1, t20.2.2.1, (⟨t20.2.2.2.1, t20.2.2.2.2.1, t20.2.2.2.2.2.1, t20.2.2.2.2.2.2⟩ : S80)⟩ : S82)) (wrap64 (x4 + 1))) else none)) else none) else (some x3)
def laws_toRuleS.f (k : Nat) (a0 : List S65) : Option ((List S82)) := if (a0.length : Int) = (a0.length : Int) then (if 0 ≤ (a0.length : Int) then (if (a0.length : Int) ≤ 3909374676536 then (laws_toRuleS.l0 k a0 (List.replicate (a0.length : Int).toNat (⟨0, 0, 0, (⟨0, 0, 0, ([] : List S80)⟩ : S80)⟩ : S82)) 0) else none) else none) else none
def laws_toPolicy.f (k : Nat) (a0_0 : Int) (a0_1 : List S65) : Option (Int × (List S82)) := (laws_toRuleS.f k a0_1).bind fun t9 => (some (a0_0, t9))
def laws_toEpoch.f (k : Nat) (a0_0 : Int) (a0_1 : Int) (a0_2 : List S77) (a0_3 : Int) (a0_4 : List S65) : Option (Int × Int × (List S75) × Int × (List S82)) := (laws_toIncludesS.f k a0_2).bind fun t12 => ((laws_toPolicy.f k a0_3 a0_4).bind fun t16 => (some (a0_0, a0_1, t12, t16.1, t16.2)))
def laws_toEpochS.l0 : Nat → List S105 → List S115 → Int → Option ((List S115))
 | 0, _, _, _ => none
 | k + 1, x0, x3, x4 => if x4 < (x0.length : Int) then (if 0 ≤ x4 then ((laws_toEpoch.f k ((rd_T105 x0 x4).f0) ((rd_T105 x0 x4).f1) ((rd_T105 x0 x4).f2) ((rd_T105 x0 x4).f3.f0) ((rd_T105 x0 x4).f3.f1)).bind fun t20 => (if x4 < (x3.length : Int) then (laws_toEpochS.l0 k x0 (x3.set (x4 : Int).toNat (⟨t20.1, t20.2.1, t20.2.2.1, (⟨t20.2.2.2.1, t20.2.2.2.2⟩ : S113)⟩ : S115)) (wrap64 (x4 + 1))) else none)) else none) else (some x3)
def laws_toEpochS.f (k : Nat) (a0 : List S105) : Option ((List S115)) := if (a0.length : Int) = (a0.length : Int) then (if 0 ≤ (a0.length : Int) then (if (a0.length : Int) ≤ 3909374676536 then (laws_toEpochS.l0 k a0 (List.replicate (a0.length : Int).toNat (⟨0, 0, ([] : List S75), (⟨0, ([] : List S82)⟩ : S113)⟩ : S115)) 0) else none) else none) else none
def laws_toFact.f (a0_0 : Int) (a0_1 : Int) (a0_2 : Int) (a0_3 : Int) (a0_4 : Int) (a0_5 : Int) : Option (Int × Int × Int × Int × Int × Int) := some (a0_0, a0_1, a0_2, a0_3, a0_4, a0_5)
def laws_toFactS.l0 : Nat → List S123 → List S121 → Int → Option ((List S121))
 | 0, _, _, _ => none
 | k + 1, x0, x3, x4 => if x4 < (x0.length : Int) then (if 0 ≤ x4 then ((laws_toFact.f ((rd_T123 x0 x4).f0) ((rd_T123 x0 x4).f1) ((rd_T123 x0 x4).f2) ((rd_T123 x0 x4).f3) ((rd_T123 x0 x4).f4) ((rd_T123 x0 x4).f5)).bind fun t20 => (if x4 < (x3.length : Int) then (laws_toFactS.l0 k x0 (x3.set (x4 : Int).toNat (⟨t20.1, t20.2.1, t20.2.2.1, t20.2.2.2.1, t20.2.2.2.2.1, t20.2.2.2.2.2⟩ : S121)) (wrap64 (x4 + 1))) else none)) else none) else (some x3)
def laws_toFactS.f (k : Nat) (a0 : List S123) : Option ((List S121)) := if (a0.length : Int) = (a0.length : Int) then (if 0 ≤ (a0.length : Int) then (if (a0.length : Int) ≤ 5864062014805 then (laws_toFactS.l0 k a0 (List.replicate (a0.length : Int).toNat (⟨0, 0, 0, 0, 0, 0⟩ : S121)) 0) else none) else none) else none
def laws_toRevoked.f (a0_0 : Int) (a0_1 : Int) : Option (Int × Int) := some (a0_0, a0_1)
def laws_toRevokedS.l0 : Nat → List S127 → List S125 → Int → Option ((List S125))
 | 0, _, _, _ => none
 | k + 1, x0, x3, x4 => if x4 < (x0.length : Int) then (if 0 ≤ x4 then ((laws_toRevoked.f ((rd_T127 x0 x4).f0) ((rd_T127 x0 x4).f1)).bind fun t20 => (if x4 < (x3.length : Int) then (laws_toRevokedS.l0 k x0 (x3.set (x4 : Int).toNat (⟨t20.1, t20.2⟩ : S125)) (wrap64 (x4 + 1))) else none)) else none) else (some x3)
def laws_toRevokedS.f (k : Nat) (a0 : List S127) : Option ((List S125)) := if (a0.length : Int) = (a0.length : Int) then (if 0 ≤ (a0.length : Int) then (if (a0.length : Int) ≤ 17592186044416 then (laws_toRevokedS.l0 k a0 (List.replicate (a0.length : Int).toNat (⟨0, 0⟩ : S125)) 0) else none) else none) else none
def laws_toCert.f (a0_0 : Int) (a0_1 : Int) (a0_2 : Int) (a0_3 : Int) (a0_4 : Int) (a0_5 : Int) : Option (Int × Int × Int × Int × Int × Int) := some (a0_0, a0_1, a0_2, a0_3, a0_4, a0_5)
def laws_toCertS.l0 : Nat → List S131 → List S129 → Int → Option ((List S129))
 | 0, _, _, _ => none
 | k + 1, x0, x3, x4 => if x4 < (x0.length : Int) then (if 0 ≤ x4 then ((laws_toCert.f ((rd_T131 x0 x4).f0) ((rd_T131 x0 x4).f1) ((rd_T131 x0 x4).f2) ((rd_T131 x0 x4).f3) ((rd_T131 x0 x4).f4) ((rd_T131 x0 x4).f5)).bind fun t20 => (if x4 < (x3.length : Int) then (laws_toCertS.l0 k x0 (x3.set (x4 : Int).toNat (⟨t20.1, t20.2.1, t20.2.2.1, t20.2.2.2.1, t20.2.2.2.2.1, t20.2.2.2.2.2⟩ : S129)) (wrap64 (x4 + 1))) else none)) else none) else (some x3)
def laws_toCertS.f (k : Nat) (a0 : List S131) : Option ((List S129)) := if (a0.length : Int) = (a0.length : Int) then (if 0 ≤ (a0.length : Int) then (if (a0.length : Int) ≤ 5864062014805 then (laws_toCertS.l0 k a0 (List.replicate (a0.length : Int).toNat (⟨0, 0, 0, 0, 0, 0⟩ : S129)) 0) else none) else none) else none
def laws_toCenter.f (k : Nat) (a0_0 : List S100) (a0_1 : List S105) (a0_2 : List S123) (a0_3 : List S127) (a0_4 : Int) (a0_5 : List S131) : Option ((List S117) × (List S115) × (List S121) × (List S125) × Int × (List S129)) := (laws_toIssuerS.f k a0_0).bind fun t6 => ((laws_toEpochS.f k a0_1).bind fun t10 => ((laws_toFactS.f k a0_2).bind fun t14 => ((laws_toRevokedS.f k a0_3).bind fun t18 => ((laws_toCertS.f k a0_5).bind fun t25 => (some (t6, t10, t14, t18, a0_4, t25))))))
def spec_l8Copy.l0 : Nat → List S117 → List S117 → Int → Option ((List S117))
 | 0, _, _, _ => none
 | k + 1, x0, x3, x4 => if x4 < (x0.length : Int) then (if 0 ≤ x4 then (if 0 + ((rd_T117 x0 x4).f1).length ≤ 17592186044416 then (if x3.length < 3518437208883 then (spec_l8Copy.l0 k x0 (x3 ++ ([(⟨(rd_T117 x0 x4).f0, (([] : List Int) ++ ((rd_T117 x0 x4).f1)), (rd_T117 x0 x4).f2⟩ : S117)] : List S117)) (wrap64 (x4 + 1))) else none) else none) else none) else (some x3)
def spec_l8Copy.f (k : Nat) (a0 : List S117) : Option ((List S117)) := spec_l8Copy.l0 k a0 ([] : List S117) 0
mutual
def spec_l15Copy.l0 : Nat → Int → Int → Int → List S80 → Int → Int → Int → List S80 → Int → Int → Int → List S80 → Int → Option (Int × Int × Int × (List S80))
 | 0, _, _, _, _, _, _, _, _, _, _, _, _, _ => none
 | k + 1, x1_0, x1_1, x1_2, x1_3, x2_0, x2_1, x2_2, x2_3, x3_0, x3_1, x3_2, x3_3, x4 => if x4 < (x1_3.length : Int) then (if 0 ≤ x4 then ((spec_l15Copy.f k ((rd_T80 x1_3 x4).f0) ((rd_T80 x1_3 x4).f1) ((rd_T80 x1_3 x4).f2) ((rd_T80 x1_3 x4).f3)).bind fun t26 => (if x3_3.length < 2932031007402 then (spec_l15Copy.l0 k x1_0 x1_1 x1_2 x1_3 x2_0 x2_1 x2_2 x2_3 x3_0 x3_1 x3_2 (x3_3 ++ ([(⟨t26.1, t26.2.1, t26.2.2.1, t26.2.2.2⟩ : S80)] : List S80)) (wrap64 (x4 + 1))) else none)) else none) else (some (x3_0, x3_1, x3_2, x3_3))
def spec_l15Copy.f : Nat → Int → Int → Int → List S80 → Option (Int × Int × Int × (List S80))
 | 0, _, _, _, _ => none
 | k + 1, a0_0, a0_1, a0_2, a0_3 => spec_l15Copy.l0 k a0_0 a0_1 a0_2 a0_3 0 0 0 ([] : List S80) a0_0 a0_1 a0_2 ([] : List S80) 0
end
def spec_l19Copy.l0 : Nat → Int → List S82 → Int → List S82 → Int → List S82 → Int → Option (Int × (List S82))
 | 0, _, _, _, _, _, _, _ => none
 | k + 1, x1_0, x1_1, x2_0, x2_1, x3_0, x3_1, x4 => if x4 < (x1_1.length : Int) then (if 0 ≤ x4 then ((spec_l15Copy.f k ((rd_T82 x1_1 x4).f3.f0) ((rd_T82 x1_1 x4).f3.f1) ((rd_T82 x1_1 x4).f3.f2) ((rd_T82 x1_1 x4).f3.f3)).bind fun t27 => (if x3_1.length < 1954687338268 then (spec_l19Copy.l0 k x1_0 x1_1 x2_0 x2_1 x3_0 (x3_1 ++ ([(⟨(rd_T82 x1_1 x4).f0, (rd_T82 x1_1 x4).f1, (rd_T82 x1_1 x4).f2, (⟨t27.1, t27.2.1, t27.2.2.1, t27.2.2.2⟩ : S80)⟩ : S82)] : List S82)) (wrap64 (x4 + 1))) else none)) else none) else (some (x3_0, x3_1))
def spec_l19Copy.f (k : Nat) (a0_0 : Int) (a0_1 : List S82) : Option (Int × (List S82)) := spec_l19Copy.l0 k a0_0 a0_1 0 ([] : List S82) a0_0 ([] : List S82) 0
def spec_l24Copy.f (k : Nat) (a0_0 : Int) (a0_1 : Int) (a0_2 : List S75) (a0_3 : Int) (a0_4 : List S82) : Option (Int × Int × (List S75) × Int × (List S82)) := if 0 + a0_2.length ≤ 8796093022208 then ((spec_l19Copy.f k a0_3 a0_4).bind fun t13 => (some (a0_0, a0_1, (([] : List S75) ++ a0_2), t13.1, t13.2))) else none
def spec_l24All.l0 : Nat → List S115 → List S115 → Int → Option ((List S115))
 | 0, _, _, _ => none
 | k + 1, x0, x3, x4 => if x4 < (x0.length : Int) then (if 0 ≤ x4 then ((spec_l24Copy.f k ((rd_T115 x0 x4).f0) ((rd_T115 x0 x4).f1) ((rd_T115 x0 x4).f2) ((rd_T115 x0 x4).f3.f0) ((rd_T115 x0 x4).f3.f1)).bind fun t17 => (if x3.length < 1954687338268 then (spec_l24All.l0 k x0 (x3 ++ ([(⟨t17.1, t17.2.1, t17.2.2.1, (⟨t17.2.2.2.1, t17.2.2.2.2⟩ : S113)⟩ : S115)] : List S115)) (wrap64 (x4 + 1))) else none)) else none) else (some x3)
def spec_l24All.f (k : Nat) (a0 : List S115) : Option ((List S115)) := spec_l24All.l0 k a0 ([] : List S115) 0
def spec_l7Copy.f (a0 : List S121) : Option ((List S121)) := if 0 + a0.length ≤ 2932031007402 then (some (([] : List S121) ++ a0)) else none
def spec_l28Copy.f (k : Nat) (a0_0 : List S117) (a0_1 : List S115) (a0_2 : List S121) (a0_3 : List S125) (a0_4 : Int) (a0_5 : List S129) : Option ((List S117) × (List S115) × (List S121) × (List S125) × Int × (List S129)) := (spec_l8Copy.f k a0_0).bind fun t5 => ((spec_l24All.f k a0_1).bind fun t8 => ((spec_l7Copy.f a0_2).bind fun t11 => (if 0 + a0_3.length ≤ 8796093022208 then (if 0 + a0_5.length ≤ 2932031007402 then (some (t5, t8, t11, (([] : List S125) ++ a0_3), a0_4, (([] : List S129) ++ a0_5))) else none) else none)))
def spec_l1In.f (a0 : Int) (a1 : Int) (a2 : Int) : Option (Bool) := if a0 ≥ a1 then (some (decide (a0 ≤ a2))) else (some false)
def spec_IsTime.f (a0 : Int) : Option (Bool) := (spec_l1In.f a0 0 10000).bind fun t4 => (some t4)
mutual
def spec_RolesUnder.l0 : Nat → List S75 → List Int → List Bool → Int → Option ((List Int))
 | 0, _, _, _, _ => none
 | k + 1, x0, x5, x6, x7 => if x7 ≤ 5 then (spec_RolesUnder.l1 k x0 x5 x6 x7 0) else (spec_RolesUnder.l2 k x5 x6 0)
def spec_RolesUnder.l1 : Nat → List S75 → List Int → List Bool → Int → Int → Option ((List Int))
 | 0, _, _, _, _, _ => none
 | k + 1, x0, x5, x6, x7, x8 => if x8 < (x0.length : Int) then (if 0 ≤ x8 then ((spec_l1In.f ((rd_T75 x0 x8).f0) 0 5).bind fun t34 => (if t34 = true then ((spec_l1In.f ((rd_T75 x0 x8).f1) 0 5).bind fun t41 => (if t41 = true then (if 0 ≤ (rd_T75 x0 x8).f0 then (if (rd_T75 x0 x8).f0 < (x6.length : Int) then (if (rdOf false x6 ((rd_T75 x0 x8).f0)) = true then (if 0 ≤ (rd_T75 x0 x8).f1 then (if (rd_T75 x0 x8).f1 < (x6.length : Int) then (spec_RolesUnder.l1 k x0 x5 (x6.set ((rd_T75 x0 x8).f1 : Int).toNat true) x7 (wrap64 (x8 + 1))) else none) else none) else (spec_RolesUnder.l1 k x0 x5 x6 x7 (wrap64 (x8 + 1)))) else none) else none) else (spec_RolesUnder.l1 k x0 x5 x6 x7 (wrap64 (x8 + 1))))) else (spec_RolesUnder.l1 k x0 x5 x6 x7 (wrap64 (x8 + 1))))) else none) else (spec_RolesUnder.l0 k x0 x5 x6 (wrap64 (x7 + 1)))
def spec_RolesUnder.l2 : Nat → List Int → List Bool → Int → Option ((List Int))
 | 0, _, _, _ => none
 | k + 1, x5, x6, x9 => if x9 ≤ 5 then (if 0 ≤ x9 then (if x9 < (x6.length : Int) then (if (rdOf false x6 x9) = true then (if x5.length < 17592186044416 then (spec_RolesUnder.l2 k (x5 ++ [x9]) x6 (wrap64 (x9 + 1))) else none) else (spec_RolesUnder.l2 k x5 x6 (wrap64 (x9 + 1)))) else none) else none) else (some x5)
end
def spec_RolesUnder.f (k : Nat) (a0 : List S75) (a1 : Int) : Option ((List Int)) := (spec_l1In.f a1 0 5).bind fun t12 => (if t12 = true then (if 0 ≤ a1 then (if a1 < ((List.replicate 6 false).length : Int) then (spec_RolesUnder.l0 k a0 ([] : List Int) ((List.replicate 6 false).set (a1 : Int).toNat true) 0) else none) else none) else (some ([] : List Int)))
def spec_l13Has.l0 : Nat → List Int → Int → Int → Option (Bool)
 | 0, _, _, _ => none
 | k + 1, x0, x1, x5 => if x5 < (x0.length : Int) then (if 0 ≤ x5 then (if (rd x0 x5) = x1 then (some true) else (spec_l13Has.l0 k x0 x1 (wrap64 (x5 + 1)))) else none) else (some false)
def spec_l13Has.f (k : Nat) (a0 : List Int) (a1 : Int) : Option (Bool) := spec_l13Has.l0 k a0 a1 0
def spec_ArePairs.l0 : Nat → List S75 → Int → Option (Bool)
 | 0, _, _ => none
 | k + 1, x0, x3 => if x3 < (x0.length : Int) then (if 0 ≤ x3 then ((spec_l1In.f ((rd_T75 x0 x3).f0) 0 5).bind fun t15 => (if t15 = true then ((spec_l1In.f ((rd_T75 x0 x3).f1) 0 5).bind fun t23 => (if t23 = true then ((spec_RolesUnder.f k x0 ((rd_T75 x0 x3).f1)).bind fun t33 => ((spec_l13Has.f k t33 ((rd_T75 x0 x3).f0)).bind fun t39 => (if t39 = true then (some false) else (spec_ArePairs.l0 k x0 (wrap64 (x3 + 1)))))) else (some false))) else (some false))) else none) else (some (decide ((x0.length : Int) ≤ 10)))
def spec_ArePairs.f (k : Nat) (a0 : List S75) : Option (Bool) := spec_ArePairs.l0 k a0 0
mutual
def spec_l15Left.l0 : Nat → Int → Int → Int → Int → List S80 → Int → Option (Int)
 | 0, _, _, _, _, _, _ => none
 | k + 1, x1, x2_0, x2_1, x2_2, x2_3, x5 => if x5 < (x2_3.length : Int) then (if x1 ≥ 0 then (if 0 ≤ x5 then ((spec_l15Left.f k ((rd_T80 x2_3 x5).f0) ((rd_T80 x2_3 x5).f1) ((rd_T80 x2_3 x5).f2) ((rd_T80 x2_3 x5).f3) x1).bind fun t25 => (spec_l15Left.l0 k t25 x2_0 x2_1 x2_2 x2_3 (wrap64 (x5 + 1)))) else none) else (some x1)) else (some x1)
def spec_l15Left.f : Nat → Int → Int → Int → List S80 → Int → Option (Int)
 | 0, _, _, _, _, _ => none
 | k + 1, a0_0, a0_1, a0_2, a0_3, a1 => spec_l15Left.l0 k (wrap64 (a1 - 1)) a0_0 a0_1 a0_2 a0_3 0
end
def spec_ArityOf.f (a0 : Int) : Option (Int) := if a0 = 1 then (some 0) else (if a0 = 2 then (some 0) else (if a0 = 3 then (some 0) else (if a0 = 4 then (some 0) else (if a0 = 5 then (some 0) else (if a0 = 6 then (some 0) else (if a0 = 7 then (some 1) else (if a0 = 8 then (some 2) else (if a0 = 9 then (some 2) else (some (-1))))))))))
def spec_l15Node.f (a0_0 : Int) (a0_1 : Int) (a0_2 : Int) (a0_3 : List S80) : Option (Bool) := if a0_0 = 2 then ((spec_l1In.f a0_1 0 5).bind fun t17 => ((spec_l1In.f a0_0 2 5).bind fun t31 => (if t31 = true then ((spec_IsTime.f a0_2).bind fun t34 => (if t17 = true then (if t34 = true then ((spec_ArityOf.f a0_0).bind fun t45 => (some (decide ((a0_3.length : Int) = t45)))) else (some false)) else (some false))) else (if t17 = true then (if a0_2 = 0 then ((spec_ArityOf.f a0_0).bind fun t45 => (some (decide ((a0_3.length : Int) = t45)))) else (some false)) else (some false))))) else (if a0_0 = 4 then ((spec_l1In.f a0_1 0 3).bind fun t23 => ((spec_l1In.f a0_0 2 5).bind fun t31 => (if t31 = true then ((spec_IsTime.f a0_2).bind fun t34 => (if t23 = true then (if t34 = true then ((spec_ArityOf.f a0_0).bind fun t45 => (some (decide ((a0_3.length : Int) = t45)))) else (some false)) else (some false))) else (if t23 = true then (if a0_2 = 0 then ((spec_ArityOf.f a0_0).bind fun t45 => (some (decide ((a0_3.length : Int) = t45)))) else (some false)) else (some false))))) else (if a0_0 = 5 then ((spec_l1In.f a0_1 0 3).bind fun t23 => ((spec_l1In.f a0_0 2 5).bind fun t31 => (if t31 = true then ((spec_IsTime.f a0_2).bind fun t34 => (if t23 = true then (if t34 = true then ((spec_ArityOf.f a0_0).bind fun t45 => (some (decide ((a0_3.length : Int) = t45)))) else (some false)) else (some false))) else (if t23 = true then (if a0_2 = 0 then ((spec_ArityOf.f a0_0).bind fun t45 => (some (decide ((a0_3.length : Int) = t45)))) else (some false)) else (some false))))) else (if a0_0 = 6 then ((spec_IsTime.f a0_1).bind fun t28 => ((spec_l1In.f a0_0 2 5).bind fun t31 => (if t31 = true then ((spec_IsTime.f a0_2).bind fun t34 => (if t28 = true then (if t34 = true then ((spec_ArityOf.f a0_0).bind fun t45 => (some (decide ((a0_3.length : Int) = t45)))) else (some false)) else (some false))) else (if t28 = true then (if a0_2 = 0 then ((spec_ArityOf.f a0_0).bind fun t45 => (some (decide ((a0_3.length : Int) = t45)))) else (some false)) else (some false))))) else ((spec_l1In.f a0_0 2 5).bind fun t31 => (if t31 = true then ((spec_IsTime.f a0_2).bind fun t34 => (if a0_1 = 0 then (if t34 = true then ((spec_ArityOf.f a0_0).bind fun t45 => (some (decide ((a0_3.length : Int) = t45)))) else (some false)) else (some false))) else (if a0_1 = 0 then (if a0_2 = 0 then ((spec_ArityOf.f a0_0).bind fun t45 => (some (decide ((a0_3.length : Int) = t45)))) else (some false)) else (some false)))))))
mutual
def spec_l15Valid.l0 : Nat → Int → Int → Int → List S80 → Int → Option (Bool)
 | 0, _, _, _, _, _ => none
 | k + 1, x1_0, x1_1, x1_2, x1_3, x3 => if x3 < (x1_3.length : Int) then (if 0 ≤ x3 then ((spec_l15Valid.f k ((rd_T80 x1_3 x3).f0) ((rd_T80 x1_3 x3).f1) ((rd_T80 x1_3 x3).f2) ((rd_T80 x1_3 x3).f3)).bind fun t19 => (if t19 = true then (spec_l15Valid.l0 k x1_0 x1_1 x1_2 x1_3 (wrap64 (x3 + 1))) else (some false))) else none) else (some true)
def spec_l15Valid.f : Nat → Int → Int → Int → List S80 → Option (Bool)
 | 0, _, _, _, _ => none
 | k + 1, a0_0, a0_1, a0_2, a0_3 => (spec_l15Node.f a0_0 a0_1 a0_2 a0_3).bind fun t5 => (if t5 = true then (spec_l15Valid.l0 k a0_0 a0_1 a0_2 a0_3 0) else (some false))
end
def spec_IsCond.f (k : Nat) (a0_0 : Int) (a0_1 : Int) (a0_2 : Int) (a0_3 : List S80) : Option (Bool) := (spec_l15Left.f k a0_0 a0_1 a0_2 a0_3 15).bind fun t4 => (if t4 ≥ 0 then ((spec_l15Valid.f k a0_0 a0_1 a0_2 a0_3).bind fun t8 => (some t8)) else (some false))
def spec_IsName.f (a0 : Int) : Option (Bool) := (spec_l1In.f a0 10 49).bind fun t4 => (some t4)
def spec_HasKind.f (a0 : Int) (a1 : Int) : Option (Bool) := (spec_IsName.f a0).bind fun t6 => (if t6 = true then (some (decide ((wrap64 (Int.tdiv a0 10)) = a1))) else (some false))
def spec_IsRule.f (k : Nat) (a0_0 : Int) (a0_1 : Int) (a0_2 : Int) (a0_3 : Int) (a0_4 : Int) (a0_5 : Int) (a0_6 : List S80) : Option (Bool) := (spec_l1In.f a0_0 0 1).bind fun t5 => (if t5 = true then ((spec_l1In.f a0_1 (-1) 5).bind fun t9 => (if t9 = true then (if a0_2 = (-1) then ((spec_IsCond.f k a0_3 a0_4 a0_5 a0_6).bind fun t24 => (some t24)) else ((spec_HasKind.f a0_2 4).bind fun t18 => (if t18 = true then ((spec_IsCond.f k a0_3 a0_4 a0_5 a0_6).bind fun t24 => (some t24)) else (some false)))) else (some false))) else (some false))
def spec_IsPolicy.l0 : Nat → Int → List S82 → Int → Option (Bool)
 | 0, _, _, _ => none
 | k + 1, x1_0, x1_1, x3 => if x3 < (x1_1.length : Int) then (if 0 ≤ x3 then ((spec_IsRule.f k ((rd_T82 x1_1 x3).f0) ((rd_T82 x1_1 x3).f1) ((rd_T82 x1_1 x3).f2) ((rd_T82 x1_1 x3).f3.f0) ((rd_T82 x1_1 x3).f3.f1) ((rd_T82 x1_1 x3).f3.f2) ((rd_T82 x1_1 x3).f3.f3)).bind fun t16 => (if t16 = true then (spec_IsPolicy.l0 k x1_0 x1_1 (wrap64 (x3 + 1))) else (some false))) else none) else ((spec_l1In.f x1_0 0 999).bind fun t20 => (if t20 = true then (some (decide ((x1_1.length : Int) ≤ 8))) else (some false)))
def spec_IsPolicy.f (k : Nat) (a0_0 : Int) (a0_1 : List S82) : Option (Bool) := spec_IsPolicy.l0 k a0_0 a0_1 0
def spec_IsEpoch.f (k : Nat) (a0_0 : Int) (a0_1 : Int) (a0_2 : List S75) (a0_3 : Int) (a0_4 : List S82) : Option (Bool) := (spec_l1In.f a0_0 0 999).bind fun t5 => (if t5 = true then ((spec_IsTime.f a0_1).bind fun t9 => (if t9 = true then ((spec_ArePairs.f k a0_2).bind fun t14 => (if t14 = true then ((spec_IsPolicy.f k a0_3 a0_4).bind fun t19 => (if t19 = true then (some (decide (a0_3 = a0_0))) else (some false))) else (some false))) else (some false))) else (some false))
def spec_AreEpochs.l0 : Nat → List S115 → Int → Option (Bool)
 | 0, _, _ => none
 | k + 1, x0, x3 => if x3 < (x0.length : Int) then (if 0 ≤ x3 then ((spec_IsEpoch.f k ((rd_T115 x0 x3).f0) ((rd_T115 x0 x3).f1) ((rd_T115 x0 x3).f2) ((rd_T115 x0 x3).f3.f0) ((rd_T115 x0 x3).f3.f1)).bind fun t14 => (if t14 = true then (if x3 > 0 then (if 0 ≤ (wrap64 (x3 - 1)) then (if (wrap64 (x3 - 1)) < (x0.length : Int) then (if (rd_T115 x0 (wrap64 (x3 - 1))).f0 ≥ (rd_T115 x0 x3).f0 then (some false) else (if (rd_T115 x0 (wrap64 (x3 - 1))).f1 > (rd_T115 x0 x3).f1 then (some false) else (spec_AreEpochs.l0 k x0 (wrap64 (x3 + 1))))) else none) else none) else (spec_AreEpochs.l0 k x0 (wrap64 (x3 + 1)))) else (some false))) else none) else (some (decide ((x0.length : Int) ≤ 6)))
def spec_AreEpochs.f (k : Nat) (a0 : List S115) : Option (Bool) := spec_AreEpochs.l0 k a0 0
def spec_NewestNumber.f (a0 : List S115) : Option (Int) := if (a0.length : Int) = 0 then (some 0) else (if 0 ≤ (wrap64 ((a0.length : Int) - 1)) then (if (wrap64 ((a0.length : Int) - 1)) < (a0.length : Int) then (some ((rd_T115 a0 (wrap64 ((a0.length : Int) - 1))).f0)) else none) else none)
def spec_PublishEpoch.f (k : Nat) (a0 : List S115) (a1 : List S75) (a2 : List S82) (a3 : Int) : Option ((List S115) × Bool) := (spec_AreEpochs.f k a0).bind fun t13 => (if t13 = true then ((spec_NewestNumber.f a0).bind fun t18 => ((spec_NewestNumber.f a0).bind fun t23 => ((spec_l24All.f k a0).bind fun t29 => ((spec_l24Copy.f k (wrap64 (t18 + 1)) a3 a1 (wrap64 (t23 + 1)) a2).bind fun t31 => ((some ([(⟨t31.1, t31.2.1, t31.2.2.1, (⟨t31.2.2.2.1, t31.2.2.2.2⟩ : S113)⟩ : S115)] : List S115) : Option (List S115)).bind fun y32_6 => (if t29.length < 1954687338268 then (if ((t29 ++ y32_6).length : Int) > 6 then (if 1 ≤ ((t29 ++ y32_6).length : Int) then ((spec_AreEpochs.f k ((t29 ++ y32_6).drop 1)).bind fun t40 => (if t40 = true then (some (((t29 ++ y32_6).drop 1), true)) else ((spec_l24All.f k a0).bind fun t43 => (some (t43, false))))) else none) else ((spec_AreEpochs.f k (t29 ++ y32_6)).bind fun t40 => (if t40 = true then (some ((t29 ++ y32_6), true)) else ((spec_l24All.f k a0).bind fun t43 => (some (t43, false)))))) else none)))))) else ((spec_l24All.f k a0).bind fun t16 => (some (t16, false))))
def spec_CenterPublish.f (k : Nat) (a0_0 : List S117) (a0_1 : List S115) (a0_2 : List S121) (a0_3 : List S125) (a0_4 : Int) (a0_5 : List S129) (a1 : List S75) (a2 : List S82) (a3 : Int) : Option ((List S117) × (List S115) × (List S121) × (List S125) × Int × (List S129) × Bool) := (spec_l28Copy.f k a0_0 a0_1 a0_2 a0_3 a0_4 a0_5).bind fun t14 => ((spec_PublishEpoch.f k a0_1 a1 a2 a3).bind fun t21 => (some (t14.1, t21.1, t14.2.2.1, t14.2.2.2.1, t14.2.2.2.2.1, t14.2.2.2.2.2, t21.2)))
mutual
def impl_copyCond.l0 : Nat → Int → Int → Int → List S80 → Int → Int → Int → List S80 → List S80 → Int → Int → Option (Int × Int × Int × (List S80))
 | 0, _, _, _, _, _, _, _, _, _, _, _ => none
 | k + 1, x2_0, x2_1, x2_2, x2_3, x3_0, x3_1, x3_2, x3_3, x14, x15, x16 => if x16 < x15 then (if 0 ≤ x16 then (if x16 < (x14.length : Int) then ((impl_copyCond.f k ((rd_T80 x14 x16).f0) ((rd_T80 x14 x16).f1) ((rd_T80 x14 x16).f2) ((rd_T80 x14 x16).f3)).bind fun t23 => (if x3_3.length < 2932031007402 then (impl_copyCond.l0 k x2_0 x2_1 x2_2 x2_3 x3_0 x3_1 x3_2 (x3_3 ++ ([(⟨t23.1, t23.2.1, t23.2.2.1, t23.2.2.2⟩ : S80)] : List S80)) x14 x15 (wrap64 (x16 + 1))) else none)) else none) else none) else (some (x3_0, x3_1, x3_2, x3_3))
def impl_copyCond.f : Nat → Int → Int → Int → List S80 → Option (Int × Int × Int × (List S80))
 | 0, _, _, _, _ => none
 | k + 1, a0_0, a0_1, a0_2, a0_3 => impl_copyCond.l0 k 0 0 0 ([] : List S80) a0_0 a0_1 a0_2 ([] : List S80) a0_3 (a0_3.length : Int) 0
end
def impl_copyRules.l0 : Nat → List S82 → List S82 → Int → Int → Option ((List S82))
 | 0, _, _, _, _ => none
 | k + 1, x3, x7, x8, x9 => if x9 < x8 then (if 0 ≤ x9 then (if x9 < (x7.length : Int) then ((impl_copyCond.f k ((rd_T82 x7 x9).f3.f0) ((rd_T82 x7 x9).f3.f1) ((rd_T82 x7 x9).f3.f2) ((rd_T82 x7 x9).f3.f3)).bind fun t15 => (if x3.length < 1954687338268 then (impl_copyRules.l0 k (x3 ++ ([(⟨(rd_T82 x7 x9).f0, (rd_T82 x7 x9).f1, (rd_T82 x7 x9).f2, (⟨t15.1, t15.2.1, t15.2.2.1, t15.2.2.2⟩ : S80)⟩ : S82)] : List S82)) x7 x8 (wrap64 (x9 + 1))) else none)) else none) else none) else (some x3)
def impl_copyRules.f (k : Nat) (a0 : List S82) : Option ((List S82)) := impl_copyRules.l0 k ([] : List S82) a0 (a0.length : Int) 0
def impl_copyPolicy.f (k : Nat) (a0_0 : Int) (a0_1 : List S82) : Option (Int × (List S82)) := (impl_copyRules.f k a0_1).bind fun t7 => (some (a0_0, t7))
def impl_copyEpoch.f (k : Nat) (a0_0 : Int) (a0_1 : Int) (a0_2 : List S75) (a0_3 : Int) (a0_4 : List S82) : Option (Int × Int × (List S75) × Int × (List S82)) := if 0 + a0_2.length ≤ 8796093022208 then ((impl_copyPolicy.f k a0_3 a0_4).bind fun t13 => (some (a0_0, a0_1, (([] : List S75) ++ a0_2), t13.1, t13.2))) else none
def impl_copyEpochs.l0 : Nat → List S115 → List S115 → Int → Int → Option ((List S115))
 | 0, _, _, _, _ => none
 | k + 1, x3, x7, x8, x9 => if x9 < x8 then (if 0 ≤ x9 then (if x9 < (x7.length : Int) then ((impl_copyEpoch.f k ((rd_T115 x7 x9).f0) ((rd_T115 x7 x9).f1) ((rd_T115 x7 x9).f2) ((rd_T115 x7 x9).f3.f0) ((rd_T115 x7 x9).f3.f1)).bind fun t15 => (if x3.length < 1954687338268 then (impl_copyEpochs.l0 k (x3 ++ ([(⟨t15.1, t15.2.1, t15.2.2.1, (⟨t15.2.2.2.1, t15.2.2.2.2⟩ : S113)⟩ : S115)] : List S115)) x7 x8 (wrap64 (x9 + 1))) else none)) else none) else none) else (some x3)
def impl_copyEpochs.f (k : Nat) (a0 : List S115) : Option ((List S115)) := impl_copyEpochs.l0 k ([] : List S115) a0 (a0.length : Int) 0
def impl_copyFacts.f (a0 : List S121) : Option ((List S121)) := if 0 + a0.length ≤ 2932031007402 then (some (([] : List S121) ++ a0)) else none
def impl_copyCenter.l0 : Nat → List S117 → List S115 → List S121 → List S125 → Int → List S129 → List S117 → List S115 → List S121 → List S125 → Int → List S129 → List S117 → Int → Int → Option ((List S117) × (List S115) × (List S121) × (List S125) × Int × (List S129))
 | 0, _, _, _, _, _, _, _, _, _, _, _, _, _, _, _ => none
 | k + 1, x2_0, x2_1, x2_2, x2_3, x2_4, x2_5, x3_0, x3_1, x3_2, x3_3, x3_4, x3_5, x24, x25, x26 => if x26 < x25 then (if 0 ≤ x26 then (if x26 < (x24.length : Int) then (if 0 + ((rd_T117 x24 x26).f1).length ≤ 17592186044416 then (if x3_0.length < 3518437208883 then (impl_copyCenter.l0 k x2_0 x2_1 x2_2 x2_3 x2_4 x2_5 (x3_0 ++ ([(⟨(rd_T117 x24 x26).f0, (([] : List Int) ++ ((rd_T117 x24 x26).f1)), (rd_T117 x24 x26).f2⟩ : S117)] : List S117)) x3_1 x3_2 x3_3 x3_4 x3_5 x24 x25 (wrap64 (x26 + 1))) else none) else none) else none) else none) else (some (x3_0, x3_1, x3_2, x3_3, x3_4, x3_5))
def impl_copyCenter.f (k : Nat) (a0_0 : List S117) (a0_1 : List S115) (a0_2 : List S121) (a0_3 : List S125) (a0_4 : Int) (a0_5 : List S129) : Option ((List S117) × (List S115) × (List S121) × (List S125) × Int × (List S129)) := (impl_copyEpochs.f k a0_1).bind fun t8 => ((impl_copyFacts.f a0_2).bind fun t11 => (if 0 + a0_3.length ≤ 8796093022208 then (if 0 + a0_5.length ≤ 2932031007402 then (impl_copyCenter.l0 k ([] : List S117) ([] : List S115) ([] : List S121) ([] : List S125) 0 ([] : List S129) ([] : List S117) t8 t11 (([] : List S125) ++ a0_3) a0_4 (([] : List S129) ++ a0_5) a0_0 (a0_0.length : Int) 0) else none) else none))
def impl_NewestNumber.f (a0 : List S115) : Option (Int) := if (a0.length : Int) = 0 then (some 0) else (if 0 ≤ (wrap64 ((a0.length : Int) - 1)) then (if (wrap64 ((a0.length : Int) - 1)) < (a0.length : Int) then (some ((rd_T115 a0 (wrap64 ((a0.length : Int) - 1))).f0)) else none) else none)
def impl_InRange.f (a0 : Int) (a1 : Int) (a2 : Int) : Option (Bool) := if a1 ≤ a0 then (some (decide (a0 ≤ a2))) else (some false)
def impl_IsTime.f (a0 : Int) : Option (Bool) := (impl_InRange.f a0 0 10000).bind fun t4 => (some t4)
def impl_isRole.f (a0 : Int) : Option (Bool) := (impl_InRange.f a0 0 5).bind fun t4 => (some t4)
mutual
def impl_below.l0 : Nat → List S75 → Bool → Bool → Bool → Bool → Bool → Bool → Bool → Bool → Bool → Bool → Bool → Bool → List Int → Option (Bool × Bool × Bool × Bool × Bool × Bool)
 | 0, _, _, _, _, _, _, _, _, _, _, _, _, _, _ => none
 | k + 1, x0, x4_0, x4_1, x4_2, x4_3, x4_4, x4_5, x5_0, x5_1, x5_2, x5_3, x5_4, x5_5, x6 => if (x6.length : Int) > 0 then (if 0 < (x6.length : Int) then (if 1 ≤ (x6.length : Int) then (impl_below.l1 k x0 x4_0 x4_1 x4_2 x4_3 x4_4 x4_5 x5_0 x5_1 x5_2 x5_3 x5_4 x5_5 (x6.drop 1) (rd x6 0) x0 (x0.length : Int) 0) else none) else none) else (some (x5_0, x5_1, x5_2, x5_3, x5_4, x5_5))
def impl_below.l1 : Nat → List S75 → Bool → Bool → Bool → Bool → Bool → Bool → Bool → Bool → Bool → Bool → Bool → Bool → List Int → Int → List S75 → Int → Int → Option (Bool × Bool × Bool × Bool × Bool × Bool)
 | 0, _, _, _, _, _, _, _, _, _, _, _, _, _, _, _, _, _, _ => none
 | k + 1, x0, x4_0, x4_1, x4_2, x4_3, x4_4, x4_5, x5_0, x5_1, x5_2, x5_3, x5_4, x5_5, x6, x7, x21, x22, x23 => if x23 < x22 then (if 0 ≤ x23 then (if x23 < (x21.length : Int) then (if (rd_T75 x21 x23).f0 = x7 then ((impl_isRole.f ((rd_T75 x21 x23).f1)).bind fun t34 => (if t34 = true then (if (rd_T75 x21 x23).f1 = 0 then (if x5_0 = true then (impl_below.l1 k x0 x4_0 x4_1 x4_2 x4_3 x4_4 x4_5 x5_0 x5_1 x5_2 x5_3 x5_4 x5_5 x6 x7 x21 x22 (wrap64 (x23 + 1))) else (if x6.length < 17592186044416 then (impl_below.l1 k x0 x4_0 x4_1 x4_2 x4_3 x4_4 x4_5 true x5_1 x5_2 x5_3 x5_4 x5_5 (x6 ++ ([(rd_T75 x21 x23).f1] : List Int)) x7 x21 x22 (wrap64 (x23 + 1))) else none)) else (if (rd_T75 x21 x23).f1 = 1 then (if x5_1 = true then (impl_below.l1 k x0 x4_0 x4_1 x4_2 x4_3 x4_4 x4_5 x5_0 x5_1 x5_2 x5_3 x5_4 x5_5 x6 x7 x21 x22 (wrap64 (x23 + 1))) else (if x6.length < 17592186044416 then (impl_below.l1 k x0 x4_0 x4_1 x4_2 x4_3 x4_4 x4_5 x5_0 true x5_2 x5_3 x5_4 x5_5 (x6 ++ ([(rd_T75 x21 x23).f1] : List Int)) x7 x21 x22 (wrap64 (x23 + 1))) else none)) else (if (rd_T75 x21 x23).f1 = 2 then (if x5_2 = true then (impl_below.l1 k x0 x4_0 x4_1 x4_2 x4_3 x4_4 x4_5 x5_0 x5_1 x5_2 x5_3 x5_4 x5_5 x6 x7 x21 x22 (wrap64 (x23 + 1))) else (if x6.length < 17592186044416 then (impl_below.l1 k x0 x4_0 x4_1 x4_2 x4_3 x4_4 x4_5 x5_0 x5_1 true x5_3 x5_4 x5_5 (x6 ++ ([(rd_T75 x21 x23).f1] : List Int)) x7 x21 x22 (wrap64 (x23 + 1))) else none)) else (if (rd_T75 x21 x23).f1 = 3 then (if x5_3 = true then (impl_below.l1 k x0 x4_0 x4_1 x4_2 x4_3 x4_4 x4_5 x5_0 x5_1 x5_2 x5_3 x5_4 x5_5 x6 x7 x21 x22 (wrap64 (x23 + 1))) else (if x6.length < 17592186044416 then (impl_below.l1 k x0 x4_0 x4_1 x4_2 x4_3 x4_4 x4_5 x5_0 x5_1 x5_2 true x5_4 x5_5 (x6 ++ ([(rd_T75 x21 x23).f1] : List Int)) x7 x21 x22 (wrap64 (x23 + 1))) else none)) else (if (rd_T75 x21 x23).f1 = 4 then (if x5_4 = true then (impl_below.l1 k x0 x4_0 x4_1 x4_2 x4_3 x4_4 x4_5 x5_0 x5_1 x5_2 x5_3 x5_4 x5_5 x6 x7 x21 x22 (wrap64 (x23 + 1))) else (if x6.length < 17592186044416 then (impl_below.l1 k x0 x4_0 x4_1 x4_2 x4_3 x4_4 x4_5 x5_0 x5_1 x5_2 x5_3 true x5_5 (x6 ++ ([(rd_T75 x21 x23).f1] : List Int)) x7 x21 x22 (wrap64 (x23 + 1))) else none)) else (if (rd_T75 x21 x23).f1 = 5 then (if x5_5 = true then (impl_below.l1 k x0 x4_0 x4_1 x4_2 x4_3 x4_4 x4_5 x5_0 x5_1 x5_2 x5_3 x5_4 x5_5 x6 x7 x21 x22 (wrap64 (x23 + 1))) else (if x6.length < 17592186044416 then (impl_below.l1 k x0 x4_0 x4_1 x4_2 x4_3 x4_4 x4_5 x5_0 x5_1 x5_2 x5_3 x5_4 true (x6 ++ ([(rd_T75 x21 x23).f1] : List Int)) x7 x21 x22 (wrap64 (x23 + 1))) else none)) else none)))))) else (impl_below.l1 k x0 x4_0 x4_1 x4_2 x4_3 x4_4 x4_5 x5_0 x5_1 x5_2 x5_3 x5_4 x5_5 x6 x7 x21 x22 (wrap64 (x23 + 1))))) else (impl_below.l1 k x0 x4_0 x4_1 x4_2 x4_3 x4_4 x4_5 x5_0 x5_1 x5_2 x5_3 x5_4 x5_5 x6 x7 x21 x22 (wrap64 (x23 + 1)))) else none) else none) else (impl_below.l0 k x0 x4_0 x4_1 x4_2 x4_3 x4_4 x4_5 x5_0 x5_1 x5_2 x5_3 x5_4 x5_5 x6)
end
def impl_below.f (k : Nat) (a0 : List S75) (a1 : Int) : Option (Bool × Bool × Bool × Bool × Bool × Bool) := impl_below.l0 k a0 false false false false false false false false false false false false ([a1] : List Int)
def impl_ArePairs.l0 : Nat → List S75 → List S75 → Int → Int → Option (Bool)
 | 0, _, _, _, _ => none
 | k + 1, x0, x5, x6, x7 => if x7 < x6 then (if 0 ≤ x7 then (if x7 < (x5.length : Int) then ((impl_isRole.f ((rd_T75 x5 x7).f0)).bind fun t13 => (if t13 = true then ((impl_isRole.f ((rd_T75 x5 x7).f1)).bind fun t18 => (if t18 = true then ((impl_below.f k x0 ((rd_T75 x5 x7).f0)).bind fun t25 => (if (rd_T75 x5 x7).f0 = 0 then (if t25.1 = true then (some false) else (impl_ArePairs.l0 k x0 x5 x6 (wrap64 (x7 + 1)))) else (if (rd_T75 x5 x7).f0 = 1 then (if t25.2.1 = true then (some false) else (impl_ArePairs.l0 k x0 x5 x6 (wrap64 (x7 + 1)))) else (if (rd_T75 x5 x7).f0 = 2 then (if t25.2.2.1 = true then (some false) else (impl_ArePairs.l0 k x0 x5 x6 (wrap64 (x7 + 1)))) else (if (rd_T75 x5 x7).f0 = 3 then (if t25.2.2.2.1 = true then (some false) else (impl_ArePairs.l0 k x0 x5 x6 (wrap64 (x7 + 1)))) else (if (rd_T75 x5 x7).f0 = 4 then (if t25.2.2.2.2.1 = true then (some false) else (impl_ArePairs.l0 k x0 x5 x6 (wrap64 (x7 + 1)))) else (if (rd_T75 x5 x7).f0 = 5 then (if t25.2.2.2.2.2 = true then (some false) else (impl_ArePairs.l0 k x0 x5 x6 (wrap64 (x7 + 1)))) else none))))))) else (some false))) else (some false))) else none) else none) else (some (decide ((x0.length : Int) ≤ 10)))
def impl_ArePairs.f (k : Nat) (a0 : List S75) : Option (Bool) := impl_ArePairs.l0 k a0 a0 (a0.length : Int) 0
mutual
def impl_SizeOf.l0 : Nat → Int → List S80 → Int → Int → Option (Int)
 | 0, _, _, _, _ => none
 | k + 1, x3, x7, x8, x9 => if x9 < x8 then (if 0 ≤ x9 then (if x9 < (x7.length : Int) then ((impl_SizeOf.f k ((rd_T80 x7 x9).f0) ((rd_T80 x7 x9).f1) ((rd_T80 x7 x9).f2) ((rd_T80 x7 x9).f3)).bind fun t15 => (impl_SizeOf.l0 k (wrap64 (x3 + t15)) x7 x8 (wrap64 (x9 + 1)))) else none) else none) else (some x3)
def impl_SizeOf.f : Nat → Int → Int → Int → List S80 → Option (Int)
 | 0, _, _, _, _ => none
 | k + 1, a0_0, a0_1, a0_2, a0_3 => impl_SizeOf.l0 k 1 a0_3 (a0_3.length : Int) 0
end
def impl_ArityOf.f (a0 : Int) : Option (Int) := if a0 = 7 then (some 1) else (if a0 = 8 then (some 2) else (if a0 = 9 then (some 2) else ((impl_InRange.f a0 1 6).bind fun t15 => (if t15 = true then (some 0) else (some (-1))))))
def impl_isNode.f (a0_0 : Int) (a0_1 : Int) (a0_2 : Int) (a0_3 : List S80) : Option (Bool) := if a0_0 = 2 then ((impl_InRange.f a0_0 2 5).bind fun t16 => (if t16 = true then ((impl_ArityOf.f a0_0).bind fun t22 => (if (a0_3.length : Int) = t22 then ((impl_InRange.f a0_1 0 5).bind fun t28 => (if t28 = true then ((impl_InRange.f a0_2 0 10000).bind fun t34 => (some t34)) else (some false))) else (some false))) else ((impl_ArityOf.f a0_0).bind fun t22 => (if (a0_3.length : Int) = t22 then ((impl_InRange.f a0_1 0 5).bind fun t28 => (if t28 = true then ((impl_InRange.f a0_2 0 0).bind fun t34 => (some t34)) else (some false))) else (some false))))) else (if a0_0 = 4 then ((impl_InRange.f a0_0 2 5).bind fun t16 => (if t16 = true then ((impl_ArityOf.f a0_0).bind fun t22 => (if (a0_3.length : Int) = t22 then ((impl_InRange.f a0_1 0 3).bind fun t28 => (if t28 = true then ((impl_InRange.f a0_2 0 10000).bind fun t34 => (some t34)) else (some false))) else (some false))) else ((impl_ArityOf.f a0_0).bind fun t22 => (if (a0_3.length : Int) = t22 then ((impl_InRange.f a0_1 0 3).bind fun t28 => (if t28 = true then ((impl_InRange.f a0_2 0 0).bind fun t34 => (some t34)) else (some false))) else (some false))))) else (if a0_0 = 5 then ((impl_InRange.f a0_0 2 5).bind fun t16 => (if t16 = true then ((impl_ArityOf.f a0_0).bind fun t22 => (if (a0_3.length : Int) = t22 then ((impl_InRange.f a0_1 0 3).bind fun t28 => (if t28 = true then ((impl_InRange.f a0_2 0 10000).bind fun t34 => (some t34)) else (some false))) else (some false))) else ((impl_ArityOf.f a0_0).bind fun t22 => (if (a0_3.length : Int) = t22 then ((impl_InRange.f a0_1 0 3).bind fun t28 => (if t28 = true then ((impl_InRange.f a0_2 0 0).bind fun t34 => (some t34)) else (some false))) else (some false))))) else (if a0_0 = 6 then ((impl_InRange.f a0_0 2 5).bind fun t16 => (if t16 = true then ((impl_ArityOf.f a0_0).bind fun t22 => (if (a0_3.length : Int) = t22 then ((impl_InRange.f a0_1 0 10000).bind fun t28 => (if t28 = true then ((impl_InRange.f a0_2 0 10000).bind fun t34 => (some t34)) else (some false))) else (some false))) else ((impl_ArityOf.f a0_0).bind fun t22 => (if (a0_3.length : Int) = t22 then ((impl_InRange.f a0_1 0 10000).bind fun t28 => (if t28 = true then ((impl_InRange.f a0_2 0 0).bind fun t34 => (some t34)) else (some false))) else (some false))))) else ((impl_InRange.f a0_0 2 5).bind fun t16 => (if t16 = true then ((impl_ArityOf.f a0_0).bind fun t22 => (if (a0_3.length : Int) = t22 then ((impl_InRange.f a0_1 0 0).bind fun t28 => (if t28 = true then ((impl_InRange.f a0_2 0 10000).bind fun t34 => (some t34)) else (some false))) else (some false))) else ((impl_ArityOf.f a0_0).bind fun t22 => (if (a0_3.length : Int) = t22 then ((impl_InRange.f a0_1 0 0).bind fun t28 => (if t28 = true then ((impl_InRange.f a0_2 0 0).bind fun t34 => (some t34)) else (some false))) else (some false))))))))
mutual
def cl132.f : Nat → Int → Int → Int → List S80 → Option (Bool)
 | 0, _, _, _, _ => none
 | k + 1, a0_0, a0_1, a0_2, a0_3 => (impl_areNodes.f k a0_0 a0_1 a0_2 a0_3).bind fun t4 => (some (!t4))
def impl_areNodes.f : Nat → Int → Int → Int → List S80 → Option (Bool)
 | 0, _, _, _, _ => none
 | k + 1, a0_0, a0_1, a0_2, a0_3 => (impl_isNode.f a0_0 a0_1 a0_2 a0_3).bind fun t4 => (if t4 = true then ((slices_ContainsFunc131_132.f k a0_3).bind fun t8 => (some (!t8))) else (some false))
def slices_ContainsFunc131_132.f : Nat → List S80 → Option (Bool)
 | 0, _ => none
 | k + 1, a0 => (slices_IndexFunc135_132.f k a0).bind fun t7 => (some (decide (t7 ≥ 0)))
def slices_IndexFunc135_132.l0 : Nat → List S80 → Int → Int → Option (Int)
 | 0, _, _, _ => none
 | k + 1, x0, x7, x8 => if x8 < x7 then (if 0 ≤ x8 then (if x8 < (x0.length : Int) then ((cl132.f k ((rd_T80 x0 x8).f0) ((rd_T80 x0 x8).f1) ((rd_T80 x0 x8).f2) ((rd_T80 x0 x8).f3)).bind fun t16 => (if t16 = true then (some x8) else (slices_IndexFunc135_132.l0 k x0 x7 (wrap64 (x8 + 1))))) else none) else none) else (some (-1))
def slices_IndexFunc135_132.f : Nat → List S80 → Option (Int)
 | 0, _ => none
 | k + 1, a0 => slices_IndexFunc135_132.l0 k a0 (a0.length : Int) 0
end
def impl_IsCond.f (k : Nat) (a0_0 : Int) (a0_1 : Int) (a0_2 : Int) (a0_3 : List S80) : Option (Bool) := (impl_SizeOf.f k a0_0 a0_1 a0_2 a0_3).bind fun t4 => (if t4 ≤ 15 then ((impl_areNodes.f k a0_0 a0_1 a0_2 a0_3).bind fun t8 => (some t8)) else (some false))
def impl_IsName.f (a0 : Int) : Option (Bool) := (impl_InRange.f a0 10 49).bind fun t4 => (some t4)
def impl_KindOf.f (a0 : Int) : Option (Int) := (impl_IsName.f a0).bind fun t4 => (if t4 = true then (some (wrap64 (Int.tdiv a0 10))) else (some 0))
def impl_HasKind.f (a0 : Int) (a1 : Int) : Option (Bool) := (impl_IsName.f a0).bind fun t6 => (if t6 = true then ((impl_KindOf.f a0).bind fun t9 => (some (decide (t9 = a1)))) else (some false))
def impl_IsRule.f (k : Nat) (a0_0 : Int) (a0_1 : Int) (a0_2 : Int) (a0_3 : Int) (a0_4 : Int) (a0_5 : Int) (a0_6 : List S80) : Option (Bool) := (impl_InRange.f a0_0 0 1).bind fun t5 => (if t5 = true then ((impl_InRange.f a0_1 (-1) 5).bind fun t9 => (if t9 = true then (if a0_2 = (-1) then ((impl_IsCond.f k a0_3 a0_4 a0_5 a0_6).bind fun t24 => (some t24)) else ((impl_HasKind.f a0_2 4).bind fun t18 => (if t18 = true then ((impl_IsCond.f k a0_3 a0_4 a0_5 a0_6).bind fun t24 => (some t24)) else (some false)))) else (some false))) else (some false))
def cl115.f (k : Nat) (a0_0 : Int) (a0_1 : Int) (a0_2 : Int) (a0_3 : Int) (a0_4 : Int) (a0_5 : Int) (a0_6 : List S80) : Option (Bool) := (impl_IsRule.f k a0_0 a0_1 a0_2 a0_3 a0_4 a0_5 a0_6).bind fun t4 => (some (!t4))
def slices_IndexFunc119_115.l0 : Nat → List S82 → Int → Int → Option (Int)
 | 0, _, _, _ => none
 | k + 1, x0, x7, x8 => if x8 < x7 then (if 0 ≤ x8 then (if x8 < (x0.length : Int) then ((cl115.f k ((rd_T82 x0 x8).f0) ((rd_T82 x0 x8).f1) ((rd_T82 x0 x8).f2) ((rd_T82 x0 x8).f3.f0) ((rd_T82 x0 x8).f3.f1) ((rd_T82 x0 x8).f3.f2) ((rd_T82 x0 x8).f3.f3)).bind fun t16 => (if t16 = true then (some x8) else (slices_IndexFunc119_115.l0 k x0 x7 (wrap64 (x8 + 1))))) else none) else none) else (some (-1))
def slices_IndexFunc119_115.f (k : Nat) (a0 : List S82) : Option (Int) := slices_IndexFunc119_115.l0 k a0 (a0.length : Int) 0
def slices_ContainsFunc114_115.f (k : Nat) (a0 : List S82) : Option (Bool) := (slices_IndexFunc119_115.f k a0).bind fun t7 => (some (decide (t7 ≥ 0)))
def impl_IsPolicy.f (k : Nat) (a0_0 : Int) (a0_1 : List S82) : Option (Bool) := (impl_InRange.f a0_0 0 999).bind fun t5 => (if t5 = true then (if (a0_1.length : Int) ≤ 8 then ((slices_ContainsFunc114_115.f k a0_1).bind fun t15 => (some (!t15))) else (some false)) else (some false))
def impl_IsEpoch.f (k : Nat) (a0_0 : Int) (a0_1 : Int) (a0_2 : List S75) (a0_3 : Int) (a0_4 : List S82) : Option (Bool) := (impl_InRange.f a0_0 0 999).bind fun t5 => (if t5 = true then ((impl_IsTime.f a0_1).bind fun t9 => (if t9 = true then ((impl_ArePairs.f k a0_2).bind fun t14 => (if t14 = true then ((impl_IsPolicy.f k a0_3 a0_4).bind fun t19 => (if t19 = true then (some (decide (a0_3 = a0_0))) else (some false))) else (some false))) else (some false))) else (some false))
def impl_AreEpochs.l0 : Nat → List S115 → List S115 → Int → Int → Option (Bool)
 | 0, _, _, _, _ => none
 | k + 1, x0, x5, x6, x7 => if x7 < x6 then (if 0 ≤ x7 then (if x7 < (x5.length : Int) then ((impl_IsEpoch.f k ((rd_T115 x5 x7).f0) ((rd_T115 x5 x7).f1) ((rd_T115 x5 x7).f2) ((rd_T115 x5 x7).f3.f0) ((rd_T115 x5 x7).f3.f1)).bind fun t13 => (if t13 = true then (if x7 > 0 then (if 0 ≤ (wrap64 (x7 - 1)) then (if (wrap64 (x7 - 1)) < (x0.length : Int) then (if (rd_T115 x0 (wrap64 (x7 - 1))).f0 ≥ (rd_T115 x5 x7).f0 then (some false) else (if (rd_T115 x0 (wrap64 (x7 - 1))).f1 > (rd_T115 x5 x7).f1 then (some false) else (impl_AreEpochs.l0 k x0 x5 x6 (wrap64 (x7 + 1))))) else none) else none) else (impl_AreEpochs.l0 k x0 x5 x6 (wrap64 (x7 + 1)))) else (some false))) else none) else none) else (some (decide ((x0.length : Int) ≤ 6)))
def impl_AreEpochs.f (k : Nat) (a0 : List S115) : Option (Bool) := impl_AreEpochs.l0 k a0 a0 (a0.length : Int) 0
def impl_PublishEpoch.f (k : Nat) (a0 : List S115) (a1 : List S75) (a2 : List S82) (a3 : Int) : Option ((List S115) × Bool) := (impl_NewestNumber.f a0).bind fun t13 => ((impl_copyEpochs.f k a0).bind fun t16 => ((impl_copyEpoch.f k (wrap64 (t13 + 1)) a3 a1 (wrap64 (t13 + 1)) a2).bind fun t24 => ((some ([(⟨t24.1, t24.2.1, t24.2.2.1, (⟨t24.2.2.2.1, t24.2.2.2.2⟩ : S113)⟩ : S115)] : List S115) : Option (List S115)).bind fun y25_4 => (if t16.length < 1954687338268 then (if ((t16 ++ y25_4).length : Int) = 7 then (if 1 ≤ ((t16 ++ y25_4).length : Int) then ((impl_AreEpochs.f k a0).bind fun t33 => (if t33 = true then ((impl_AreEpochs.f k ((t16 ++ y25_4).drop 1)).bind fun t37 => (if t37 = true then (some (((t16 ++ y25_4).drop 1), true)) else ((impl_copyEpochs.f k a0).bind fun t41 => (some (t41, false))))) else ((impl_copyEpochs.f k a0).bind fun t41 => (some (t41, false))))) else none) else ((impl_AreEpochs.f k a0).bind fun t33 => (if t33 = true then ((impl_AreEpochs.f k (t16 ++ y25_4)).bind fun t37 => (if t37 = true then (some ((t16 ++ y25_4), true)) else ((impl_copyEpochs.f k a0).bind fun t41 => (some (t41, false))))) else ((impl_copyEpochs.f k a0).bind fun t41 => (some (t41, false)))))) else none))))
def impl_CenterPublish.f (k : Nat) (a0_0 : List S117) (a0_1 : List S115) (a0_2 : List S121) (a0_3 : List S125) (a0_4 : Int) (a0_5 : List S129) (a1 : List S75) (a2 : List S82) (a3 : Int) : Option ((List S117) × (List S115) × (List S121) × (List S125) × Int × (List S129) × Bool) := (impl_copyCenter.f k a0_0 a0_1 a0_2 a0_3 a0_4 a0_5).bind fun t14 => ((impl_PublishEpoch.f k a0_1 a1 a2 a3).bind fun t21 => (some (t14.1, t21.1, t14.2.2.1, t14.2.2.2.1, t14.2.2.2.2.1, t14.2.2.2.2.2, t21.2)))
def laws_eqIntS.l0 : Nat → List Int → List Int → Int → Option (Bool)
 | 0, _, _, _ => none
 | k + 1, x0, x1, x5 => if x5 < (x0.length : Int) then (if 0 ≤ x5 then (if x5 < (x1.length : Int) then (if (rd x0 x5) = (rd x1 x5) then (laws_eqIntS.l0 k x0 x1 (wrap64 (x5 + 1))) else (some false)) else none) else none) else (some true)
def laws_eqIntS.f (k : Nat) (a0 : List Int) (a1 : List Int) : Option (Bool) := if (a0.length : Int) = (a1.length : Int) then (laws_eqIntS.l0 k a0 a1 0) else (some false)
def laws_eqIssuer.f (k : Nat) (a0_0 : Int) (a0_1 : List Int) (a0_2 : Int) (a1_0 : Int) (a1_1 : List Int) (a1_2 : Int) : Option (Bool) := if a0_0 = a1_0 then ((laws_eqIntS.f k a0_1 a1_1).bind fun t14 => (if t14 = true then (if a0_2 = a1_2 then (some true) else (some false)) else (some false))) else (some false)
def laws_eqIssuerS.l0 : Nat → List S117 → List S117 → Int → Option (Bool)
 | 0, _, _, _ => none
 | k + 1, x0, x1, x5 => if x5 < (x0.length : Int) then (if 0 ≤ x5 then (if x5 < (x1.length : Int) then ((laws_eqIssuer.f k ((rd_T117 x0 x5).f0) ((rd_T117 x0 x5).f1) ((rd_T117 x0 x5).f2) ((rd_T117 x1 x5).f0) ((rd_T117 x1 x5).f1) ((rd_T117 x1 x5).f2)).bind fun t25 => (if t25 = true then (laws_eqIssuerS.l0 k x0 x1 (wrap64 (x5 + 1))) else (some false))) else none) else none) else (some true)
def laws_eqIssuerS.f (k : Nat) (a0 : List S117) (a1 : List S117) : Option (Bool) := if (a0.length : Int) = (a1.length : Int) then (laws_eqIssuerS.l0 k a0 a1 0) else (some false)
def laws_eqIncludes.f (a0_0 : Int) (a0_1 : Int) (a1_0 : Int) (a1_1 : Int) : Option (Bool) := if a0_0 = a1_0 then (if a0_1 = a1_1 then (some true) else (some false)) else (some false)
def laws_eqIncludesS.l0 : Nat → List S75 → List S75 → Int → Option (Bool)
 | 0, _, _, _ => none
 | k + 1, x0, x1, x5 => if x5 < (x0.length : Int) then (if 0 ≤ x5 then (if x5 < (x1.length : Int) then ((laws_eqIncludes.f ((rd_T75 x0 x5).f0) ((rd_T75 x0 x5).f1) ((rd_T75 x1 x5).f0) ((rd_T75 x1 x5).f1)).bind fun t25 => (if t25 = true then (laws_eqIncludesS.l0 k x0 x1 (wrap64 (x5 + 1))) else (some false))) else none) else none) else (some true)
def laws_eqIncludesS.f (k : Nat) (a0 : List S75) (a1 : List S75) : Option (Bool) := if (a0.length : Int) = (a1.length : Int) then (laws_eqIncludesS.l0 k a0 a1 0) else (some false)
mutual
def laws_eqCondS.l0 : Nat → List S80 → List S80 → Int → Option (Bool)
 | 0, _, _, _ => none
 | k + 1, x0, x1, x5 => if x5 < (x0.length : Int) then (if 0 ≤ x5 then (if x5 < (x1.length : Int) then ((laws_eqCond.f k ((rd_T80 x0 x5).f0) ((rd_T80 x0 x5).f1) ((rd_T80 x0 x5).f2) ((rd_T80 x0 x5).f3) ((rd_T80 x1 x5).f0) ((rd_T80 x1 x5).f1) ((rd_T80 x1 x5).f2) ((rd_T80 x1 x5).f3)).bind fun t25 => (if t25 = true then (laws_eqCondS.l0 k x0 x1 (wrap64 (x5 + 1))) else (some false))) else none) else none) else (some true)
def laws_eqCondS.f : Nat → List S80 → List S80 → Option (Bool)
 | 0, _, _ => none
 | k + 1, a0, a1 => if (a0.length : Int) = (a1.length : Int) then (laws_eqCondS.l0 k a0 a1 0) else (some false)
def laws_eqCond.f : Nat → Int → Int → Int → List S80 → Int → Int → Int → List S80 → Option (Bool)
 | 0, _, _, _, _, _, _, _, _ => none
 | k + 1, a0_0, a0_1, a0_2, a0_3, a1_0, a1_1, a1_2, a1_3 => if a0_0 = a1_0 then (if a0_1 = a1_1 then (if a0_2 = a1_2 then ((laws_eqCondS.f k a0_3 a1_3).bind fun t24 => (if t24 = true then (some true) else (some false))) else (some false)) else (some false)) else (some false)
end
def laws_eqRule.f (k : Nat) (a0_0 : Int) (a0_1 : Int) (a0_2 : Int) (a0_3 : Int) (a0_4 : Int) (a0_5 : Int) (a0_6 : List S80) (a1_0 : Int) (a1_1 : Int) (a1_2 : Int) (a1_3 : Int) (a1_4 : Int) (a1_5 : Int) (a1_6 : List S80) : Option (Bool) := if a0_0 = a1_0 then (if a0_1 = a1_1 then (if a0_2 = a1_2 then ((laws_eqCond.f k a0_3 a0_4 a0_5 a0_6 a1_3 a1_4 a1_5 a1_6).bind fun t24 => (if t24 = true then (some true) else (some false))) else (some false)) else (some false)) else (some false)
def laws_eqRuleS.l0 : Nat → List S82 → List S82 → Int → Option (Bool)
 | 0, _, _, _ => none
 | k + 1, x0, x1, x5 => if x5 < (x0.length : Int) then (if 0 ≤ x5 then (if x5 < (x1.length : Int) then ((laws_eqRule.f k ((rd_T82 x0 x5).f0) ((rd_T82 x0 x5).f1) ((rd_T82 x0 x5).f2) ((rd_T82 x0 x5).f3.f0) ((rd_T82 x0 x5).f3.f1) ((rd_T82 x0 x5).f3.f2) ((rd_T82 x0 x5).f3.f3) ((rd_T82 x1 x5).f0) ((rd_T82 x1 x5).f1) ((rd_T82 x1 x5).f2) ((rd_T82 x1 x5).f3.f0) ((rd_T82 x1 x5).f3.f1) ((rd_T82 x1 x5).f3.f2) ((rd_T82 x1 x5).f3.f3)).bind fun t25 => (if t25 = true then (laws_eqRuleS.l0 k x0 x1 (wrap64 (x5 + 1))) else (some false))) else none) else none) else (some true)
def laws_eqRuleS.f (k : Nat) (a0 : List S82) (a1 : List S82) : Option (Bool) := if (a0.length : Int) = (a1.length : Int) then (laws_eqRuleS.l0 k a0 a1 0) else (some false)
def laws_eqPolicy.f (k : Nat) (a0_0 : Int) (a0_1 : List S82) (a1_0 : Int) (a1_1 : List S82) : Option (Bool) := if a0_0 = a1_0 then ((laws_eqRuleS.f k a0_1 a1_1).bind fun t14 => (if t14 = true then (some true) else (some false))) else (some false)
def laws_eqEpoch.f (k : Nat) (a0_0 : Int) (a0_1 : Int) (a0_2 : List S75) (a0_3 : Int) (a0_4 : List S82) (a1_0 : Int) (a1_1 : Int) (a1_2 : List S75) (a1_3 : Int) (a1_4 : List S82) : Option (Bool) := if a0_0 = a1_0 then (if a0_1 = a1_1 then ((laws_eqIncludesS.f k a0_2 a1_2).bind fun t19 => (if t19 = true then ((laws_eqPolicy.f k a0_3 a0_4 a1_3 a1_4).bind fun t25 => (if t25 = true then (some true) else (some false))) else (some false))) else (some false)) else (some false)
def laws_eqEpochS.l0 : Nat → List S115 → List S115 → Int → Option (Bool)
 | 0, _, _, _ => none
 | k + 1, x0, x1, x5 => if x5 < (x0.length : Int) then (if 0 ≤ x5 then (if x5 < (x1.length : Int) then ((laws_eqEpoch.f k ((rd_T115 x0 x5).f0) ((rd_T115 x0 x5).f1) ((rd_T115 x0 x5).f2) ((rd_T115 x0 x5).f3.f0) ((rd_T115 x0 x5).f3.f1) ((rd_T115 x1 x5).f0) ((rd_T115 x1 x5).f1) ((rd_T115 x1 x5).f2) ((rd_T115 x1 x5).f3.f0) ((rd_T115 x1 x5).f3.f1)).bind fun t25 => (if t25 = true then (laws_eqEpochS.l0 k x0 x1 (wrap64 (x5 + 1))) else (some false))) else none) else none) else (some true)
def laws_eqEpochS.f (k : Nat) (a0 : List S115) (a1 : List S115) : Option (Bool) := if (a0.length : Int) = (a1.length : Int) then (laws_eqEpochS.l0 k a0 a1 0) else (some false)
def laws_eqFact.f (a0_0 : Int) (a0_1 : Int) (a0_2 : Int) (a0_3 : Int) (a0_4 : Int) (a0_5 : Int) (a1_0 : Int) (a1_1 : Int) (a1_2 : Int) (a1_3 : Int) (a1_4 : Int) (a1_5 : Int) : Option (Bool) := if a0_0 = a1_0 then (if a0_1 = a1_1 then (if a0_2 = a1_2 then (if a0_3 = a1_3 then (if a0_4 = a1_4 then (if a0_5 = a1_5 then (some true) else (some false)) else (some false)) else (some false)) else (some false)) else (some false)) else (some false)
def laws_eqFactS.l0 : Nat → List S121 → List S121 → Int → Option (Bool)
 | 0, _, _, _ => none
 | k + 1, x0, x1, x5 => if x5 < (x0.length : Int) then (if 0 ≤ x5 then (if x5 < (x1.length : Int) then ((laws_eqFact.f ((rd_T121 x0 x5).f0) ((rd_T121 x0 x5).f1) ((rd_T121 x0 x5).f2) ((rd_T121 x0 x5).f3) ((rd_T121 x0 x5).f4) ((rd_T121 x0 x5).f5) ((rd_T121 x1 x5).f0) ((rd_T121 x1 x5).f1) ((rd_T121 x1 x5).f2) ((rd_T121 x1 x5).f3) ((rd_T121 x1 x5).f4) ((rd_T121 x1 x5).f5)).bind fun t25 => (if t25 = true then (laws_eqFactS.l0 k x0 x1 (wrap64 (x5 + 1))) else (some false))) else none) else none) else (some true)
def laws_eqFactS.f (k : Nat) (a0 : List S121) (a1 : List S121) : Option (Bool) := if (a0.length : Int) = (a1.length : Int) then (laws_eqFactS.l0 k a0 a1 0) else (some false)
def laws_eqRevoked.f (a0_0 : Int) (a0_1 : Int) (a1_0 : Int) (a1_1 : Int) : Option (Bool) := if a0_0 = a1_0 then (if a0_1 = a1_1 then (some true) else (some false)) else (some false)
def laws_eqRevokedS.l0 : Nat → List S125 → List S125 → Int → Option (Bool)
 | 0, _, _, _ => none
 | k + 1, x0, x1, x5 => if x5 < (x0.length : Int) then (if 0 ≤ x5 then (if x5 < (x1.length : Int) then ((laws_eqRevoked.f ((rd_T125 x0 x5).f0) ((rd_T125 x0 x5).f1) ((rd_T125 x1 x5).f0) ((rd_T125 x1 x5).f1)).bind fun t25 => (if t25 = true then (laws_eqRevokedS.l0 k x0 x1 (wrap64 (x5 + 1))) else (some false))) else none) else none) else (some true)
def laws_eqRevokedS.f (k : Nat) (a0 : List S125) (a1 : List S125) : Option (Bool) := if (a0.length : Int) = (a1.length : Int) then (laws_eqRevokedS.l0 k a0 a1 0) else (some false)
def laws_eqCert.f (a0_0 : Int) (a0_1 : Int) (a0_2 : Int) (a0_3 : Int) (a0_4 : Int) (a0_5 : Int) (a1_0 : Int) (a1_1 : Int) (a1_2 : Int) (a1_3 : Int) (a1_4 : Int) (a1_5 : Int) : Option (Bool) := if a0_0 = a1_0 then (if a0_1 = a1_1 then (if a0_2 = a1_2 then (if a0_3 = a1_3 then (if a0_4 = a1_4 then (if a0_5 = a1_5 then (some true) else (some false)) else (some false)) else (some false)) else (some false)) else (some false)) else (some false)
def laws_eqCertS.l0 : Nat → List S129 → List S129 → Int → Option (Bool)
 | 0, _, _, _ => none
 | k + 1, x0, x1, x5 => if x5 < (x0.length : Int) then (if 0 ≤ x5 then (if x5 < (x1.length : Int) then ((laws_eqCert.f ((rd_T129 x0 x5).f0) ((rd_T129 x0 x5).f1) ((rd_T129 x0 x5).f2) ((rd_T129 x0 x5).f3) ((rd_T129 x0 x5).f4) ((rd_T129 x0 x5).f5) ((rd_T129 x1 x5).f0) ((rd_T129 x1 x5).f1) ((rd_T129 x1 x5).f2) ((rd_T129 x1 x5).f3) ((rd_T129 x1 x5).f4) ((rd_T129 x1 x5).f5)).bind fun t25 => (if t25 = true then (laws_eqCertS.l0 k x0 x1 (wrap64 (x5 + 1))) else (some false))) else none) else none) else (some true)
def laws_eqCertS.f (k : Nat) (a0 : List S129) (a1 : List S129) : Option (Bool) := if (a0.length : Int) = (a1.length : Int) then (laws_eqCertS.l0 k a0 a1 0) else (some false)
def laws_eqCenter.f (k : Nat) (a0_0 : List S117) (a0_1 : List S115) (a0_2 : List S121) (a0_3 : List S125) (a0_4 : Int) (a0_5 : List S129) (a1_0 : List S117) (a1_1 : List S115) (a1_2 : List S121) (a1_3 : List S125) (a1_4 : Int) (a1_5 : List S129) : Option (Bool) := (laws_eqIssuerS.f k a0_0 a1_0).bind fun t9 => (if t9 = true then ((laws_eqEpochS.f k a0_1 a1_1).bind fun t15 => (if t15 = true then ((laws_eqFactS.f k a0_2 a1_2).bind fun t21 => (if t21 = true then ((laws_eqRevokedS.f k a0_3 a1_3).bind fun t27 => (if t27 = true then (if a0_4 = a1_4 then ((laws_eqCertS.f k a0_5 a1_5).bind fun t38 => (if t38 = true then (some true) else (some false))) else (some false)) else (some false))) else (some false))) else (some false))) else (some false))
def laws_markIntS.l0 : Nat → List Int → Int → Int → Option (Int × (List Int))
 | 0, _, _, _ => none
 | k + 1, x0, x1, x5 => if x5 < (x0.length : Int) then (if 0 ≤ x5 then (laws_markIntS.l0 k (x0.set (x5 : Int).toNat x1) (wrap64 (x1 + 1)) (wrap64 (x5 + 1))) else none) else (some (x1, x0))
def laws_markIntS.f (k : Nat) (a0 : List Int) (a1 : Int) : Option (Int × (List Int)) := laws_markIntS.l0 k a0 a1 0
def laws_markIssuerS.l0 : Nat → List S117 → Int → Int → Option (Int × (List S117))
 | 0, _, _, _ => none
 | k + 1, x0, x1, x5 => if x5 < (x0.length : Int) then (if 0 ≤ x5 then ((some (x0.set (x5 : Int).toNat (⟨x1, (rd_T117 x0 x5).f1, (rd_T117 x0 x5).f2⟩ : S117)) : Option (List S117)).bind fun y0_1 => (if x5 < (y0_1.length : Int) then ((laws_markIntS.f k ((rd_T117 y0_1 x5).f1) (wrap64 (x1 + 1))).bind fun t25 => ((some (y0_1.set (x5 : Int).toNat (⟨(rd_T117 y0_1 x5).f0, t25.2, (rd_T117 y0_1 x5).f2⟩ : S117)) : Option (List S117)).bind fun y25_3 => (if x5 < (y25_3.length : Int) then (laws_markIssuerS.l0 k (y25_3.set (x5 : Int).toNat (⟨(rd_T117 y25_3 x5).f0, (rd_T117 y25_3 x5).f1, t25.1⟩ : S117)) (wrap64 (t25.1 + 1)) (wrap64 (x5 + 1))) else none))) else none)) else none) else (some (x1, x0))
def laws_markIssuerS.f (k : Nat) (a0 : List S117) (a1 : Int) : Option (Int × (List S117)) := laws_markIssuerS.l0 k a0 a1 0
def laws_markIncludesS.l0 : Nat → List S75 → Int → Int → Option (Int × (List S75))
 | 0, _, _, _ => none
 | k + 1, x0, x1, x5 => if x5 < (x0.length : Int) then (if 0 ≤ x5 then ((some (x0.set (x5 : Int).toNat (⟨x1, (rd_T75 x0 x5).f1⟩ : S75)) : Option (List S75)).bind fun y0_1 => (if x5 < (y0_1.length : Int) then (laws_markIncludesS.l0 k (y0_1.set (x5 : Int).toNat (⟨(rd_T75 y0_1 x5).f0, (wrap64 (x1 + 1))⟩ : S75)) (wrap64 ((wrap64 (x1 + 1)) + 1)) (wrap64 (x5 + 1))) else none)) else none) else (some (x1, x0))
def laws_markIncludesS.f (k : Nat) (a0 : List S75) (a1 : Int) : Option (Int × (List S75)) := laws_markIncludesS.l0 k a0 a1 0
mutual
def laws_markCondS.l0 : Nat → List S80 → Int → Int → Option (Int × (List S80))
 | 0, _, _, _ => none
 | k + 1, x0, x1, x5 => if x5 < (x0.length : Int) then (if 0 ≤ x5 then ((some (x0.set (x5 : Int).toNat (⟨x1, (rd_T80 x0 x5).f1, (rd_T80 x0 x5).f2, (rd_T80 x0 x5).f3⟩ : S80)) : Option (List S80)).bind fun y0_1 => (if x5 < (y0_1.length : Int) then ((some (y0_1.set (x5 : Int).toNat (⟨(rd_T80 y0_1 x5).f0, (wrap64 (x1 + 1)), (rd_T80 y0_1 x5).f2, (rd_T80 y0_1 x5).f3⟩ : S80)) : Option (List S80)).bind fun y0_2 => (if x5 < (y0_2.length : Int) then ((some (y0_2.set (x5 : Int).toNat (⟨(rd_T80 y0_2 x5).f0, (rd_T80 y0_2 x5).f1, (wrap64 ((wrap64 (x1 + 1)) + 1)), (rd_T80 y0_2 x5).f3⟩ : S80)) : Option (List S80)).bind fun y0_3 => (if x5 < (y0_3.length : Int) then ((laws_markCondS.f k ((rd_T80 y0_3 x5).f3) (wrap64 ((wrap64 ((wrap64 (x1 + 1)) + 1)) + 1))).bind fun t39 => (laws_markCondS.l0 k (y0_3.set (x5 : Int).toNat (⟨(rd_T80 y0_3 x5).f0, (rd_T80 y0_3 x5).f1, (rd_T80 y0_3 x5).f2, t39.2⟩ : S80)) t39.1 (wrap64 (x5 + 1)))) else none)) else none)) else none)) else none) else (some (x1, x0))
def laws_markCondS.f : Nat → List S80 → Int → Option (Int × (List S80))
 | 0, _, _ => none
 | k + 1, a0, a1 => laws_markCondS.l0 k a0 a1 0
end
def laws_markRuleS.l0 : Nat → List S82 → Int → Int → Option (Int × (List S82))
 | 0, _, _, _ => none
 | k + 1, x0, x1, x5 => if x5 < (x0.length : Int) then (if 0 ≤ x5 then ((some (x0.set (x5 : Int).toNat (⟨x1, (rd_T82 x0 x5).f1, (rd_T82 x0 x5).f2, (⟨(rd_T82 x0 x5).f3.f0, (rd_T82 x0 x5).f3.f1, (rd_T82 x0 x5).f3.f2, (rd_T82 x0 x5).f3.f3⟩ : S80)⟩ : S82)) : Option (List S82)).bind fun y0_1 => (if x5 < (y0_1.length : Int) then ((some (y0_1.set (x5 : Int).toNat (⟨(rd_T82 y0_1 x5).f0, (wrap64 (x1 + 1)), (rd_T82 y0_1 x5).f2, (⟨(rd_T82 y0_1 x5).f3.f0, (rd_T82 y0_1 x5).f3.f1, (rd_T82 y0_1 x5).f3.f2, (rd_T82 y0_1 x5).f3.f3⟩ : S80)⟩ : S82)) : Option (List S82)).bind fun y0_2 => (if x5 < (y0_2.length : Int) then ((some (y0_2.set (x5 : Int).toNat (⟨(rd_T82 y0_2 x5).f0, (rd_T82 y0_2 x5).f1, (wrap64 ((wrap64 (x1 + 1)) + 1)), (⟨(rd_T82 y0_2 x5).f3.f0, (rd_T82 y0_2 x5).f3.f1, (rd_T82 y0_2 x5).f3.f2, (rd_T82 y0_2 x5).f3.f3⟩ : S80)⟩ : S82)) : Option (List S82)).bind fun y0_3 => (if x5 < (y0_3.length : Int) then ((some (y0_3.set (x5 : Int).toNat (⟨(rd_T82 y0_3 x5).f0, (rd_T82 y0_3 x5).f1, (rd_T82 y0_3 x5).f2, (⟨(wrap64 ((wrap64 ((wrap64 (x1 + 1)) + 1)) + 1)), (rd_T82 y0_3 x5).f3.f1, (rd_T82 y0_3 x5).f3.f2, (rd_T82 y0_3 x5).f3.f3⟩ : S80)⟩ : S82)) : Option (List S82)).bind fun y0_4 => (if x5 < (y0_4.length : Int) then ((some (y0_4.set (x5 : Int).toNat (⟨(rd_T82 y0_4 x5).f0, (rd_T82 y0_4 x5).f1, (rd_T82 y0_4 x5).f2, (⟨(rd_T82 y0_4 x5).f3.f0, (wrap64 ((wrap64 ((wrap64 ((wrap64 (x1 + 1)) + 1)) + 1)) + 1)), (rd_T82 y0_4 x5).f3.f2, (rd_T82 y0_4 x5).f3.f3⟩ : S80)⟩ : S82)) : Option (List S82)).bind fun y0_5 => (if x5 < (y0_5.length : Int) then ((some (y0_5.set (x5 : Int).toNat (⟨(rd_T82 y0_5 x5).f0, (rd_T82 y0_5 x5).f1, (rd_T82 y0_5 x5).f2, (⟨(rd_T82 y0_5 x5).f3.f0, (rd_T82 y0_5 x5).f3.f1, (wrap64 ((wrap64 ((wrap64 ((wrap64 ((wrap64 (x1 + 1)) + 1)) + 1)) + 1)) + 1)), (rd_T82 y0_5 x5).f3.f3⟩ : S80)⟩ : S82)) : Option (List S82)).bind fun y0_6 => (if x5 < (y0_6.length : Int) then ((laws_markCondS.f k ((rd_T82 y0_6 x5).f3.f3) (wrap64 ((wrap64 ((wrap64 ((wrap64 ((wrap64 ((wrap64 (x1 + 1)) + 1)) + 1)) + 1)) + 1)) + 1))).bind fun t64 => (laws_markRuleS.l0 k (y0_6.set (x5 : Int).toNat (⟨(rd_T82 y0_6 x5).f0, (rd_T82 y0_6 x5).f1, (rd_T82 y0_6 x5).f2, (⟨(rd_T82 y0_6 x5).f3.f0, (rd_T82 y0_6 x5).f3.f1, (rd_T82 y0_6 x5).f3.f2, t64.2⟩ : S80)⟩ : S82)) t64.1 (wrap64 (x5 + 1)))) else none)) else none)) else none)) else none)) else none)) else none)) else none) else (some (x1, x0))
def laws_markRuleS.f (k : Nat) (a0 : List S82) (a1 : Int) : Option (Int × (List S82)) := laws_markRuleS.l0 k a0 a1 0
def laws_markEpochS.l0 : Nat → List S115 → Int → Int → Option (Int × (List S115))
 | 0, _, _, _ => none
 | k + 1, x0, x1, x5 => if x5 < (x0.length : Int) then (if 0 ≤ x5 then ((some (x0.set (x5 : Int).toNat (⟨x1, (rd_T115 x0 x5).f1, (rd_T115 x0 x5).f2, (⟨(rd_T115 x0 x5).f3.f0, (rd_T115 x0 x5).f3.f1⟩ : S113)⟩ : S115)) : Option (List S115)).bind fun y0_1 => (if x5 < (y0_1.length : Int) then ((some (y0_1.set (x5 : Int).toNat (⟨(rd_T115 y0_1 x5).f0, (wrap64 (x1 + 1)), (rd_T115 y0_1 x5).f2, (⟨(rd_T115 y0_1 x5).f3.f0, (rd_T115 y0_1 x5).f3.f1⟩ : S113)⟩ : S115)) : Option (List S115)).bind fun y0_2 => (if x5 < (y0_2.length : Int) then ((laws_markIncludesS.f k ((rd_T115 y0_2 x5).f2) (wrap64 ((wrap64 (x1 + 1)) + 1))).bind fun t32 => ((some (y0_2.set (x5 : Int).toNat (⟨(rd_T115 y0_2 x5).f0, (rd_T115 y0_2 x5).f1, t32.2, (⟨(rd_T115 y0_2 x5).f3.f0, (rd_T115 y0_2 x5).f3.f1⟩ : S113)⟩ : S115)) : Option (List S115)).bind fun y32_4 => (if x5 < (y32_4.length : Int) then ((some (y32_4.set (x5 : Int).toNat (⟨(rd_T115 y32_4 x5).f0, (rd_T115 y32_4 x5).f1, (rd_T115 y32_4 x5).f2, (⟨t32.1, (rd_T115 y32_4 x5).f3.f1⟩ : S113)⟩ : S115)) : Option (List S115)).bind fun y0_5 => (if x5 < (y0_5.length : Int) then ((laws_markRuleS.f k ((rd_T115 y0_5 x5).f3.f1) (wrap64 (t32.1 + 1))).bind fun t48 => (laws_markEpochS.l0 k (y0_5.set (x5 : Int).toNat (⟨(rd_T115 y0_5 x5).f0, (rd_T115 y0_5 x5).f1, (rd_T115 y0_5 x5).f2, (⟨(rd_T115 y0_5 x5).f3.f0, t48.2⟩ : S113)⟩ : S115)) t48.1 (wrap64 (x5 + 1)))) else none)) else none))) else none)) else none)) else none) else (some (x1, x0))
def laws_markEpochS.f (k : Nat) (a0 : List S115) (a1 : Int) : Option (Int × (List S115)) := laws_markEpochS.l0 k a0 a1 0
def laws_markFactS.l0 : Nat → List S121 → Int → Int → Option (Int × (List S121))
 | 0, _, _, _ => none
 | k + 1, x0, x1, x5 => if x5 < (x0.length : Int) then (if 0 ≤ x5 then ((some (x0.set (x5 : Int).toNat (⟨x1, (rd_T121 x0 x5).f1, (rd_T121 x0 x5).f2, (rd_T121 x0 x5).f3, (rd_T121 x0 x5).f4, (rd_T121 x0 x5).f5⟩ : S121)) : Option (List S121)).bind fun y0_1 => (if x5 < (y0_1.length : Int) then ((some (y0_1.set (x5 : Int).toNat (⟨(rd_T121 y0_1 x5).f0, (wrap64 (x1 + 1)), (rd_T121 y0_1 x5).f2, (rd_T121 y0_1 x5).f3, (rd_T121 y0_1 x5).f4, (rd_T121 y0_1 x5).f5⟩ : S121)) : Option (List S121)).bind fun y0_2 => (if x5 < (y0_2.length : Int) then ((some (y0_2.set (x5 : Int).toNat (⟨(rd_T121 y0_2 x5).f0, (rd_T121 y0_2 x5).f1, (wrap64 ((wrap64 (x1 + 1)) + 1)), (rd_T121 y0_2 x5).f3, (rd_T121 y0_2 x5).f4, (rd_T121 y0_2 x5).f5⟩ : S121)) : Option (List S121)).bind fun y0_3 => (if x5 < (y0_3.length : Int) then ((some (y0_3.set (x5 : Int).toNat (⟨(rd_T121 y0_3 x5).f0, (rd_T121 y0_3 x5).f1, (rd_T121 y0_3 x5).f2, (wrap64 ((wrap64 ((wrap64 (x1 + 1)) + 1)) + 1)), (rd_T121 y0_3 x5).f4, (rd_T121 y0_3 x5).f5⟩ : S121)) : Option (List S121)).bind fun y0_4 => (if x5 < (y0_4.length : Int) then ((some (y0_4.set (x5 : Int).toNat (⟨(rd_T121 y0_4 x5).f0, (rd_T121 y0_4 x5).f1, (rd_T121 y0_4 x5).f2, (rd_T121 y0_4 x5).f3, (wrap64 ((wrap64 ((wrap64 ((wrap64 (x1 + 1)) + 1)) + 1)) + 1)), (rd_T121 y0_4 x5).f5⟩ : S121)) : Option (List S121)).bind fun y0_5 => (if x5 < (y0_5.length : Int) then (laws_markFactS.l0 k (y0_5.set (x5 : Int).toNat (⟨(rd_T121 y0_5 x5).f0, (rd_T121 y0_5 x5).f1, (rd_T121 y0_5 x5).f2, (rd_T121 y0_5 x5).f3, (rd_T121 y0_5 x5).f4, (wrap64 ((wrap64 ((wrap64 ((wrap64 ((wrap64 (x1 + 1)) + 1)) + 1)) + 1)) + 1))⟩ : S121)) (wrap64 ((wrap64 ((wrap64 ((wrap64 ((wrap64 ((wrap64 (x1 + 1)) + 1)) + 1)) + 1)) + 1)) + 1)) (wrap64 (x5 + 1))) else none)) else none)) else none)) else none)) else none)) else none) else (some (x1, x0))
def laws_markFactS.f (k : Nat) (a0 : List S121) (a1 : Int) : Option (Int × (List S121)) := laws_markFactS.l0 k a0 a1 0
def laws_markRevokedS.l0 : Nat → List S125 → Int → Int → Option (Int × (List S125))
 | 0, _, _, _ => none
 | k + 1, x0, x1, x5 => if x5 < (x0.length : Int) then (if 0 ≤ x5 then ((some (x0.set (x5 : Int).toNat (⟨x1, (rd_T125 x0 x5).f1⟩ : S125)) : Option (List S125)).bind fun y0_1 => (if x5 < (y0_1.length : Int) then (laws_markRevokedS.l0 k (y0_1.set (x5 : Int).toNat (⟨(rd_T125 y0_1 x5).f0, (wrap64 (x1 + 1))⟩ : S125)) (wrap64 ((wrap64 (x1 + 1)) + 1)) (wrap64 (x5 + 1))) else none)) else none) else (some (x1, x0))
def laws_markRevokedS.f (k : Nat) (a0 : List S125) (a1 : Int) : Option (Int × (List S125)) := laws_markRevokedS.l0 k a0 a1 0
def laws_markCertS.l0 : Nat → List S129 → Int → Int → Option (Int × (List S129))
 | 0, _, _, _ => none
 | k + 1, x0, x1, x5 => if x5 < (x0.length : Int) then (if 0 ≤ x5 then ((some (x0.set (x5 : Int).toNat (⟨x1, (rd_T129 x0 x5).f1, (rd_T129 x0 x5).f2, (rd_T129 x0 x5).f3, (rd_T129 x0 x5).f4, (rd_T129 x0 x5).f5⟩ : S129)) : Option (List S129)).bind fun y0_1 => (if x5 < (y0_1.length : Int) then ((some (y0_1.set (x5 : Int).toNat (⟨(rd_T129 y0_1 x5).f0, (wrap64 (x1 + 1)), (rd_T129 y0_1 x5).f2, (rd_T129 y0_1 x5).f3, (rd_T129 y0_1 x5).f4, (rd_T129 y0_1 x5).f5⟩ : S129)) : Option (List S129)).bind fun y0_2 => (if x5 < (y0_2.length : Int) then ((some (y0_2.set (x5 : Int).toNat (⟨(rd_T129 y0_2 x5).f0, (rd_T129 y0_2 x5).f1, (wrap64 ((wrap64 (x1 + 1)) + 1)), (rd_T129 y0_2 x5).f3, (rd_T129 y0_2 x5).f4, (rd_T129 y0_2 x5).f5⟩ : S129)) : Option (List S129)).bind fun y0_3 => (if x5 < (y0_3.length : Int) then ((some (y0_3.set (x5 : Int).toNat (⟨(rd_T129 y0_3 x5).f0, (rd_T129 y0_3 x5).f1, (rd_T129 y0_3 x5).f2, (wrap64 ((wrap64 ((wrap64 (x1 + 1)) + 1)) + 1)), (rd_T129 y0_3 x5).f4, (rd_T129 y0_3 x5).f5⟩ : S129)) : Option (List S129)).bind fun y0_4 => (if x5 < (y0_4.length : Int) then ((some (y0_4.set (x5 : Int).toNat (⟨(rd_T129 y0_4 x5).f0, (rd_T129 y0_4 x5).f1, (rd_T129 y0_4 x5).f2, (rd_T129 y0_4 x5).f3, (wrap64 ((wrap64 ((wrap64 ((wrap64 (x1 + 1)) + 1)) + 1)) + 1)), (rd_T129 y0_4 x5).f5⟩ : S129)) : Option (List S129)).bind fun y0_5 => (if x5 < (y0_5.length : Int) then (laws_markCertS.l0 k (y0_5.set (x5 : Int).toNat (⟨(rd_T129 y0_5 x5).f0, (rd_T129 y0_5 x5).f1, (rd_T129 y0_5 x5).f2, (rd_T129 y0_5 x5).f3, (rd_T129 y0_5 x5).f4, (wrap64 ((wrap64 ((wrap64 ((wrap64 ((wrap64 (x1 + 1)) + 1)) + 1)) + 1)) + 1))⟩ : S129)) (wrap64 ((wrap64 ((wrap64 ((wrap64 ((wrap64 ((wrap64 (x1 + 1)) + 1)) + 1)) + 1)) + 1)) + 1)) (wrap64 (x5 + 1))) else none)) else none)) else none)) else none)) else none)) else none) else (some (x1, x0))
def laws_markCertS.f (k : Nat) (a0 : List S129) (a1 : Int) : Option (Int × (List S129)) := laws_markCertS.l0 k a0 a1 0
def laws_markCenter.f (k : Nat) (a0_0 : List S117) (a0_1 : List S115) (a0_2 : List S121) (a0_3 : List S125) (a0_4 : Int) (a0_5 : List S129) (a1 : Int) : Option (Int × (List S117) × (List S115) × (List S121) × (List S125) × (List S129)) := (laws_markIssuerS.f k a0_0 a1).bind fun t8 => ((laws_markEpochS.f k a0_1 t8.1).bind fun t12 => ((laws_markFactS.f k a0_2 t12.1).bind fun t16 => ((laws_markRevokedS.f k a0_3 t16.1).bind fun t20 => ((laws_markCertS.f k a0_5 t20.1).bind fun t24 => (some (t24.1, t8.2, t12.2, t16.2, t20.2, t24.2))))))
def laws_heldIntS.l0 : Nat → List Int → Int → Int → Option (Int)
 | 0, _, _, _ => none
 | k + 1, x0, x1, x5 => if x5 < (x0.length : Int) then (if 0 ≤ x5 then (if (rd x0 x5) = x1 then (laws_heldIntS.l0 k x0 (wrap64 (x1 + 1)) (wrap64 (x5 + 1))) else (some (-1))) else none) else (some x1)
def laws_heldIntS.f (k : Nat) (a0 : List Int) (a1 : Int) : Option (Int) := laws_heldIntS.l0 k a0 a1 0
def laws_heldIssuerS.l0 : Nat → List S117 → Int → Int → Option (Int)
 | 0, _, _, _ => none
 | k + 1, x0, x1, x5 => if x5 < (x0.length : Int) then (if 0 ≤ x5 then (if (rd_T117 x0 x5).f0 = x1 then ((laws_heldIntS.f k ((rd_T117 x0 x5).f1) (wrap64 (x1 + 1))).bind fun t27 => (if t27 < 0 then (some (-1)) else (if (rd_T117 x0 x5).f2 = t27 then (laws_heldIssuerS.l0 k x0 (wrap64 (t27 + 1)) (wrap64 (x5 + 1))) else (some (-1))))) else (some (-1))) else none) else (some x1)
def laws_heldIssuerS.f (k : Nat) (a0 : List S117) (a1 : Int) : Option (Int) := laws_heldIssuerS.l0 k a0 a1 0
def laws_heldIncludesS.l0 : Nat → List S75 → Int → Int → Option (Int)
 | 0, _, _, _ => none
 | k + 1, x0, x1, x5 => if x5 < (x0.length : Int) then (if 0 ≤ x5 then (if (rd_T75 x0 x5).f0 = x1 then (if (rd_T75 x0 x5).f1 = (wrap64 (x1 + 1)) then (laws_heldIncludesS.l0 k x0 (wrap64 ((wrap64 (x1 + 1)) + 1)) (wrap64 (x5 + 1))) else (some (-1))) else (some (-1))) else none) else (some x1)
def laws_heldIncludesS.f (k : Nat) (a0 : List S75) (a1 : Int) : Option (Int) := laws_heldIncludesS.l0 k a0 a1 0
mutual
def laws_heldCondS.l0 : Nat → List S80 → Int → Int → Option (Int)
 | 0, _, _, _ => none
 | k + 1, x0, x1, x5 => if x5 < (x0.length : Int) then (if 0 ≤ x5 then (if (rd_T80 x0 x5).f0 = x1 then (if (rd_T80 x0 x5).f1 = (wrap64 (x1 + 1)) then (if (rd_T80 x0 x5).f2 = (wrap64 ((wrap64 (x1 + 1)) + 1)) then ((laws_heldCondS.f k ((rd_T80 x0 x5).f3) (wrap64 ((wrap64 ((wrap64 (x1 + 1)) + 1)) + 1))).bind fun t45 => (if t45 < 0 then (some (-1)) else (laws_heldCondS.l0 k x0 t45 (wrap64 (x5 + 1))))) else (some (-1))) else (some (-1))) else (some (-1))) else none) else (some x1)
def laws_heldCondS.f : Nat → List S80 → Int → Option (Int)
 | 0, _, _ => none
 | k + 1, a0, a1 => laws_heldCondS.l0 k a0 a1 0
end
def laws_heldRuleS.l0 : Nat → List S82 → Int → Int → Option (Int)
 | 0, _, _, _ => none
 | k + 1, x0, x1, x5 => if x5 < (x0.length : Int) then (if 0 ≤ x5 then (if (rd_T82 x0 x5).f0 = x1 then (if (rd_T82 x0 x5).f1 = (wrap64 (x1 + 1)) then (if (rd_T82 x0 x5).f2 = (wrap64 ((wrap64 (x1 + 1)) + 1)) then (if (rd_T82 x0 x5).f3.f0 = (wrap64 ((wrap64 ((wrap64 (x1 + 1)) + 1)) + 1)) then (if (rd_T82 x0 x5).f3.f1 = (wrap64 ((wrap64 ((wrap64 ((wrap64 (x1 + 1)) + 1)) + 1)) + 1)) then (if (rd_T82 x0 x5).f3.f2 = (wrap64 ((wrap64 ((wrap64 ((wrap64 ((wrap64 (x1 + 1)) + 1)) + 1)) + 1)) + 1)) then ((laws_heldCondS.f k ((rd_T82 x0 x5).f3.f3) (wrap64 ((wrap64 ((wrap64 ((wrap64 ((wrap64 ((wrap64 (x1 + 1)) + 1)) + 1)) + 1)) + 1)) + 1))).bind fun t76 => (if t76 < 0 then (some (-1)) else (laws_heldRuleS.l0 k x0 t76 (wrap64 (x5 + 1))))) else (some (-1))) else (some (-1))) else (some (-1))) else (some (-1))) else (some (-1))) else (some (-1))) else none) else (some x1)
def laws_heldRuleS.f (k : Nat) (a0 : List S82) (a1 : Int) : Option (Int) := laws_heldRuleS.l0 k a0 a1 0
def laws_heldEpochS.l0 : Nat → List S115 → Int → Int → Option (Int)
 | 0, _, _, _ => none
 | k + 1, x0, x1, x5 => if x5 < (x0.length : Int) then (if 0 ≤ x5 then (if (rd_T115 x0 x5).f0 = x1 then (if (rd_T115 x0 x5).f1 = (wrap64 (x1 + 1)) then ((laws_heldIncludesS.f k ((rd_T115 x0 x5).f2) (wrap64 ((wrap64 (x1 + 1)) + 1))).bind fun t36 => (if t36 < 0 then (some (-1)) else (if (rd_T115 x0 x5).f3.f0 = t36 then ((laws_heldRuleS.f k ((rd_T115 x0 x5).f3.f1) (wrap64 (t36 + 1))).bind fun t56 => (if t56 < 0 then (some (-1)) else (laws_heldEpochS.l0 k x0 t56 (wrap64 (x5 + 1))))) else (some (-1))))) else (some (-1))) else (some (-1))) else none) else (some x1)
def laws_heldEpochS.f (k : Nat) (a0 : List S115) (a1 : Int) : Option (Int) := laws_heldEpochS.l0 k a0 a1 0
def laws_heldFactS.l0 : Nat → List S121 → Int → Int → Option (Int)
 | 0, _, _, _ => none
 | k + 1, x0, x1, x5 => if x5 < (x0.length : Int) then (if 0 ≤ x5 then (if (rd_T121 x0 x5).f0 = x1 then (if (rd_T121 x0 x5).f1 = (wrap64 (x1 + 1)) then (if (rd_T121 x0 x5).f2 = (wrap64 ((wrap64 (x1 + 1)) + 1)) then (if (rd_T121 x0 x5).f3 = (wrap64 ((wrap64 ((wrap64 (x1 + 1)) + 1)) + 1)) then (if (rd_T121 x0 x5).f4 = (wrap64 ((wrap64 ((wrap64 ((wrap64 (x1 + 1)) + 1)) + 1)) + 1)) then (if (rd_T121 x0 x5).f5 = (wrap64 ((wrap64 ((wrap64 ((wrap64 ((wrap64 (x1 + 1)) + 1)) + 1)) + 1)) + 1)) then (laws_heldFactS.l0 k x0 (wrap64 ((wrap64 ((wrap64 ((wrap64 ((wrap64 ((wrap64 (x1 + 1)) + 1)) + 1)) + 1)) + 1)) + 1)) (wrap64 (x5 + 1))) else (some (-1))) else (some (-1))) else (some (-1))) else (some (-1))) else (some (-1))) else (some (-1))) else none) else (some x1)
def laws_heldFactS.f (k : Nat) (a0 : List S121) (a1 : Int) : Option (Int) := laws_heldFactS.l0 k a0 a1 0
def laws_heldRevokedS.l0 : Nat → List S125 → Int → Int → Option (Int)
 | 0, _, _, _ => none
 | k + 1, x0, x1, x5 => if x5 < (x0.length : Int) then (if 0 ≤ x5 then (if (rd_T125 x0 x5).f0 = x1 then (if (rd_T125 x0 x5).f1 = (wrap64 (x1 + 1)) then (laws_heldRevokedS.l0 k x0 (wrap64 ((wrap64 (x1 + 1)) + 1)) (wrap64 (x5 + 1))) else (some (-1))) else (some (-1))) else none) else (some x1)
def laws_heldRevokedS.f (k : Nat) (a0 : List S125) (a1 : Int) : Option (Int) := laws_heldRevokedS.l0 k a0 a1 0
def laws_heldCertS.l0 : Nat → List S129 → Int → Int → Option (Int)
 | 0, _, _, _ => none
 | k + 1, x0, x1, x5 => if x5 < (x0.length : Int) then (if 0 ≤ x5 then (if (rd_T129 x0 x5).f0 = x1 then (if (rd_T129 x0 x5).f1 = (wrap64 (x1 + 1)) then (if (rd_T129 x0 x5).f2 = (wrap64 ((wrap64 (x1 + 1)) + 1)) then (if (rd_T129 x0 x5).f3 = (wrap64 ((wrap64 ((wrap64 (x1 + 1)) + 1)) + 1)) then (if (rd_T129 x0 x5).f4 = (wrap64 ((wrap64 ((wrap64 ((wrap64 (x1 + 1)) + 1)) + 1)) + 1)) then (if (rd_T129 x0 x5).f5 = (wrap64 ((wrap64 ((wrap64 ((wrap64 ((wrap64 (x1 + 1)) + 1)) + 1)) + 1)) + 1)) then (laws_heldCertS.l0 k x0 (wrap64 ((wrap64 ((wrap64 ((wrap64 ((wrap64 ((wrap64 (x1 + 1)) + 1)) + 1)) + 1)) + 1)) + 1)) (wrap64 (x5 + 1))) else (some (-1))) else (some (-1))) else (some (-1))) else (some (-1))) else (some (-1))) else (some (-1))) else none) else (some x1)
def laws_heldCertS.f (k : Nat) (a0 : List S129) (a1 : Int) : Option (Int) := laws_heldCertS.l0 k a0 a1 0
def laws_heldCenter.f (k : Nat) (a0_0 : List S117) (a0_1 : List S115) (a0_2 : List S121) (a0_3 : List S125) (a0_4 : Int) (a0_5 : List S129) (a1 : Int) : Option (Int) := (laws_heldIssuerS.f k a0_0 a1).bind fun t8 => (if t8 < 0 then (some (-1)) else ((laws_heldEpochS.f k a0_1 t8).bind fun t14 => (if t14 < 0 then (some (-1)) else ((laws_heldFactS.f k a0_2 t14).bind fun t20 => (if t20 < 0 then (some (-1)) else ((laws_heldRevokedS.f k a0_3 t20).bind fun t26 => (if t26 < 0 then (some (-1)) else ((laws_heldCertS.f k a0_5 t26).bind fun t32 => (if t32 < 0 then (some (-1)) else (some t32))))))))))
def laws_FnExactCenterPublish.f (k : Nat) (a0_0 : List S100) (a0_1 : List S105) (a0_2 : List S123) (a0_3 : List S127) (a0_4 : Int) (a0_5 : List S131) (a1 : List S77) (a2 : List S65) (a3 : Int) : Option (Bool) := (laws_szCenter.f k a0_0 a0_1 a0_2 a0_3 a0_4 a0_5 1048576).bind fun t24 => (if t24 < 0 then (some true) else ((laws_szIncludesS.f a1 t24).bind fun t29 => (if t29 < 0 then (some true) else ((laws_szRuleS.f k a2 t29).bind fun t34 => (if t34 < 0 then (some true) else ((laws_toCenter.f k a0_0 a0_1 a0_2 a0_3 a0_4 a0_5).bind fun t39 => ((laws_toIncludesS.f k a1).bind fun t41 => ((laws_toRuleS.f k a2).bind fun t43 => ((spec_CenterPublish.f k t39.1 t39.2.1 t39.2.2.1 t39.2.2.2.1 t39.2.2.2.2.1 t39.2.2.2.2.2 t41 t43 a3).bind fun t45 => ((laws_toCenter.f k a0_0 a0_1 a0_2 a0_3 a0_4 a0_5).bind fun t49 => ((laws_toIncludesS.f k a1).bind fun t51 => ((laws_toRuleS.f k a2).bind fun t53 => ((impl_CenterPublish.f k t49.1 t49.2.1 t49.2.2.1 t49.2.2.2.1 t49.2.2.2.2.1 t49.2.2.2.2.2 t51 t53 a3).bind fun t59 => ((laws_eqCenter.f k t59.1 t59.2.1 t59.2.2.1 t59.2.2.2.1 t59.2.2.2.2.1 t59.2.2.2.2.2.1 t45.1 t45.2.1 t45.2.2.1 t45.2.2.2.1 t45.2.2.2.2.1 t45.2.2.2.2.2.1).bind fun t64 => (if t64 = true then (if (t59.2.2.2.2.2.2 != t45.2.2.2.2.2.2) = true then (some false) else ((laws_toCenter.f k a0_0 a0_1 a0_2 a0_3 a0_4 a0_5).bind fun t73 => ((laws_eqCenter.f k t49.1 t49.2.1 t49.2.2.1 t49.2.2.2.1 t49.2.2.2.2.1 t49.2.2.2.2.2 t73.1 t73.2.1 t73.2.2.1 t73.2.2.2.1 t73.2.2.2.2.1 t73.2.2.2.2.2).bind fun t74 => (if t74 = true then ((laws_toIncludesS.f k a1).bind fun t78 => ((laws_eqIncludesS.f k t51 t78).bind fun t79 => (if t79 = true then ((laws_toRuleS.f k a2).bind fun t83 => ((laws_eqRuleS.f k t53 t83).bind fun t84 => (if t84 = true then ((laws_markCenter.f k t49.1 t49.2.1 t49.2.2.1 t49.2.2.2.1 t49.2.2.2.2.1 t49.2.2.2.2.2 1).bind fun t88 => ((laws_markIncludesS.f k t51 t88.1).bind fun t91 => ((laws_markRuleS.f k t53 t91.1).bind fun t94 => (if t94.1 < 0 then (some false) else ((laws_eqCenter.f k t59.1 t59.2.1 t59.2.2.1 t59.2.2.2.1 t59.2.2.2.2.1 t59.2.2.2.2.2.1 t45.1 t45.2.1 t45.2.2.1 t45.2.2.2.1 t45.2.2.2.2.1 t45.2.2.2.2.2.1).bind fun t100 => (if t100 = true then ((laws_markCenter.f k t59.1 t59.2.1 t59.2.2.1 t59.2.2.2.1 t59.2.2.2.2.1 t59.2.2.2.2.2.1 1).bind fun t110 => ((laws_heldCenter.f k t110.2.1 t110.2.2.1 t110.2.2.2.1 t110.2.2.2.2.1 t59.2.2.2.2.1 t110.2.2.2.2.2 1).bind fun t113 => (if t113 < 0 then (some false) else (if t113 = t110.1 then ((laws_toCenter.f k a0_0 a0_1 a0_2 a0_3 a0_4 a0_5).bind fun t121 => ((laws_toIncludesS.f k a1).bind fun t123 => ((laws_toRuleS.f k a2).bind fun t125 => ((impl_CenterPublish.f k t121.1 t121.2.1 t121.2.2.1 t121.2.2.2.1 t121.2.2.2.2.1 t121.2.2.2.2.2 t123 t125 a3).bind fun t127 => ((laws_eqCenter.f k t127.1 t127.2.1 t127.2.2.1 t127.2.2.2.1 t127.2.2.2.2.1 t127.2.2.2.2.2.1 t45.1 t45.2.1 t45.2.2.1 t45.2.2.2.1 t45.2.2.2.2.1 t45.2.2.2.2.2.1).bind fun t132 => (if t132 = true then (if (t127.2.2.2.2.2.2 != t45.2.2.2.2.2.2) = true then (some false) else ((laws_heldCenter.f k t110.2.1 t110.2.2.1 t110.2.2.2.1 t110.2.2.2.2.1 t59.2.2.2.2.1 t110.2.2.2.2.2 1).bind fun t141 => (if t141 < 0 then (some false) else (if t141 = t110.1 then (some true) else (some false))))) else (some false))))))) else (some false))))) else (some false))))))) else (some false)))) else (some false)))) else (some false))))) else (some false))))))))))))))))
def g100 (x : S100) : Prop := (Lit.int .i64 x.f0).wf = true ∧ (x.f1.length ≤ maxLen ∧ ∀ y_ ∈ x.f1, (Lit.int .i64 y_).wf = true) ∧ (Lit.int .i64 x.f2).wf = true
def g77 (x : S77) : Prop := (Lit.int .i64 x.f0).wf = true ∧ (Lit.int .i64 x.f1).wf = true
def GF63 (G : S63 → Prop) (x : S63) : Prop := (Lit.int .i64 x.f0).wf = true ∧ (Lit.int .i64 x.f1).wf = true ∧ (Lit.int .i64 x.f2).wf = true ∧ (x.f3.length ≤ maxLen ∧ ∀ y_ ∈ x.f3, G y_)
def g63 (x : S63) : Prop := ∃ k, Nat.rec (motive := fun _ => S63 → Prop) (fun _ => False) (fun _ G => GF63 G) k x
def g65 (x : S65) : Prop := (Lit.int .i64 x.f0).wf = true ∧ (Lit.int .i64 x.f1).wf = true ∧ (Lit.int .i64 x.f2).wf = true ∧ g63 x.f3
def g103 (x : S103) : Prop := (Lit.int .i64 x.f0).wf = true ∧ (x.f1.length ≤ maxLen ∧ ∀ y_ ∈ x.f1, g65 y_)
def g105 (x : S105) : Prop := (Lit.int .i64 x.f0).wf = true ∧ (Lit.int .i64 x.f1).wf = true ∧ (x.f2.length ≤ maxLen ∧ ∀ y_ ∈ x.f2, g77 y_) ∧ g103 x.f3
def g123 (x : S123) : Prop := (Lit.int .i64 x.f0).wf = true ∧ (Lit.int .i64 x.f1).wf = true ∧ (Lit.int .i64 x.f2).wf = true ∧ (Lit.int .i64 x.f3).wf = true ∧ (Lit.int .i64 x.f4).wf = true ∧ (Lit.int .i64 x.f5).wf = true
def g127 (x : S127) : Prop := (Lit.int .i64 x.f0).wf = true ∧ (Lit.int .i64 x.f1).wf = true
def g131 (x : S131) : Prop := (Lit.int .i64 x.f0).wf = true ∧ (Lit.int .i64 x.f1).wf = true ∧ (Lit.int .i64 x.f2).wf = true ∧ (Lit.int .i64 x.f3).wf = true ∧ (Lit.int .i64 x.f4).wf = true ∧ (Lit.int .i64 x.f5).wf = true
def g28 (x : S28) : Prop := (x.f0.length ≤ maxLen ∧ ∀ y_ ∈ x.f0, g100 y_) ∧ (x.f1.length ≤ maxLen ∧ ∀ y_ ∈ x.f1, g105 y_) ∧ (x.f2.length ≤ maxLen ∧ ∀ y_ ∈ x.f2, g123 y_) ∧ (x.f3.length ≤ maxLen ∧ ∀ y_ ∈ x.f3, g127 y_) ∧ (Lit.int .i64 x.f4).wf = true ∧ (x.f5.length ≤ maxLen ∧ ∀ y_ ∈ x.f5, g131 y_)
def laws_FnExactCenterPublish.Pure : Prop := ∀ (x0 : S28) (l1 : List S77) (l2 : List S65) (a3 : Int), g28 x0 → l1.length ≤ maxLen → (∀ y_ ∈ l1, g77 y_) → l2.length ≤ maxLen → (∀ y_ ∈ l2, g65 y_) → (Lit.int .i64 a3).wf = true → ∃ k, laws_FnExactCenterPublish.f k x0.f0 x0.f1 x0.f2 x0.f3 x0.f4 x0.f5 l1 l2 a3 = some true
end Go.Proofs.YtlnimankbhcinaaGreat.QFnExactCenterPublish
