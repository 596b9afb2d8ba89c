import Derived.Lib.SlicesCompact
import Derived.Test.YtpdnnndedejlhaaGreatWWords
/- What each function that FnExactCenterTake reaches computes, over numbers and lists. -/
namespace Go.Proofs.YtpdnnndedejlhaaGreat.QFnExactCenterTake
open Go Go.RowKit Go.Proofs.YtpdnnndedejlhaaGreatW.PrintWords
set_option linter.unusedVariables false
structure S79 where
  f0 : Int
  f1 : (List Int)
  f2 : Int
def z79 : S79 := ⟨(0 : Int), ([] : List Int), (0 : Int)⟩
def rd_T79 (xs : List S79) (i : Int) : S79 := xs.getD i.toNat z79
structure S151 where
  f0 : Int
  f1 : Int
def z151 : S151 := ⟨(0 : Int), (0 : Int)⟩
def rd_T151 (xs : List S151) (i : Int) : S151 := xs.getD i.toNat z151
structure S161 where
  f0 : Int
  f1 : Int
  f2 : Int
  f3 : (List S161)
def z161 : S161 := ⟨(0 : Int), (0 : Int), (0 : Int), ([] : List S161)⟩
def rd_T161 (xs : List S161) (i : Int) : S161 := xs.getD i.toNat z161
structure S163 where
  f0 : Int
  f1 : Int
  f2 : Int
  f3 : S161
def z163 : S163 := ⟨(0 : Int), (0 : Int), (0 : Int), z161⟩
def rd_T163 (xs : List S163) (i : Int) : S163 := xs.getD i.toNat z163
structure S84 where
  f0 : Int
  f1 : (List S163)
def z84 : S84 := ⟨(0 : Int), ([] : List S163)⟩
structure S86 where
  f0 : Int
  f1 : Int
  f2 : (List S151)
  f3 : S84
def z86 : S86 := ⟨(0 : Int), (0 : Int), ([] : List S151), z84⟩
def rd_T86 (xs : List S86) (i : Int) : S86 := xs.getD i.toNat z86
structure S30 where
  f0 : Int
  f1 : Int
  f2 : Int
  f3 : Int
  f4 : Int
  f5 : Int
def z30 : S30 := ⟨(0 : Int), (0 : Int), (0 : Int), (0 : Int), (0 : Int), (0 : Int)⟩
def rd_T30 (xs : List S30) (i : Int) : S30 := xs.getD i.toNat z30
structure S107 where
  f0 : Int
  f1 : Int
def z107 : S107 := ⟨(0 : Int), (0 : Int)⟩
def rd_T107 (xs : List S107) (i : Int) : S107 := xs.getD i.toNat z107
structure S111 where
  f0 : Int
  f1 : Int
  f2 : Int
  f3 : Int
  f4 : Int
  f5 : Int
def z111 : S111 := ⟨(0 : Int), (0 : Int), (0 : Int), (0 : Int), (0 : Int), (0 : Int)⟩
def rd_T111 (xs : List S111) (i : Int) : S111 := xs.getD i.toNat z111
structure S92 where
  f0 : Int
  f1 : (List Int)
  f2 : Int
def z92 : S92 := ⟨(0 : Int), ([] : List Int), (0 : Int)⟩
def rd_T92 (xs : List S92) (i : Int) : S92 := xs.getD i.toNat z92
structure S140 where
  f0 : Int
  f1 : Int
def z140 : S140 := ⟨(0 : Int), (0 : Int)⟩
def rd_T140 (xs : List S140) (i : Int) : S140 := xs.getD i.toNat z140
structure S143 where
  f0 : Int
  f1 : Int
  f2 : Int
  f3 : (List S143)
def z143 : S143 := ⟨(0 : Int), (0 : Int), (0 : Int), ([] : List S143)⟩
def rd_T143 (xs : List S143) (i : Int) : S143 := xs.getD i.toNat z143
structure S145 where
  f0 : Int
  f1 : Int
  f2 : Int
  f3 : S143
def z145 : S145 := ⟨(0 : Int), (0 : Int), (0 : Int), z143⟩
def rd_T145 (xs : List S145) (i : Int) : S145 := xs.getD i.toNat z145
structure S100 where
  f0 : Int
  f1 : (List S145)
def z100 : S100 := ⟨(0 : Int), ([] : List S145)⟩
structure S102 where
  f0 : Int
  f1 : Int
  f2 : (List S140)
  f3 : S100
def z102 : S102 := ⟨(0 : Int), (0 : Int), ([] : List S140), z100⟩
def rd_T102 (xs : List S102) (i : Int) : S102 := xs.getD i.toNat z102
structure S44 where
  f0 : Int
  f1 : Int
  f2 : Int
  f3 : Int
  f4 : Int
  f5 : Int
def z44 : S44 := ⟨(0 : Int), (0 : Int), (0 : Int), (0 : Int), (0 : Int), (0 : Int)⟩
def rd_T44 (xs : List S44) (i : Int) : S44 := xs.getD i.toNat z44
structure S105 where
  f0 : Int
  f1 : Int
def z105 : S105 := ⟨(0 : Int), (0 : Int)⟩
def rd_T105 (xs : List S105) (i : Int) : S105 := xs.getD i.toNat z105
structure S109 where
  f0 : Int
  f1 : Int
  f2 : Int
  f3 : Int
  f4 : Int
  f5 : Int
def z109 : S109 := ⟨(0 : Int), (0 : Int), (0 : Int), (0 : Int), (0 : Int), (0 : Int)⟩
def rd_T109 (xs : List S109) (i : Int) : S109 := xs.getD i.toNat z109
structure S28 where
  f0 : (List S79)
  f1 : (List S86)
  f2 : (List S30)
  f3 : (List S107)
  f4 : Int
  f5 : (List S111)
def z28 : S28 := ⟨([] : List S79), ([] : List S86), ([] : List S30), ([] : List S107), (0 : Int), ([] : List S111)⟩
structure S32 where
  f0 : S30
  f1 : Int
def z32 : S32 := ⟨z30, (0 : Int)⟩
structure S40 where
  f0 : (List S92)
  f1 : (List S102)
  f2 : (List S44)
  f3 : (List S105)
  f4 : Int
  f5 : (List S109)
def z40 : S40 := ⟨([] : List S92), ([] : List S102), ([] : List S44), ([] : List S105), (0 : Int), ([] : List S109)⟩
structure S46 where
  f0 : S44
  f1 : Int
def z46 : S46 := ⟨z44, (0 : Int)⟩
def laws_szIntS.f (a0 : List Int) (a1 : Int) : Option (Int) := if (wrap64 (a1 - (a0.length : Int))) < 0 then (some (-1)) else (some (wrap64 (a1 - (a0.length : Int))))
def laws_szIssuer.f (a0_0 : Int) (a0_1 : List Int) (a0_2 : Int) (a1 : Int) : Option (Int) := (laws_szIntS.f a0_1 a1).bind fun t8 => (if t8 < 0 then (some (-1)) else (some t8))
def laws_szIssuerS.l0 : Nat → List S79 → Int → Int → Option (Int)
 | 0, _, _, _ => none
 | k + 1, x0, x1, x5 => if x5 < (x0.length : Int) then (if 0 ≤ x5 then ((laws_szIssuer.f ((rd_T79 x0 x5).f0) ((rd_T79 x0 x5).f1) ((rd_T79 x0 x5).f2) x1).bind fun t23 => (if t23 < 0 then (some (-1)) else (laws_szIssuerS.l0 k x0 t23 (wrap64 (x5 + 1))))) else none) else (some x1)
def laws_szIssuerS.f (k : Nat) (a0 : List S79) (a1 : Int) : Option (Int) := if (wrap64 (a1 - (a0.length : Int))) < 0 then (some (-1)) else (laws_szIssuerS.l0 k a0 (wrap64 (a1 - (a0.length : Int))) 0)
def laws_szIncludesS.f (a0 : List S151) (a1 : Int) : Option (Int) := if (wrap64 (a1 - (a0.length : Int))) < 0 then (some (-1)) else (some (wrap64 (a1 - (a0.length : Int))))
mutual
def laws_szCondS.l0 : Nat → List S161 → Int → Int → Option (Int)
 | 0, _, _, _ => none
 | k + 1, x0, x1, x5 => if x5 < (x0.length : Int) then (if 0 ≤ x5 then ((laws_szCond.f k ((rd_T161 x0 x5).f0) ((rd_T161 x0 x5).f1) ((rd_T161 x0 x5).f2) ((rd_T161 x0 x5).f3) x1).bind fun t23 => (if t23 < 0 then (some (-1)) else (laws_szCondS.l0 k x0 t23 (wrap64 (x5 + 1))))) else none) else (some x1)
def laws_szCondS.f : Nat → List S161 → Int → Option (Int)
 | 0, _, _ => none
 | k + 1, a0, a1 => if (wrap64 (a1 - (a0.length : Int))) < 0 then (some (-1)) else (laws_szCondS.l0 k a0 (wrap64 (a1 - (a0.length : Int))) 0)
def laws_szCond.f : Nat → Int → Int → Int → List S161 → Int → Option (Int)
 | 0, _, _, _, _, _ => none
 | k + 1, a0_0, a0_1, a0_2, a0_3, a1 => (laws_szCondS.f k a0_3 a1).bind fun t8 => (if t8 < 0 then (some (-1)) else (some t8))
end
def laws_szRule.f (k : Nat) (a0_0 : Int) (a0_1 : Int) (a0_2 : Int) (a0_3 : Int) (a0_4 : Int) (a0_5 : Int) (a0_6 : List S161) (a1 : Int) : Option (Int) := (laws_szCond.f k a0_3 a0_4 a0_5 a0_6 a1).bind fun t8 => (if t8 < 0 then (some (-1)) else (some t8))
def laws_szRuleS.l0 : Nat → List S163 → Int → Int → Option (Int)
 | 0, _, _, _ => none
 | k + 1, x0, x1, x5 => if x5 < (x0.length : Int) then (if 0 ≤ x5 then ((laws_szRule.f k ((rd_T163 x0 x5).f0) ((rd_T163 x0 x5).f1) ((rd_T163 x0 x5).f2) ((rd_T163 x0 x5).f3.f0) ((rd_T163 x0 x5).f3.f1) ((rd_T163 x0 x5).f3.f2) ((rd_T163 x0 x5).f3.f3) x1).bind fun t23 => (if t23 < 0 then (some (-1)) else (laws_szRuleS.l0 k x0 t23 (wrap64 (x5 + 1))))) else none) else (some x1)
def laws_szRuleS.f (k : Nat) (a0 : List S163) (a1 : Int) : Option (Int) := if (wrap64 (a1 - (a0.length : Int))) < 0 then (some (-1)) else (laws_szRuleS.l0 k a0 (wrap64 (a1 - (a0.length : Int))) 0)
def laws_szPolicy.f (k : Nat) (a0_0 : Int) (a0_1 : List S163) (a1 : Int) : Option (Int) := (laws_szRuleS.f k a0_1 a1).bind fun t8 => (if t8 < 0 then (some (-1)) else (some t8))
def laws_szEpoch.f (k : Nat) (a0_0 : Int) (a0_1 : Int) (a0_2 : List S151) (a0_3 : Int) (a0_4 : List S163) (a1 : Int) : Option (Int) := (laws_szIncludesS.f a0_2 a1).bind fun t8 => (if t8 < 0 then (some (-1)) else ((laws_szPolicy.f k a0_3 a0_4 t8).bind fun t14 => (if t14 < 0 then (some (-1)) else (some t14))))
def laws_szEpochS.l0 : Nat → List S86 → Int → Int → Option (Int)
 | 0, _, _, _ => none
 | k + 1, x0, x1, x5 => if x5 < (x0.length : Int) then (if 0 ≤ x5 then ((laws_szEpoch.f k ((rd_T86 x0 x5).f0) ((rd_T86 x0 x5).f1) ((rd_T86 x0 x5).f2) ((rd_T86 x0 x5).f3.f0) ((rd_T86 x0 x5).f3.f1) x1).bind fun t23 => (if t23 < 0 then (some (-1)) else (laws_szEpochS.l0 k x0 t23 (wrap64 (x5 + 1))))) else none) else (some x1)
def laws_szEpochS.f (k : Nat) (a0 : List S86) (a1 : Int) : Option (Int) := if (wrap64 (a1 - (a0.length : Int))) < 0 then (some (-1)) else (laws_szEpochS.l0 k a0 (wrap64 (a1 - (a0.length : Int))) 0)
def laws_szFactS.f (a0 : List S30) (a1 : Int) : Option (Int) := if (wrap64 (a1 - (a0.length : Int))) < 0 then (some (-1)) else (some (wrap64 (a1 - (a0.length : Int))))
def laws_szRevokedS.f (a0 : List S107) (a1 : Int) : Option (Int) := if (wrap64 (a1 - (a0.length : Int))) < 0 then (some (-1)) else (some (wrap64 (a1 - (a0.length : Int))))
def laws_szCertS.f (a0 : List S111) (a1 : Int) : Option (Int) := if (wrap64 (a1 - (a0.length : Int))) < 0 then (some (-1)) else (some (wrap64 (a1 - (a0.length : Int))))
def laws_szCenter.f (k : Nat) (a0_0 : List S79) (a0_1 : List S86) (a0_2 : List S30) (a0_3 : List S107) (a0_4 : Int) (a0_5 : List S111) (a1 : Int) : Option (Int) := (laws_szIssuerS.f k a0_0 a1).bind fun t8 => (if t8 < 0 then (some (-1)) else ((laws_szEpochS.f k a0_1 t8).bind fun t14 => (if t14 < 0 then (some (-1)) else ((laws_szFactS.f a0_2 t14).bind fun t20 => (if t20 < 0 then (some (-1)) else ((laws_szRevokedS.f a0_3 t20).bind fun t26 => (if t26 < 0 then (some (-1)) else ((laws_szCertS.f a0_5 t26).bind fun t32 => (if t32 < 0 then (some (-1)) else (some t32))))))))))
def laws_toIntS.l0 : Nat → List Int → List Int → Int → Option ((List Int))
 | 0, _, _, _ => none
 | k + 1, x0, x3, x4 => if x4 < (x0.length : Int) then (if 0 ≤ x4 then (if x4 < (x3.length : Int) then (laws_toIntS.l0 k x0 (x3.set (x4 : Int).toNat (rd x0 x4)) (wrap64 (x4 + 1))) else none) else none) else (some x3)
def laws_toIntS.f (k : Nat) (a0 : List Int) : Option ((List Int)) := if (a0.length : Int) = (a0.length : Int) then (if 0 ≤ (a0.length : Int) then (if (a0.length : Int) ≤ 35184372088832 then (laws_toIntS.l0 k a0 (List.replicate (a0.length : Int).toNat 0) 0) else none) else none) else none
def laws_toIssuer.f (k : Nat) (a0_0 : Int) (a0_1 : List Int) (a0_2 : Int) : Option (Int × (List Int) × Int) := (laws_toIntS.f k a0_1).bind fun t9 => (some (a0_0, t9, a0_2))
def laws_toIssuerS.l0 : Nat → List S79 → List S92 → Int → Option ((List S92))
 | 0, _, _, _ => none
 | k + 1, x0, x3, x4 => if x4 < (x0.length : Int) then (if 0 ≤ x4 then ((laws_toIssuer.f k ((rd_T79 x0 x4).f0) ((rd_T79 x0 x4).f1) ((rd_T79 x0 x4).f2)).bind fun t20 => (if x4 < (x3.length : Int) then (laws_toIssuerS.l0 k x0 (x3.set (x4 : Int).toNat (⟨t20.1, t20.2.1, t20.2.2⟩ : S92)) (wrap64 (x4 + 1))) else none)) else none) else (some x3)
def laws_toIssuerS.f (k : Nat) (a0 : List S79) : Option ((List S92)) := if (a0.length : Int) = (a0.length : Int) then (if 0 ≤ (a0.length : Int) then (if (a0.length : Int) ≤ 7036874417766 then (laws_toIssuerS.l0 k a0 (List.replicate (a0.length : Int).toNat (⟨0, ([] : List Int), 0⟩ : S92)) 0) else none) else none) else none
def laws_toIncludes.f (a0_0 : Int) (a0_1 : Int) : Option (Int × Int) := some (a0_0, a0_1)
def laws_toIncludesS.l0 : Nat → List S151 → List S140 → Int → Option ((List S140))
 | 0, _, _, _ => none
 | k + 1, x0, x3, x4 => if x4 < (x0.length : Int) then (if 0 ≤ x4 then ((laws_toIncludes.f ((rd_T151 x0 x4).f0) ((rd_T151 x0 x4).f1)).bind fun t20 => (if x4 < (x3.length : Int) then (laws_toIncludesS.l0 k x0 (x3.set (x4 : Int).toNat (⟨t20.1, t20.2⟩ : S140)) (wrap64 (x4 + 1))) else none)) else none) else (some x3)
def laws_toIncludesS.f (k : Nat) (a0 : List S151) : Option ((List S140)) := if (a0.length : Int) = (a0.length : Int) then (if 0 ≤ (a0.length : Int) then (if (a0.length : Int) ≤ 17592186044416 then (laws_toIncludesS.l0 k a0 (List.replicate (a0.length : Int).toNat (⟨0, 0⟩ : S140)) 0) else none) else none) else none
mutual
def laws_toCondS.l0 : Nat → List S161 → List S143 → Int → Option ((List S143))
 | 0, _, _, _ => none
 | k + 1, x0, x3, x4 => if x4 < (x0.length : Int) then (if 0 ≤ x4 then ((laws_toCond.f k ((rd_T161 x0 x4).f0) ((rd_T161 x0 x4).f1) ((rd_T161 x0 x4).f2) ((rd_T161 x0 x4).f3)).bind fun t20 => (if x4 < (x3.length : Int) then (laws_toCondS.l0 k x0 (x3.set (x4 : Int).toNat (⟨t20.1, t20.2.1, t20.2.2.1, t20.2.2.2⟩ : S143)) (wrap64 (x4 + 1))) else none)) else none) else (some x3)
def laws_toCondS.f : Nat → List S161 → Option ((List S143))
 | 0, _ => none
 | k + 1, a0 => if (a0.length : Int) = (a0.length : Int) then (if 0 ≤ (a0.length : Int) then (if (a0.length : Int) ≤ 5864062014805 then (laws_toCondS.l0 k a0 (List.replicate (a0.length : Int).toNat (⟨0, 0, 0, ([] : List S143)⟩ : S143)) 0) else none) else none) else none
def laws_toCond.f : Nat → Int → Int → Int → List S161 → Option (Int × Int × Int × (List S143))
 | 0, _, _, _, _ => none
 | k + 1, a0_0, a0_1, a0_2, a0_3 => (laws_toCondS.f k a0_3).bind fun t15 => (some (a0_0, a0_1, a0_2, t15))
end
def laws_toRule.f (k : Nat) (a0_0 : Int) (a0_1 : Int) (a0_2 : Int) (a0_3 : Int) (a0_4 : Int) (a0_5 : Int) (a0_6 : List S161) : Option (Int × Int × Int × Int × Int × Int × (List S143)) := (laws_toCond.f k a0_3 a0_4 a0_5 a0_6).bind fun t15 => (some (a0_0, a0_1, a0_2, t15.1, t15.2.1, t15.2.2.1, t15.2.2.2))
def laws_toRuleS.l0 : Nat → List S163 → List S145 → Int → Option ((List S145))
 | 0, _, _, _ => none
 | k + 1, x0, x3, x4 => if x4 < (x0.length : Int) then (if 0 ≤ x4 then ((laws_toRule.f k ((rd_T163 x0 x4).f0) ((rd_T163 x0 x4).f1) ((rd_T163 x0 x4).f2) ((rd_T163 x0 x4).f3.f0) ((rd_T163 x0 x4).f3.f1) ((rd_T163 x0 x4).f3.f2) ((rd_T163 x0 x4).f3.f3)).bind fun t20 => (if x4 < (x3.length : Int) then (laws_toRuleS.l0 k x0 (x3.set (x4 : Int).toNat (⟨t20.1, t20.2.1, t20.2.2.1, (⟨t20.2.2.2.1, t20.2.2.2.2.1, t20.2.2.2.2.2.1, t20.2.2.2.2.2.2⟩ : S143)⟩ : S145)) (wrap64 (x4 + 1))) else none)) else none) else (some x3)
def laws_toRuleS.f (k : Nat) (a0 : List S163) : Option ((List S145)) := if (a0.length : Int) = (a0.length : Int) then (if 0 ≤ (a0.length : Int) then (if (a0.length : Int) ≤ 3909374676536 then (laws_toRuleS.l0 k a0 (List.replicate (a0.length : Int).toNat (⟨0, 0, 0, (⟨0, 0, 0, ([] : List S143)⟩ : S143)⟩ : S145)) 0) else none) else none) else none
def laws_toPolicy.f (k : Nat) (a0_0 : Int) (a0_1 : List S163) : Option (Int × (List S145)) := (laws_toRuleS.f k a0_1).bind fun t9 => (some (a0_0, t9))
def laws_toEpoch.f (k : Nat) (a0_0 : Int) (a0_1 : Int) (a0_2 : List S151) (a0_3 : Int) (a0_4 : List S163) : Option (Int × Int × (List S140) × Int × (List S145)) := (laws_toIncludesS.f k a0_2).bind fun t12 => ((laws_toPolicy.f k a0_3 a0_4).bind fun t16 => (some (a0_0, a0_1, t12, t16.1, t16.2)))
def laws_toEpochS.l0 : Nat → List S86 → List S102 → Int → Option ((List S102))
 | 0, _, _, _ => none
 | k + 1, x0, x3, x4 => if x4 < (x0.length : Int) then (if 0 ≤ x4 then ((laws_toEpoch.f k ((rd_T86 x0 x4).f0) ((rd_T86 x0 x4).f1) ((rd_T86 x0 x4).f2) ((rd_T86 x0 x4).f3.f0) ((rd_T86 x0 x4).f3.f1)).bind fun t20 => (if x4 < (x3.length : Int) then (laws_toEpochS.l0 k x0 (x3.set (x4 : Int).toNat (⟨t20.1, t20.2.1, t20.2.2.1, (⟨t20.2.2.2.1, t20.2.2.2.2⟩ : S100)⟩ : S102)) (wrap64 (x4 + 1))) else none)) else none) else (some x3)
def laws_toEpochS.f (k : Nat) (a0 : List S86) : Option ((List S102)) := if (a0.length : Int) = (a0.length : Int) then (if 0 ≤ (a0.length : Int) then (if (a0.length : Int) ≤ 3909374676536 then (laws_toEpochS.l0 k a0 (List.replicate (a0.length : Int).toNat (⟨0, 0, ([] : List S140), (⟨0, ([] : List S145)⟩ : S100)⟩ : S102)) 0) else none) else none) else none
def laws_toFact.f (a0_0 : Int) (a0_1 : Int) (a0_2 : Int) (a0_3 : Int) (a0_4 : Int) (a0_5 : Int) : Option (Int × Int × Int × Int × Int × Int) := some (a0_0, a0_1, a0_2, a0_3, a0_4, a0_5)
def laws_toFactS.l0 : Nat → List S30 → List S44 → Int → Option ((List S44))
 | 0, _, _, _ => none
 | k + 1, x0, x3, x4 => if x4 < (x0.length : Int) then (if 0 ≤ x4 then ((laws_toFact.f ((rd_T30 x0 x4).f0) ((rd_T30 x0 x4).f1) ((rd_T30 x0 x4).f2) ((rd_T30 x0 x4).f3) ((rd_T30 x0 x4).f4) ((rd_T30 x0 x4).f5)).bind fun t20 => (if x4 < (x3.length : Int) then (laws_toFactS.l0 k x0 (x3.set (x4 : Int).toNat (⟨t20.1, t20.2.1, t20.2.2.1, t20.2.2.2.1, t20.2.2.2.2.1, t20.2.2.2.2.2⟩ : S44)) (wrap64 (x4 + 1))) else none)) else none) else (some x3)
def laws_toFactS.f (k : Nat) (a0 : List S30) : Option ((List S44)) := if (a0.length : Int) = (a0.length : Int) then (if 0 ≤ (a0.length : Int) then (if (a0.length : Int) ≤ 5864062014805 then (laws_toFactS.l0 k a0 (List.replicate (a0.length : Int).toNat (⟨0, 0, 0, 0, 0, 0⟩ : S44)) 0) else none) else none) else none
def laws_toRevoked.f (a0_0 : Int) (a0_1 : Int) : Option (Int × Int) := some (a0_0, a0_1)
def laws_toRevokedS.l0 : Nat → List S107 → List S105 → Int → Option ((List S105))
 | 0, _, _, _ => none
 | k + 1, x0, x3, x4 => if x4 < (x0.length : Int) then (if 0 ≤ x4 then ((laws_toRevoked.f ((rd_T107 x0 x4).f0) ((rd_T107 x0 x4).f1)).bind fun t20 => (if x4 < (x3.length : Int) then (laws_toRevokedS.l0 k x0 (x3.set (x4 : Int).toNat (⟨t20.1, t20.2⟩ : S105)) (wrap64 (x4 + 1))) else none)) else none) else (some x3)
def laws_toRevokedS.f (k : Nat) (a0 : List S107) : Option ((List S105)) := if (a0.length : Int) = (a0.length : Int) then (if 0 ≤ (a0.length : Int) then (if (a0.length : Int) ≤ 17592186044416 then (laws_toRevokedS.l0 k a0 (List.replicate (a0.length : Int).toNat (⟨0, 0⟩ : S105)) 0) else none) else none) else none
def laws_toCert.f (a0_0 : Int) (a0_1 : Int) (a0_2 : Int) (a0_3 : Int) (a0_4 : Int) (a0_5 : Int) : Option (Int × Int × Int × Int × Int × Int) := some (a0_0, a0_1, a0_2, a0_3, a0_4, a0_5)
def laws_toCertS.l0 : Nat → List S111 → List S109 → Int → Option ((List S109))
 | 0, _, _, _ => none
 | k + 1, x0, x3, x4 => if x4 < (x0.length : Int) then (if 0 ≤ x4 then ((laws_toCert.f ((rd_T111 x0 x4).f0) ((rd_T111 x0 x4).f1) ((rd_T111 x0 x4).f2) ((rd_T111 x0 x4).f3) ((rd_T111 x0 x4).f4) ((rd_T111 x0 x4).f5)).bind fun t20 => (if x4 < (x3.length : Int) then (laws_toCertS.l0 k x0 (x3.set (x4 : Int).toNat (⟨t20.1, t20.2.1, t20.2.2.1, t20.2.2.2.1, t20.2.2.2.2.1, t20.2.2.2.2.2⟩ : S109)) (wrap64 (x4 + 1))) else none)) else none) else (some x3)
def laws_toCertS.f (k : Nat) (a0 : List S111) : Option ((List S109)) := if (a0.length : Int) = (a0.length : Int) then (if 0 ≤ (a0.length : Int) then (if (a0.length : Int) ≤ 5864062014805 then (laws_toCertS.l0 k a0 (List.replicate (a0.length : Int).toNat (⟨0, 0, 0, 0, 0, 0⟩ : S109)) 0) else none) else none) else none
def laws_toCenter.f (k : Nat) (a0_0 : List S79) (a0_1 : List S86) (a0_2 : List S30) (a0_3 : List S107) (a0_4 : Int) (a0_5 : List S111) : Option ((List S92) × (List S102) × (List S44) × (List S105) × Int × (List S109)) := (laws_toIssuerS.f k a0_0).bind fun t6 => ((laws_toEpochS.f k a0_1).bind fun t10 => ((laws_toFactS.f k a0_2).bind fun t14 => ((laws_toRevokedS.f k a0_3).bind fun t18 => ((laws_toCertS.f k a0_5).bind fun t25 => (some (t6, t10, t14, t18, a0_4, t25))))))
def laws_toStated.f (a0_0 : Int) (a0_1 : Int) (a0_2 : Int) (a0_3 : Int) (a0_4 : Int) (a0_5 : Int) (a0_6 : Int) : Option (Int × Int × Int × Int × Int × Int × Int) := (laws_toFact.f a0_0 a0_1 a0_2 a0_3 a0_4 a0_5).bind fun t6 => (some (t6.1, t6.2.1, t6.2.2.1, t6.2.2.2.1, t6.2.2.2.2.1, t6.2.2.2.2.2, a0_6))
def spec_l8Copy.l0 : Nat → List S92 → List S92 → Int → Option ((List S92))
 | 0, _, _, _ => none
 | k + 1, x0, x3, x4 => if x4 < (x0.length : Int) then (if 0 ≤ x4 then (if 0 + ((rd_T92 x0 x4).f1).length ≤ 17592186044416 then (if x3.length < 3518437208883 then (spec_l8Copy.l0 k x0 (x3 ++ ([(⟨(rd_T92 x0 x4).f0, (([] : List Int) ++ ((rd_T92 x0 x4).f1)), (rd_T92 x0 x4).f2⟩ : S92)] : List S92)) (wrap64 (x4 + 1))) else none) else none) else none) else (some x3)
def spec_l8Copy.f (k : Nat) (a0 : List S92) : Option ((List S92)) := spec_l8Copy.l0 k a0 ([] : List S92) 0
mutual
def spec_l15Copy.l0 : Nat → Int → Int → Int → List S143 → Int → Int → Int → List S143 → Int → Int → Int → List S143 → Int → Option (Int × Int × Int × (List S143))
 | 0, _, _, _, _, _, _, _, _, _, _, _, _, _ => none
 | k + 1, x1_0, x1_1, x1_2, x1_3, x2_0, x2_1, x2_2, x2_3, x3_0, x3_1, x3_2, x3_3, x4 => if x4 < (x1_3.length : Int) then (if 0 ≤ x4 then ((spec_l15Copy.f k ((rd_T143 x1_3 x4).f0) ((rd_T143 x1_3 x4).f1) ((rd_T143 x1_3 x4).f2) ((rd_T143 x1_3 x4).f3)).bind fun t26 => (if x3_3.length < 2932031007402 then (spec_l15Copy.l0 k x1_0 x1_1 x1_2 x1_3 x2_0 x2_1 x2_2 x2_3 x3_0 x3_1 x3_2 (x3_3 ++ ([(⟨t26.1, t26.2.1, t26.2.2.1, t26.2.2.2⟩ : S143)] : List S143)) (wrap64 (x4 + 1))) else none)) else none) else (some (x3_0, x3_1, x3_2, x3_3))
def spec_l15Copy.f : Nat → Int → Int → Int → List S143 → Option (Int × Int × Int × (List S143))
 | 0, _, _, _, _ => none
 | k + 1, a0_0, a0_1, a0_2, a0_3 => spec_l15Copy.l0 k a0_0 a0_1 a0_2 a0_3 0 0 0 ([] : List S143) a0_0 a0_1 a0_2 ([] : List S143) 0
end
def spec_l19Copy.l0 : Nat → Int → List S145 → Int → List S145 → Int → List S145 → Int → Option (Int × (List S145))
 | 0, _, _, _, _, _, _, _ => none
 | k + 1, x1_0, x1_1, x2_0, x2_1, x3_0, x3_1, x4 => if x4 < (x1_1.length : Int) then (if 0 ≤ x4 then ((spec_l15Copy.f k ((rd_T145 x1_1 x4).f3.f0) ((rd_T145 x1_1 x4).f3.f1) ((rd_T145 x1_1 x4).f3.f2) ((rd_T145 x1_1 x4).f3.f3)).bind fun t27 => (if x3_1.length < 1954687338268 then (spec_l19Copy.l0 k x1_0 x1_1 x2_0 x2_1 x3_0 (x3_1 ++ ([(⟨(rd_T145 x1_1 x4).f0, (rd_T145 x1_1 x4).f1, (rd_T145 x1_1 x4).f2, (⟨t27.1, t27.2.1, t27.2.2.1, t27.2.2.2⟩ : S143)⟩ : S145)] : List S145)) (wrap64 (x4 + 1))) else none)) else none) else (some (x3_0, x3_1))
def spec_l19Copy.f (k : Nat) (a0_0 : Int) (a0_1 : List S145) : Option (Int × (List S145)) := spec_l19Copy.l0 k a0_0 a0_1 0 ([] : List S145) a0_0 ([] : List S145) 0
def spec_l24Copy.f (k : Nat) (a0_0 : Int) (a0_1 : Int) (a0_2 : List S140) (a0_3 : Int) (a0_4 : List S145) : Option (Int × Int × (List S140) × Int × (List S145)) := if 0 + a0_2.length ≤ 8796093022208 then ((spec_l19Copy.f k a0_3 a0_4).bind fun t13 => (some (a0_0, a0_1, (([] : List S140) ++ a0_2), t13.1, t13.2))) else none
def spec_l24All.l0 : Nat → List S102 → List S102 → Int → Option ((List S102))
 | 0, _, _, _ => none
 | k + 1, x0, x3, x4 => if x4 < (x0.length : Int) then (if 0 ≤ x4 then ((spec_l24Copy.f k ((rd_T102 x0 x4).f0) ((rd_T102 x0 x4).f1) ((rd_T102 x0 x4).f2) ((rd_T102 x0 x4).f3.f0) ((rd_T102 x0 x4).f3.f1)).bind fun t17 => (if x3.length < 1954687338268 then (spec_l24All.l0 k x0 (x3 ++ ([(⟨t17.1, t17.2.1, t17.2.2.1, (⟨t17.2.2.2.1, t17.2.2.2.2⟩ : S100)⟩ : S102)] : List S102)) (wrap64 (x4 + 1))) else none)) else none) else (some x3)
def spec_l24All.f (k : Nat) (a0 : List S102) : Option ((List S102)) := spec_l24All.l0 k a0 ([] : List S102) 0
def spec_l7Copy.f (a0 : List S44) : Option ((List S44)) := if 0 + a0.length ≤ 2932031007402 then (some (([] : List S44) ++ a0)) else none
def spec_l28Copy.f (k : Nat) (a0_0 : List S92) (a0_1 : List S102) (a0_2 : List S44) (a0_3 : List S105) (a0_4 : Int) (a0_5 : List S109) : Option ((List S92) × (List S102) × (List S44) × (List S105) × Int × (List S109)) := (spec_l8Copy.f k a0_0).bind fun t5 => ((spec_l24All.f k a0_1).bind fun t8 => ((spec_l7Copy.f a0_2).bind fun t11 => (if 0 + a0_3.length ≤ 8796093022208 then (if 0 + a0_5.length ≤ 2932031007402 then (some (t5, t8, t11, (([] : List S105) ++ a0_3), a0_4, (([] : List S109) ++ a0_5))) else none) else none)))
def spec_FindIssuer.l0 : Nat → List S92 → Int → Int → Option (Int)
 | 0, _, _, _ => none
 | k + 1, x0, x1, x5 => if x5 < (x0.length : Int) then (if 0 ≤ x5 then (if (rd_T92 x0 x5).f0 = x1 then (some x5) else (spec_FindIssuer.l0 k x0 x1 (wrap64 (x5 + 1)))) else none) else (some (-1))
def spec_FindIssuer.f (k : Nat) (a0 : List S92) (a1 : Int) : Option (Int) := spec_FindIssuer.l0 k a0 a1 0
def spec_l1In.f (a0 : Int) (a1 : Int) (a2 : Int) : Option (Bool) := if a0 ≥ a1 then (some (decide (a0 ≤ a2))) else (some false)
def spec_IsValidKey.f (a0 : Int) : Option (Bool) := (spec_l1In.f a0 1 2147483646).bind fun t4 => (some t4)
def spec_IsIssuer.l0 : Nat → Int → List Int → Int → Int → Option (Bool)
 | 0, _, _, _, _ => none
 | k + 1, x1_0, x1_1, x1_2, x3 => if x3 < (x1_1.length : Int) then (if 0 ≤ x3 then ((spec_l1In.f (rd x1_1 x3) 1 4).bind fun t16 => (if t16 = true then (if x3 > 0 then (if 0 ≤ (wrap64 (x3 - 1)) then (if (wrap64 (x3 - 1)) < (x1_1.length : Int) then (if (rd x1_1 (wrap64 (x3 - 1))) ≥ (rd x1_1 x3) then (some false) else (spec_IsIssuer.l0 k x1_0 x1_1 x1_2 (wrap64 (x3 + 1)))) else none) else none) else (spec_IsIssuer.l0 k x1_0 x1_1 x1_2 (wrap64 (x3 + 1)))) else (some false))) else none) else ((spec_l1In.f x1_0 0 9).bind fun t38 => (if t38 = true then ((spec_IsValidKey.f x1_2).bind fun t42 => (some t42)) else (some false)))
def spec_IsIssuer.f (k : Nat) (a0_0 : Int) (a0_1 : List Int) (a0_2 : Int) : Option (Bool) := spec_IsIssuer.l0 k a0_0 a0_1 a0_2 0
def spec_IsName.f (a0 : Int) : Option (Bool) := (spec_l1In.f a0 10 49).bind fun t4 => (some t4)
def spec_HasKind.f (a0 : Int) (a1 : Int) : Option (Bool) := (spec_IsName.f a0).bind fun t6 => (if t6 = true then (some (decide ((wrap64 (Int.tdiv a0 10)) = a1))) else (some false))
def spec_IsTime.f (a0 : Int) : Option (Bool) := (spec_l1In.f a0 0 10000).bind fun t4 => (some t4)
def spec_IsFact.f (a0_0 : Int) (a0_1 : Int) (a0_2 : Int) (a0_3 : Int) (a0_4 : Int) (a0_5 : Int) : Option (Bool) := if a0_0 = 1 then ((spec_HasKind.f a0_1 1).bind fun t10 => (if t10 = true then ((spec_l1In.f a0_2 0 5).bind fun t14 => (if t14 = true then ((spec_l1In.f a0_3 0 9).bind fun t50 => (if t50 = true then ((spec_IsTime.f a0_4).bind fun t55 => (if t55 = true then ((spec_IsTime.f a0_5).bind fun t60 => (if t60 = true then (some (decide (a0_4 ≤ a0_5))) else (some false))) else (some false))) else (some false))) else (some false))) else (some false))) else (if a0_0 = 2 then ((spec_HasKind.f a0_1 1).bind fun t20 => (if t20 = true then ((spec_HasKind.f a0_2 2).bind fun t24 => (if t24 = true then ((spec_l1In.f a0_3 0 9).bind fun t50 => (if t50 = true then ((spec_IsTime.f a0_4).bind fun t55 => (if t55 = true then ((spec_IsTime.f a0_5).bind fun t60 => (if t60 = true then (some (decide (a0_4 ≤ a0_5))) else (some false))) else (some false))) else (some false))) else (some false))) else (some false))) else (if a0_0 = 3 then ((spec_HasKind.f a0_1 2).bind fun t30 => (if t30 = true then ((spec_l1In.f a0_2 0 3).bind fun t34 => (if t34 = true then ((spec_l1In.f a0_3 0 9).bind fun t50 => (if t50 = true then ((spec_IsTime.f a0_4).bind fun t55 => (if t55 = true then ((spec_IsTime.f a0_5).bind fun t60 => (if t60 = true then (some (decide (a0_4 ≤ a0_5))) else (some false))) else (some false))) else (some false))) else (some false))) else (some false))) else (if a0_0 = 4 then ((spec_HasKind.f a0_1 3).bind fun t40 => (if t40 = true then ((spec_l1In.f a0_2 0 3).bind fun t44 => (if t44 = true then ((spec_l1In.f a0_3 0 9).bind fun t50 => (if t50 = true then ((spec_IsTime.f a0_4).bind fun t55 => (if t55 = true then ((spec_IsTime.f a0_5).bind fun t60 => (if t60 = true then (some (decide (a0_4 ≤ a0_5))) else (some false))) else (some false))) else (some false))) else (some false))) else (some false))) else (some false))))
def spec_FactInts.f (a0_0 : Int) (a0_1 : Int) (a0_2 : Int) (a0_3 : Int) (a0_4 : Int) (a0_5 : Int) : Option ((List Int)) := some ([a0_0, a0_1, a0_2, a0_3, a0_4, a0_5] : List Int)
def spec_Mod.f (a0 : Int) (a1 : Int) : Option (Int) := (spec_l1In.f a1 1 1000000000000).bind fun t6 => (if t6 = true then (if a1 = 0 then none else (some (Int.tmod (wrap64 ((Int.tmod a0 a1) + a1)) a1))) else (some 0))
def spec_Hash.l0 : Nat → List Int → Int → Int → Option (Int)
 | 0, _, _, _ => none
 | k + 1, x0, x3, x4 => if x4 < (x0.length : Int) then (if 0 ≤ x4 then ((spec_Mod.f (rd x0 x4) 2147483647).bind fun t17 => (spec_Hash.l0 k x0 (Int.tmod (wrap64 ((wrap64 ((wrap64 (x3 * 1000003)) + t17)) + 13)) 2147483647) (wrap64 (x4 + 1)))) else none) else (some x3)
def spec_Hash.f (k : Nat) (a0 : List Int) : Option (Int) := spec_Hash.l0 k a0 11 0
def spec_KeyedHash.f (k : Nat) (a0 : Int) (a1 : List Int) : Option (Int) := if 1 + a1.length ≤ 17592186044416 then ((some (([a0] : List Int) ++ a1) : Option (List Int)).bind fun y8_1 => (if y8_1.length < 17592186044416 then ((spec_Hash.f k (y8_1 ++ [a0])).bind fun t12 => (some t12)) else none)) else none
def spec_StateFact.l0 : Nat → Int → List Int → Int → Int → Int → Int → Int → Int → Int → Int → Int → Int → Int → Int → Int → Int → Bool → Int → Option (Int × Int × Int × Int × Int × Int × Int × Bool)
 | 0, _, _, _, _, _, _, _, _, _, _, _, _, _, _, _, _, _, _ => none
 | k + 1, x2_0, x2_1, x2_2, x3_0, x3_1, x3_2, x3_3, x3_4, x3_5, x4_0, x4_1, x4_2, x4_3, x4_4, x4_5, x4_6, x6, x7 => if x7 < (x2_1.length : Int) then (if x6 = true then (spec_StateFact.l0 k x2_0 x2_1 x2_2 x3_0 x3_1 x3_2 x3_3 x3_4 x3_5 x4_0 x4_1 x4_2 x4_3 x4_4 x4_5 x4_6 true (wrap64 (x7 + 1))) else (if 0 ≤ x7 then (spec_StateFact.l0 k x2_0 x2_1 x2_2 x3_0 x3_1 x3_2 x3_3 x3_4 x3_5 x4_0 x4_1 x4_2 x4_3 x4_4 x4_5 x4_6 (decide ((rd x2_1 x7) = x3_0)) (wrap64 (x7 + 1))) else none)) else ((spec_IsIssuer.f k x2_0 x2_1 x2_2).bind fun t30 => (if t30 = true then ((spec_IsFact.f x3_0 x3_1 x3_2 x3_3 x3_4 x3_5).bind fun t34 => (if t34 = true then (if x6 = true then ((spec_FactInts.f x3_0 x3_1 x3_2 x3_3 x3_4 x3_5).bind fun t46 => ((spec_KeyedHash.f k x2_2 t46).bind fun t47 => (some (x3_0, x3_1, x3_2, x3_3, x3_4, x3_5, t47, true)))) else (some (0, 0, 0, 0, 0, 0, 0, false))) else (some (0, 0, 0, 0, 0, 0, 0, false)))) else (some (0, 0, 0, 0, 0, 0, 0, false))))
def spec_StateFact.f (k : Nat) (a0_0 : Int) (a0_1 : List Int) (a0_2 : Int) (a1_0 : Int) (a1_1 : Int) (a1_2 : Int) (a1_3 : Int) (a1_4 : Int) (a1_5 : Int) : Option (Int × Int × Int × Int × Int × Int × Int × Bool) := spec_StateFact.l0 k a0_0 a0_1 a0_2 a1_0 a1_1 a1_2 a0_0 a1_4 a1_5 0 0 0 0 0 0 0 false 0
def spec_IsBelieved.f (k : Nat) (a0 : List S92) (a1_0 : Int) (a1_1 : Int) (a1_2 : Int) (a1_3 : Int) (a1_4 : Int) (a1_5 : Int) (a1_6 : Int) : Option (Bool) := (spec_FindIssuer.f k a0 a1_3).bind fun t12 => (if t12 < 0 then (some false) else (if 0 ≤ t12 then (if t12 < (a0.length : Int) then ((spec_StateFact.f k ((rd_T92 a0 t12).f0) ((rd_T92 a0 t12).f1) ((rd_T92 a0 t12).f2) a1_0 a1_1 a1_2 a1_3 a1_4 a1_5).bind fun t22 => (if t22.2.2.2.2.2.2.2 = true then (some (decide (t22.1 = a1_0 ∧ t22.2.1 = a1_1 ∧ t22.2.2.1 = a1_2 ∧ t22.2.2.2.1 = a1_3 ∧ t22.2.2.2.2.1 = a1_4 ∧ t22.2.2.2.2.2.1 = a1_5 ∧ t22.2.2.2.2.2.2.1 = a1_6))) else (some false))) else none) else none))
def spec_FactBefore.f (a0_0 : Int) (a0_1 : Int) (a0_2 : Int) (a0_3 : Int) (a0_4 : Int) (a0_5 : Int) (a1_0 : Int) (a1_1 : Int) (a1_2 : Int) (a1_3 : Int) (a1_4 : Int) (a1_5 : Int) : Option (Bool) := if a0_0 = a1_0 then (if a0_1 = a1_1 then (if a0_2 = a1_2 then (some (decide (a0_3 < a1_3))) else (some (decide (a0_2 < a1_2)))) else (some (decide (a0_1 < a1_1)))) else (some (decide (a0_0 < a1_0)))
def spec_IsStore.l0 : Nat → List S44 → Int → Option (Bool)
 | 0, _, _ => none
 | k + 1, x0, x3 => if x3 < (x0.length : Int) then (if 0 ≤ x3 then ((spec_IsFact.f ((rd_T44 x0 x3).f0) ((rd_T44 x0 x3).f1) ((rd_T44 x0 x3).f2) ((rd_T44 x0 x3).f3) ((rd_T44 x0 x3).f4) ((rd_T44 x0 x3).f5)).bind fun t14 => (if t14 = true then (if x3 > 0 then (if 0 ≤ (wrap64 (x3 - 1)) then (if (wrap64 (x3 - 1)) < (x0.length : Int) then ((spec_FactBefore.f ((rd_T44 x0 (wrap64 (x3 - 1))).f0) ((rd_T44 x0 (wrap64 (x3 - 1))).f1) ((rd_T44 x0 (wrap64 (x3 - 1))).f2) ((rd_T44 x0 (wrap64 (x3 - 1))).f3) ((rd_T44 x0 (wrap64 (x3 - 1))).f4) ((rd_T44 x0 (wrap64 (x3 - 1))).f5) ((rd_T44 x0 x3).f0) ((rd_T44 x0 x3).f1) ((rd_T44 x0 x3).f2) ((rd_T44 x0 x3).f3) ((rd_T44 x0 x3).f4) ((rd_T44 x0 x3).f5)).bind fun t29 => (if t29 = true then (spec_IsStore.l0 k x0 (wrap64 (x3 + 1))) else (some false))) else none) else none) else (spec_IsStore.l0 k x0 (wrap64 (x3 + 1)))) else (some false))) else none) else (some (decide ((x0.length : Int) ≤ 30)))
def spec_IsStore.f (k : Nat) (a0 : List S44) : Option (Bool) := spec_IsStore.l0 k a0 0
def spec_SameClaim.f (a0_0 : Int) (a0_1 : Int) (a0_2 : Int) (a0_3 : Int) (a0_4 : Int) (a0_5 : Int) (a1_0 : Int) (a1_1 : Int) (a1_2 : Int) (a1_3 : Int) (a1_4 : Int) (a1_5 : Int) : Option (Bool) := if a0_0 = a1_0 then (if a0_1 = a1_1 then (if a0_2 = a1_2 then (some (decide (a0_3 = a1_3))) else (some false)) else (some false)) else (some false)
def spec_PutFact.l0 : Nat → List S44 → Int → Int → Int → Int → Int → Int → List S44 → Bool → Int → Option ((List S44) × Bool)
 | 0, _, _, _, _, _, _, _, _, _, _ => none
 | k + 1, x0, x3_0, x3_1, x3_2, x3_3, x3_4, x3_5, x6, x7, x8 => if x8 < (x0.length : Int) then (if x7 = true then (if 0 ≤ x8 then ((spec_SameClaim.f x3_0 x3_1 x3_2 x3_3 x3_4 x3_5 ((rd_T44 x0 x8).f0) ((rd_T44 x0 x8).f1) ((rd_T44 x0 x8).f2) ((rd_T44 x0 x8).f3) ((rd_T44 x0 x8).f4) ((rd_T44 x0 x8).f5)).bind fun t47 => (if t47 = true then (if x3_4 > (rd_T44 x0 x8).f4 then (if x6.length < 2932031007402 then (spec_PutFact.l0 k x0 x3_0 x3_1 x3_2 x3_3 x3_4 x3_5 (x6 ++ ([(⟨x3_0, x3_1, x3_2, x3_3, x3_4, x3_5⟩ : S44)] : List S44)) true (wrap64 (x8 + 1))) else none) else (if x3_4 = (rd_T44 x0 x8).f4 then (if x3_5 > (rd_T44 x0 x8).f5 then (if x6.length < 2932031007402 then (spec_PutFact.l0 k x0 x3_0 x3_1 x3_2 x3_3 x3_4 x3_5 (x6 ++ ([(⟨x3_0, x3_1, x3_2, x3_3, x3_4, x3_5⟩ : S44)] : List S44)) true (wrap64 (x8 + 1))) else none) else (if x6.length < 2932031007402 then (spec_PutFact.l0 k x0 x3_0 x3_1 x3_2 x3_3 x3_4 x3_5 (x6 ++ ([(⟨(rd_T44 x0 x8).f0, (rd_T44 x0 x8).f1, (rd_T44 x0 x8).f2, (rd_T44 x0 x8).f3, (rd_T44 x0 x8).f4, (rd_T44 x0 x8).f5⟩ : S44)] : List S44)) true (wrap64 (x8 + 1))) else none)) else (if x6.length < 2932031007402 then (spec_PutFact.l0 k x0 x3_0 x3_1 x3_2 x3_3 x3_4 x3_5 (x6 ++ ([(⟨(rd_T44 x0 x8).f0, (rd_T44 x0 x8).f1, (rd_T44 x0 x8).f2, (rd_T44 x0 x8).f3, (rd_T44 x0 x8).f4, (rd_T44 x0 x8).f5⟩ : S44)] : List S44)) true (wrap64 (x8 + 1))) else none))) else (if x6.length < 2932031007402 then (spec_PutFact.l0 k x0 x3_0 x3_1 x3_2 x3_3 x3_4 x3_5 (x6 ++ ([(⟨(rd_T44 x0 x8).f0, (rd_T44 x0 x8).f1, (rd_T44 x0 x8).f2, (rd_T44 x0 x8).f3, (rd_T44 x0 x8).f4, (rd_T44 x0 x8).f5⟩ : S44)] : List S44)) x7 (wrap64 (x8 + 1))) else none))) else none) else (if 0 ≤ x8 then ((spec_FactBefore.f x3_0 x3_1 x3_2 x3_3 x3_4 x3_5 ((rd_T44 x0 x8).f0) ((rd_T44 x0 x8).f1) ((rd_T44 x0 x8).f2) ((rd_T44 x0 x8).f3) ((rd_T44 x0 x8).f4) ((rd_T44 x0 x8).f5)).bind fun t35 => (if t35 = true then ((some ([(⟨x3_0, x3_1, x3_2, x3_3, x3_4, x3_5⟩ : S44)] : List S44) : Option (List S44)).bind fun y39_10 => (if x6.length < 2932031007402 then ((spec_SameClaim.f x3_0 x3_1 x3_2 x3_3 x3_4 x3_5 ((rd_T44 x0 x8).f0) ((rd_T44 x0 x8).f1) ((rd_T44 x0 x8).f2) ((rd_T44 x0 x8).f3) ((rd_T44 x0 x8).f4) ((rd_T44 x0 x8).f5)).bind fun t47 => (if t47 = true then (if x3_4 > (rd_T44 x0 x8).f4 then (if (x6 ++ y39_10).length < 2932031007402 then (spec_PutFact.l0 k x0 x3_0 x3_1 x3_2 x3_3 x3_4 x3_5 ((x6 ++ y39_10) ++ ([(⟨x3_0, x3_1, x3_2, x3_3, x3_4, x3_5⟩ : S44)] : List S44)) true (wrap64 (x8 + 1))) else none) else (if x3_4 = (rd_T44 x0 x8).f4 then (if x3_5 > (rd_T44 x0 x8).f5 then (if (x6 ++ y39_10).length < 2932031007402 then (spec_PutFact.l0 k x0 x3_0 x3_1 x3_2 x3_3 x3_4 x3_5 ((x6 ++ y39_10) ++ ([(⟨x3_0, x3_1, x3_2, x3_3, x3_4, x3_5⟩ : S44)] : List S44)) true (wrap64 (x8 + 1))) else none) else (if (x6 ++ y39_10).length < 2932031007402 then (spec_PutFact.l0 k x0 x3_0 x3_1 x3_2 x3_3 x3_4 x3_5 ((x6 ++ y39_10) ++ ([(⟨(rd_T44 x0 x8).f0, (rd_T44 x0 x8).f1, (rd_T44 x0 x8).f2, (rd_T44 x0 x8).f3, (rd_T44 x0 x8).f4, (rd_T44 x0 x8).f5⟩ : S44)] : List S44)) true (wrap64 (x8 + 1))) else none)) else (if (x6 ++ y39_10).length < 2932031007402 then (spec_PutFact.l0 k x0 x3_0 x3_1 x3_2 x3_3 x3_4 x3_5 ((x6 ++ y39_10) ++ ([(⟨(rd_T44 x0 x8).f0, (rd_T44 x0 x8).f1, (rd_T44 x0 x8).f2, (rd_T44 x0 x8).f3, (rd_T44 x0 x8).f4, (rd_T44 x0 x8).f5⟩ : S44)] : List S44)) true (wrap64 (x8 + 1))) else none))) else (if (x6 ++ y39_10).length < 2932031007402 then (spec_PutFact.l0 k x0 x3_0 x3_1 x3_2 x3_3 x3_4 x3_5 ((x6 ++ y39_10) ++ ([(⟨(rd_T44 x0 x8).f0, (rd_T44 x0 x8).f1, (rd_T44 x0 x8).f2, (rd_T44 x0 x8).f3, (rd_T44 x0 x8).f4, (rd_T44 x0 x8).f5⟩ : S44)] : List S44)) true (wrap64 (x8 + 1))) else none))) else none)) else ((spec_SameClaim.f x3_0 x3_1 x3_2 x3_3 x3_4 x3_5 ((rd_T44 x0 x8).f0) ((rd_T44 x0 x8).f1) ((rd_T44 x0 x8).f2) ((rd_T44 x0 x8).f3) ((rd_T44 x0 x8).f4) ((rd_T44 x0 x8).f5)).bind fun t47 => (if t47 = true then (if x3_4 > (rd_T44 x0 x8).f4 then (if x6.length < 2932031007402 then (spec_PutFact.l0 k x0 x3_0 x3_1 x3_2 x3_3 x3_4 x3_5 (x6 ++ ([(⟨x3_0, x3_1, x3_2, x3_3, x3_4, x3_5⟩ : S44)] : List S44)) true (wrap64 (x8 + 1))) else none) else (if x3_4 = (rd_T44 x0 x8).f4 then (if x3_5 > (rd_T44 x0 x8).f5 then (if x6.length < 2932031007402 then (spec_PutFact.l0 k x0 x3_0 x3_1 x3_2 x3_3 x3_4 x3_5 (x6 ++ ([(⟨x3_0, x3_1, x3_2, x3_3, x3_4, x3_5⟩ : S44)] : List S44)) true (wrap64 (x8 + 1))) else none) else (if x6.length < 2932031007402 then (spec_PutFact.l0 k x0 x3_0 x3_1 x3_2 x3_3 x3_4 x3_5 (x6 ++ ([(⟨(rd_T44 x0 x8).f0, (rd_T44 x0 x8).f1, (rd_T44 x0 x8).f2, (rd_T44 x0 x8).f3, (rd_T44 x0 x8).f4, (rd_T44 x0 x8).f5⟩ : S44)] : List S44)) true (wrap64 (x8 + 1))) else none)) else (if x6.length < 2932031007402 then (spec_PutFact.l0 k x0 x3_0 x3_1 x3_2 x3_3 x3_4 x3_5 (x6 ++ ([(⟨(rd_T44 x0 x8).f0, (rd_T44 x0 x8).f1, (rd_T44 x0 x8).f2, (rd_T44 x0 x8).f3, (rd_T44 x0 x8).f4, (rd_T44 x0 x8).f5⟩ : S44)] : List S44)) true (wrap64 (x8 + 1))) else none))) else (if x6.length < 2932031007402 then (spec_PutFact.l0 k x0 x3_0 x3_1 x3_2 x3_3 x3_4 x3_5 (x6 ++ ([(⟨(rd_T44 x0 x8).f0, (rd_T44 x0 x8).f1, (rd_T44 x0 x8).f2, (rd_T44 x0 x8).f3, (rd_T44 x0 x8).f4, (rd_T44 x0 x8).f5⟩ : S44)] : List S44)) x7 (wrap64 (x8 + 1))) else none))))) else none)) else (if x7 = true then (if (x6.length : Int) > 30 then ((spec_l7Copy.f x0).bind fun t82 => (some (t82, false))) else (some (x6, true))) else ((some ([(⟨x3_0, x3_1, x3_2, x3_3, x3_4, x3_5⟩ : S44)] : List S44) : Option (List S44)).bind fun y76_29 => (if x6.length < 2932031007402 then (if ((x6 ++ y76_29).length : Int) > 30 then ((spec_l7Copy.f x0).bind fun t82 => (some (t82, false))) else (some ((x6 ++ y76_29), true))) else none)))
def spec_PutFact.f (k : Nat) (a0 : List S44) (a1_0 : Int) (a1_1 : Int) (a1_2 : Int) (a1_3 : Int) (a1_4 : Int) (a1_5 : Int) : Option ((List S44) × Bool) := (spec_IsStore.f k a0).bind fun t11 => (if t11 = true then ((spec_IsFact.f a1_0 a1_1 a1_2 a1_3 a1_4 a1_5).bind fun t15 => (if t15 = true then (spec_PutFact.l0 k a0 a1_0 a1_1 a1_2 a1_3 a1_4 a1_5 ([] : List S44) false 0) else ((spec_l7Copy.f a0).bind fun t19 => (some (t19, false))))) else ((spec_l7Copy.f a0).bind fun t19 => (some (t19, false))))
def spec_CenterTake.f (k : Nat) (a0_0 : List S92) (a0_1 : List S102) (a0_2 : List S44) (a0_3 : List S105) (a0_4 : Int) (a0_5 : List S109) (a1_0 : Int) (a1_1 : Int) (a1_2 : Int) (a1_3 : Int) (a1_4 : Int) (a1_5 : Int) (a1_6 : Int) : Option ((List S92) × (List S102) × (List S44) × (List S105) × Int × (List S109) × Bool) := (spec_l28Copy.f k a0_0 a0_1 a0_2 a0_3 a0_4 a0_5).bind fun t10 => ((spec_IsBelieved.f k a0_0 a1_0 a1_1 a1_2 a1_3 a1_4 a1_5 a1_6).bind fun t14 => (if t14 = true then ((spec_PutFact.f k a0_2 a1_0 a1_1 a1_2 a1_3 a1_4 a1_5).bind fun t22 => (some (t10.1, t10.2.1, t22.1, t10.2.2.2.1, t10.2.2.2.2.1, t10.2.2.2.2.2, t22.2))) else (some (t10.1, t10.2.1, t10.2.2.1, t10.2.2.2.1, t10.2.2.2.2.1, t10.2.2.2.2.2, false))))
mutual
def impl_copyCond.l0 : Nat → Int → Int → Int → List S143 → Int → Int → Int → List S143 → List S143 → Int → Int → Option (Int × Int × Int × (List S143))
 | 0, _, _, _, _, _, _, _, _, _, _, _ => none
 | k + 1, x2_0, x2_1, x2_2, x2_3, x3_0, x3_1, x3_2, x3_3, x14, x15, x16 => if x16 < x15 then (if 0 ≤ x16 then (if x16 < (x14.length : Int) then ((impl_copyCond.f k ((rd_T143 x14 x16).f0) ((rd_T143 x14 x16).f1) ((rd_T143 x14 x16).f2) ((rd_T143 x14 x16).f3)).bind fun t23 => (if x3_3.length < 2932031007402 then (impl_copyCond.l0 k x2_0 x2_1 x2_2 x2_3 x3_0 x3_1 x3_2 (x3_3 ++ ([(⟨t23.1, t23.2.1, t23.2.2.1, t23.2.2.2⟩ : S143)] : List S143)) x14 x15 (wrap64 (x16 + 1))) else none)) else none) else none) else (some (x3_0, x3_1, x3_2, x3_3))
def impl_copyCond.f : Nat → Int → Int → Int → List S143 → Option (Int × Int × Int × (List S143))
 | 0, _, _, _, _ => none
 | k + 1, a0_0, a0_1, a0_2, a0_3 => impl_copyCond.l0 k 0 0 0 ([] : List S143) a0_0 a0_1 a0_2 ([] : List S143) a0_3 (a0_3.length : Int) 0
end
def impl_copyRules.l0 : Nat → List S145 → List S145 → Int → Int → Option ((List S145))
 | 0, _, _, _, _ => none
 | k + 1, x3, x7, x8, x9 => if x9 < x8 then (if 0 ≤ x9 then (if x9 < (x7.length : Int) then ((impl_copyCond.f k ((rd_T145 x7 x9).f3.f0) ((rd_T145 x7 x9).f3.f1) ((rd_T145 x7 x9).f3.f2) ((rd_T145 x7 x9).f3.f3)).bind fun t15 => (if x3.length < 1954687338268 then (impl_copyRules.l0 k (x3 ++ ([(⟨(rd_T145 x7 x9).f0, (rd_T145 x7 x9).f1, (rd_T145 x7 x9).f2, (⟨t15.1, t15.2.1, t15.2.2.1, t15.2.2.2⟩ : S143)⟩ : S145)] : List S145)) x7 x8 (wrap64 (x9 + 1))) else none)) else none) else none) else (some x3)
def impl_copyRules.f (k : Nat) (a0 : List S145) : Option ((List S145)) := impl_copyRules.l0 k ([] : List S145) a0 (a0.length : Int) 0
def impl_copyPolicy.f (k : Nat) (a0_0 : Int) (a0_1 : List S145) : Option (Int × (List S145)) := (impl_copyRules.f k a0_1).bind fun t7 => (some (a0_0, t7))
def impl_copyEpoch.f (k : Nat) (a0_0 : Int) (a0_1 : Int) (a0_2 : List S140) (a0_3 : Int) (a0_4 : List S145) : Option (Int × Int × (List S140) × Int × (List S145)) := if 0 + a0_2.length ≤ 8796093022208 then ((impl_copyPolicy.f k a0_3 a0_4).bind fun t13 => (some (a0_0, a0_1, (([] : List S140) ++ a0_2), t13.1, t13.2))) else none
def impl_copyEpochs.l0 : Nat → List S102 → List S102 → Int → Int → Option ((List S102))
 | 0, _, _, _, _ => none
 | k + 1, x3, x7, x8, x9 => if x9 < x8 then (if 0 ≤ x9 then (if x9 < (x7.length : Int) then ((impl_copyEpoch.f k ((rd_T102 x7 x9).f0) ((rd_T102 x7 x9).f1) ((rd_T102 x7 x9).f2) ((rd_T102 x7 x9).f3.f0) ((rd_T102 x7 x9).f3.f1)).bind fun t15 => (if x3.length < 1954687338268 then (impl_copyEpochs.l0 k (x3 ++ ([(⟨t15.1, t15.2.1, t15.2.2.1, (⟨t15.2.2.2.1, t15.2.2.2.2⟩ : S100)⟩ : S102)] : List S102)) x7 x8 (wrap64 (x9 + 1))) else none)) else none) else none) else (some x3)
def impl_copyEpochs.f (k : Nat) (a0 : List S102) : Option ((List S102)) := impl_copyEpochs.l0 k ([] : List S102) a0 (a0.length : Int) 0
def impl_copyFacts.f (a0 : List S44) : Option ((List S44)) := if 0 + a0.length ≤ 2932031007402 then (some (([] : List S44) ++ a0)) else none
def impl_copyCenter.l0 : Nat → List S92 → List S102 → List S44 → List S105 → Int → List S109 → List S92 → List S102 → List S44 → List S105 → Int → List S109 → List S92 → Int → Int → Option ((List S92) × (List S102) × (List S44) × (List S105) × Int × (List S109))
 | 0, _, _, _, _, _, _, _, _, _, _, _, _, _, _, _ => none
 | k + 1, x2_0, x2_1, x2_2, x2_3, x2_4, x2_5, x3_0, x3_1, x3_2, x3_3, x3_4, x3_5, x24, x25, x26 => if x26 < x25 then (if 0 ≤ x26 then (if x26 < (x24.length : Int) then (if 0 + ((rd_T92 x24 x26).f1).length ≤ 17592186044416 then (if x3_0.length < 3518437208883 then (impl_copyCenter.l0 k x2_0 x2_1 x2_2 x2_3 x2_4 x2_5 (x3_0 ++ ([(⟨(rd_T92 x24 x26).f0, (([] : List Int) ++ ((rd_T92 x24 x26).f1)), (rd_T92 x24 x26).f2⟩ : S92)] : List S92)) x3_1 x3_2 x3_3 x3_4 x3_5 x24 x25 (wrap64 (x26 + 1))) else none) else none) else none) else none) else (some (x3_0, x3_1, x3_2, x3_3, x3_4, x3_5))
def impl_copyCenter.f (k : Nat) (a0_0 : List S92) (a0_1 : List S102) (a0_2 : List S44) (a0_3 : List S105) (a0_4 : Int) (a0_5 : List S109) : Option ((List S92) × (List S102) × (List S44) × (List S105) × Int × (List S109)) := (impl_copyEpochs.f k a0_1).bind fun t8 => ((impl_copyFacts.f a0_2).bind fun t11 => (if 0 + a0_3.length ≤ 8796093022208 then (if 0 + a0_5.length ≤ 2932031007402 then (impl_copyCenter.l0 k ([] : List S92) ([] : List S102) ([] : List S44) ([] : List S105) 0 ([] : List S109) ([] : List S92) t8 t11 (([] : List S105) ++ a0_3) a0_4 (([] : List S109) ++ a0_5) a0_0 (a0_0.length : Int) 0) else none) else none))
def impl_InRange.f (a0 : Int) (a1 : Int) (a2 : Int) : Option (Bool) := if a1 ≤ a0 then (some (decide (a0 ≤ a2))) else (some false)
def impl_IsName.f (a0 : Int) : Option (Bool) := (impl_InRange.f a0 10 49).bind fun t4 => (some t4)
def impl_KindOf.f (a0 : Int) : Option (Int) := (impl_IsName.f a0).bind fun t4 => (if t4 = true then (some (wrap64 (Int.tdiv a0 10))) else (some 0))
def impl_HasKind.f (a0 : Int) (a1 : Int) : Option (Bool) := (impl_IsName.f a0).bind fun t6 => (if t6 = true then ((impl_KindOf.f a0).bind fun t9 => (some (decide (t9 = a1)))) else (some false))
def impl_isClaim.f (a0_0 : Int) (a0_1 : Int) (a0_2 : Int) (a0_3 : Int) (a0_4 : Int) (a0_5 : Int) : Option (Bool) := if a0_0 = 1 then ((impl_HasKind.f a0_1 1).bind fun t9 => (if t9 = true then ((impl_InRange.f a0_2 0 5).bind fun t13 => (some t13)) else (some false))) else (if a0_0 = 2 then ((impl_HasKind.f a0_1 1).bind fun t19 => (if t19 = true then ((impl_HasKind.f a0_2 2).bind fun t23 => (some t23)) else (some false))) else (if a0_0 = 3 then ((impl_HasKind.f a0_1 2).bind fun t29 => (if t29 = true then ((impl_InRange.f a0_2 0 3).bind fun t33 => (some t33)) else (some false))) else (if a0_0 = 4 then ((impl_HasKind.f a0_1 3).bind fun t39 => (if t39 = true then ((impl_InRange.f a0_2 0 3).bind fun t43 => (some t43)) else (some false))) else (some false))))
def impl_IsTime.f (a0 : Int) : Option (Bool) := (impl_InRange.f a0 0 10000).bind fun t4 => (some t4)
def impl_IsFact.f (a0_0 : Int) (a0_1 : Int) (a0_2 : Int) (a0_3 : Int) (a0_4 : Int) (a0_5 : Int) : Option (Bool) := (impl_isClaim.f a0_0 a0_1 a0_2 a0_3 a0_4 a0_5).bind fun t4 => (if t4 = true then ((impl_InRange.f a0_3 0 9).bind fun t8 => (if t8 = true then ((impl_IsTime.f a0_4).bind fun t13 => (if t13 = true then ((impl_IsTime.f a0_5).bind fun t18 => (if t18 = true then (some (decide (a0_4 ≤ a0_5))) else (some false))) else (some false))) else (some false))) else (some false))
def impl_compareClaims.l0 : Nat → Int → Int → Int → Int → Int → Int → Int → Int → Int → Option (Int)
 | 0, _, _, _, _, _, _, _, _, _ => none
 | k + 1, x5_0, x5_1, x5_2, x5_3, x6_0, x6_1, x6_2, x6_3, x26 => if x26 < 4 then (if x26 = 0 then (if x5_0 < x6_0 then (some (-1)) else (if x5_0 > x6_0 then (some 1) else (impl_compareClaims.l0 k x5_0 x5_1 x5_2 x5_3 x6_0 x6_1 x6_2 x6_3 (wrap64 (x26 + 1))))) else (if x26 = 1 then (if x5_1 < x6_1 then (some (-1)) else (if x5_1 > x6_1 then (some 1) else (impl_compareClaims.l0 k x5_0 x5_1 x5_2 x5_3 x6_0 x6_1 x6_2 x6_3 (wrap64 (x26 + 1))))) else (if x26 = 2 then (if x5_2 < x6_2 then (some (-1)) else (if x5_2 > x6_2 then (some 1) else (impl_compareClaims.l0 k x5_0 x5_1 x5_2 x5_3 x6_0 x6_1 x6_2 x6_3 (wrap64 (x26 + 1))))) else (if x26 = 3 then (if x5_3 < x6_3 then (some (-1)) else (if x5_3 > x6_3 then (some 1) else (impl_compareClaims.l0 k x5_0 x5_1 x5_2 x5_3 x6_0 x6_1 x6_2 x6_3 (wrap64 (x26 + 1))))) else none)))) else (some 0)
def impl_compareClaims.f (k : Nat) (a0_0 : Int) (a0_1 : Int) (a0_2 : Int) (a0_3 : Int) (a0_4 : Int) (a0_5 : Int) (a1_0 : Int) (a1_1 : Int) (a1_2 : Int) (a1_3 : Int) (a1_4 : Int) (a1_5 : Int) : Option (Int) := impl_compareClaims.l0 k a0_0 a0_1 a0_2 a0_3 a1_0 a1_1 a1_2 a1_3 0
def impl_FactBefore.f (k : Nat) (a0_0 : Int) (a0_1 : Int) (a0_2 : Int) (a0_3 : Int) (a0_4 : Int) (a0_5 : Int) (a1_0 : Int) (a1_1 : Int) (a1_2 : Int) (a1_3 : Int) (a1_4 : Int) (a1_5 : Int) : Option (Bool) := (impl_compareClaims.f k a0_0 a0_1 a0_2 a0_3 a0_4 a0_5 a1_0 a1_1 a1_2 a1_3 a1_4 a1_5).bind fun t7 => (some (decide (t7 < 0)))
def impl_IsStore.l0 : Nat → List S44 → List S44 → Int → Int → Option (Bool)
 | 0, _, _, _, _ => none
 | k + 1, x0, x5, x6, x7 => if x7 < x6 then (if 0 ≤ x7 then (if x7 < (x5.length : Int) then ((impl_IsFact.f ((rd_T44 x5 x7).f0) ((rd_T44 x5 x7).f1) ((rd_T44 x5 x7).f2) ((rd_T44 x5 x7).f3) ((rd_T44 x5 x7).f4) ((rd_T44 x5 x7).f5)).bind fun t13 => (if t13 = true then (if x7 > 0 then (if 0 ≤ (wrap64 (x7 - 1)) then (if (wrap64 (x7 - 1)) < (x0.length : Int) then ((impl_FactBefore.f k ((rd_T44 x0 (wrap64 (x7 - 1))).f0) ((rd_T44 x0 (wrap64 (x7 - 1))).f1) ((rd_T44 x0 (wrap64 (x7 - 1))).f2) ((rd_T44 x0 (wrap64 (x7 - 1))).f3) ((rd_T44 x0 (wrap64 (x7 - 1))).f4) ((rd_T44 x0 (wrap64 (x7 - 1))).f5) ((rd_T44 x5 x7).f0) ((rd_T44 x5 x7).f1) ((rd_T44 x5 x7).f2) ((rd_T44 x5 x7).f3) ((rd_T44 x5 x7).f4) ((rd_T44 x5 x7).f5)).bind fun t25 => (if t25 = true then (impl_IsStore.l0 k x0 x5 x6 (wrap64 (x7 + 1))) else (some false))) else none) else none) else (impl_IsStore.l0 k x0 x5 x6 (wrap64 (x7 + 1)))) else (some false))) else none) else none) else (some (decide ((x0.length : Int) ≤ 30)))
def impl_IsStore.f (k : Nat) (a0 : List S44) : Option (Bool) := impl_IsStore.l0 k a0 a0 (a0.length : Int) 0
def impl_SameClaim.f (k : Nat) (a0_0 : Int) (a0_1 : Int) (a0_2 : Int) (a0_3 : Int) (a0_4 : Int) (a0_5 : Int) (a1_0 : Int) (a1_1 : Int) (a1_2 : Int) (a1_3 : Int) (a1_4 : Int) (a1_5 : Int) : Option (Bool) := (impl_compareClaims.f k a0_0 a0_1 a0_2 a0_3 a0_4 a0_5 a1_0 a1_1 a1_2 a1_3 a1_4 a1_5).bind fun t7 => (some (decide (t7 = 0)))
def impl_isLater.f (a0_0 : Int) (a0_1 : Int) (a0_2 : Int) (a0_3 : Int) (a0_4 : Int) (a0_5 : Int) (a1_0 : Int) (a1_1 : Int) (a1_2 : Int) (a1_3 : Int) (a1_4 : Int) (a1_5 : Int) : Option (Bool) := if a0_4 > a1_4 then (some true) else (if a0_4 = a1_4 then (some (decide (a0_5 > a1_5))) else (some false))
def slices_Insert66.f (l0 : List S44) (a1 : Int) (l2 : List S44) : Option (List S44) := match l2 with | [x] => (if 0 ≤ a1 then (if a1 ≤ (l0.length : Int) then (if l0.length ≤ 1099511627776 then some (l0.take a1.toNat ++ x :: l0.drop a1.toNat) else none) else none) else none) | _ => none
def impl_PutFact.l0 : Nat → List S44 → Int → Int → Int → Int → Int → Int → List S44 → Int → Option ((List S44) × Bool)
 | 0, _, _, _, _, _, _, _, _, _ => none
 | k + 1, x0, x3_0, x3_1, x3_2, x3_3, x3_4, x3_5, x6, x7 => if x7 < (x0.length : Int) then (if 0 ≤ x7 then ((impl_FactBefore.f k ((rd_T44 x0 x7).f0) ((rd_T44 x0 x7).f1) ((rd_T44 x0 x7).f2) ((rd_T44 x0 x7).f3) ((rd_T44 x0 x7).f4) ((rd_T44 x0 x7).f5) x3_0 x3_1 x3_2 x3_3 x3_4 x3_5).bind fun t29 => (if t29 = true then (impl_PutFact.l0 k x0 x3_0 x3_1 x3_2 x3_3 x3_4 x3_5 x6 (wrap64 (x7 + 1))) else ((impl_SameClaim.f k ((rd_T44 x0 x7).f0) ((rd_T44 x0 x7).f1) ((rd_T44 x0 x7).f2) ((rd_T44 x0 x7).f3) ((rd_T44 x0 x7).f4) ((rd_T44 x0 x7).f5) x3_0 x3_1 x3_2 x3_3 x3_4 x3_5).bind fun t43 => (if t43 = true then ((impl_isLater.f x3_0 x3_1 x3_2 x3_3 x3_4 x3_5 ((rd_T44 x0 x7).f0) ((rd_T44 x0 x7).f1) ((rd_T44 x0 x7).f2) ((rd_T44 x0 x7).f3) ((rd_T44 x0 x7).f4) ((rd_T44 x0 x7).f5)).bind fun t50 => (if t50 = true then (if x7 < (x6.length : Int) then (some ((x6.set (x7 : Int).toNat (⟨x3_0, x3_1, x3_2, x3_3, x3_4, x3_5⟩ : S44)), true)) else none) else (some (x6, true)))) else (if (x0.length : Int) = 30 then (some (x6, false)) else ((slices_Insert66.f x6 x7 ([(⟨x3_0, x3_1, x3_2, x3_3, x3_4, x3_5⟩ : S44)] : List S44)).bind fun t64 => (some (t64, true)))))))) else none) else (if (x0.length : Int) = 30 then (some (x6, false)) else ((slices_Insert66.f x6 x7 ([(⟨x3_0, x3_1, x3_2, x3_3, x3_4, x3_5⟩ : S44)] : List S44)).bind fun t64 => (some (t64, true))))
def impl_PutFact.f (k : Nat) (a0 : List S44) (a1_0 : Int) (a1_1 : Int) (a1_2 : Int) (a1_3 : Int) (a1_4 : Int) (a1_5 : Int) : Option ((List S44) × Bool) := (impl_copyFacts.f a0).bind fun t9 => ((impl_IsStore.f k a0).bind fun t11 => (if t11 = true then ((impl_IsFact.f a1_0 a1_1 a1_2 a1_3 a1_4 a1_5).bind fun t15 => (if t15 = true then (impl_PutFact.l0 k a0 a1_0 a1_1 a1_2 a1_3 a1_4 a1_5 t9 0) else (some (t9, false)))) else (some (t9, false))))
def cl101.f (a0_0 : Int) (a0_1 : List Int) (a0_2 : Int) (a1 : Int) : Option (Bool) := some (decide (a0_0 = a1))
def slices_IndexFunc100_101.l0 : Nat → List S92 → Int → Int → Int → Option (Int)
 | 0, _, _, _, _ => none
 | k + 1, x0, x1, x7, x8 => if x8 < x7 then (if 0 ≤ x8 then (if x8 < (x0.length : Int) then ((cl101.f ((rd_T92 x0 x8).f0) ((rd_T92 x0 x8).f1) ((rd_T92 x0 x8).f2) x1).bind fun t16 => (if t16 = true then (some x8) else (slices_IndexFunc100_101.l0 k x0 x1 x7 (wrap64 (x8 + 1))))) else none) else none) else (some (-1))
def slices_IndexFunc100_101.f (k : Nat) (a0 : List S92) (a1 : Int) : Option (Int) := slices_IndexFunc100_101.l0 k a0 a1 (a0.length : Int) 0
def impl_FindIssuer.f (k : Nat) (a0 : List S92) (a1 : Int) : Option (Int) := (slices_IndexFunc100_101.f k a0 a1).bind fun t7 => (some t7)
def impl_isAscending.l0 : Nat → List Int → Int → Int → List Int → Int → Int → Option (Bool)
 | 0, _, _, _, _, _, _ => none
 | k + 1, x0, x1, x2, x9, x10, x11 => if x11 < x10 then (if 0 ≤ x11 then (if x11 < (x9.length : Int) then ((impl_InRange.f (rd x9 x11) x1 x2).bind fun t19 => (if t19 = true then (if x11 > 0 then (if 0 ≤ (wrap64 (x11 - 1)) then (if (wrap64 (x11 - 1)) < (x0.length : Int) then (if (rd x0 (wrap64 (x11 - 1))) ≥ (rd x9 x11) then (some false) else (impl_isAscending.l0 k x0 x1 x2 x9 x10 (wrap64 (x11 + 1)))) else none) else none) else (impl_isAscending.l0 k x0 x1 x2 x9 x10 (wrap64 (x11 + 1)))) else (some false))) else none) else none) else (some true)
def impl_isAscending.f (k : Nat) (a0 : List Int) (a1 : Int) (a2 : Int) : Option (Bool) := impl_isAscending.l0 k a0 a1 a2 a0 (a0.length : Int) 0
def impl_IsValidKey.f (a0 : Int) : Option (Bool) := (impl_InRange.f a0 1 2147483646).bind fun t4 => (some t4)
def impl_IsIssuer.f (k : Nat) (a0_0 : Int) (a0_1 : List Int) (a0_2 : Int) : Option (Bool) := (impl_InRange.f a0_0 0 9).bind fun t5 => (if t5 = true then ((impl_isAscending.f k a0_1 1 4).bind fun t9 => (if t9 = true then ((impl_IsValidKey.f a0_2).bind fun t14 => (some t14)) else (some false))) else (some false))
def slices_Index123.l0 : Nat → List Int → Int → Int → Int → Option (Int)
 | 0, _, _, _, _ => none
 | k + 1, x0, x1, x7, x8 => if x8 < x7 then (if 0 ≤ x8 then (if x8 < (x0.length : Int) then (if x1 = (rd x0 x8) then (some x8) else (slices_Index123.l0 k x0 x1 x7 (wrap64 (x8 + 1)))) else none) else none) else (some (-1))
def slices_Index123.f (k : Nat) (a0 : List Int) (a1 : Int) : Option (Int) := slices_Index123.l0 k a0 a1 (a0.length : Int) 0
def slices_Contains103.f (k : Nat) (a0 : List Int) (a1 : Int) : Option (Bool) := (slices_Index123.f k a0 a1).bind fun t7 => (some (decide (t7 ≥ 0)))
def impl_FactInts.f (a0_0 : Int) (a0_1 : Int) (a0_2 : Int) (a0_3 : Int) (a0_4 : Int) (a0_5 : Int) : Option ((List Int)) := some ([a0_0, a0_1, a0_2, a0_3, a0_4, a0_5] : List Int)
def slices_Grow_int_int.f (l0 : List Int) (a1 : Int) : Option (List Int) := if 0 < a1 then if a1 < 2199023255552 then some [] else none else none
mutual
def slices_Concat125.l0 : Nat → List (List Int) → Int → List (List Int) → Int → Int → Option ((List Int))
 | 0, _, _, _, _, _ => none
 | k + 1, x0, x3, x9, x10, x11 => if x11 < x10 then (if 0 ≤ x11 then (if x11 < (x9.length : Int) then (if (wrap64 (x3 + ((rdOf ([] : List Int) x9 x11).length : Int))) < 0 then none else (slices_Concat125.l0 k x0 (wrap64 (x3 + ((rdOf ([] : List Int) x9 x11).length : Int))) x9 x10 (wrap64 (x11 + 1)))) else none) else none) else ((slices_Grow_int_int.f ([] : List Int) x3).bind fun t24 => (slices_Concat125.l1 k t24 x0 (x0.length : Int) 0))
def slices_Concat125.l1 : Nat → List Int → List (List Int) → Int → Int → Option ((List Int))
 | 0, _, _, _, _ => none
 | k + 1, x6, x25, x26, x27 => if x27 < x26 then (if 0 ≤ x27 then (if x27 < (x25.length : Int) then (if x6.length + (rdOf ([] : List Int) x25 x27).length ≤ 17592186044416 then (slices_Concat125.l1 k (x6 ++ (rdOf ([] : List Int) x25 x27)) x25 x26 (wrap64 (x27 + 1))) else none) else none) else none) else (some x6)
end
def slices_Concat125.f (k : Nat) (a0 : List (List Int)) : Option ((List Int)) := slices_Concat125.l0 k a0 0 a0 (a0.length : Int) 0
def impl_Mod.f (a0 : Int) (a1 : Int) : Option (Int) := (impl_InRange.f a1 1 1000000000000).bind fun t6 => (if t6 = true then (if a1 = 0 then none else (some (Int.tmod (wrap64 ((Int.tmod a0 a1) + a1)) a1))) else (some 0))
def impl_Hash.l0 : Nat → Int → List Int → Int → Int → Option (Int)
 | 0, _, _, _, _ => none
 | k + 1, x3, x6, x7, x8 => if x8 < x7 then (if 0 ≤ x8 then (if x8 < (x6.length : Int) then ((impl_Mod.f (rd x6 x8) 2147483647).bind fun t15 => (impl_Hash.l0 k (Int.tmod (wrap64 ((wrap64 ((wrap64 (x3 * 1000003)) + t15)) + 13)) 2147483647) x6 x7 (wrap64 (x8 + 1)))) else none) else none) else (some x3)
def impl_Hash.f (k : Nat) (a0 : List Int) : Option (Int) := impl_Hash.l0 k 11 a0 (a0.length : Int) 0
def impl_KeyedHash.f (k : Nat) (a0 : Int) (a1 : List Int) : Option (Int) := (slices_Concat125.f k ([([a0] : List Int), a1, ([a0] : List Int)] : List (List Int))).bind fun t11 => ((impl_Hash.f k t11).bind fun t12 => (some t12))
def impl_StateFact.f (k : Nat) (a0_0 : Int) (a0_1 : List Int) (a0_2 : Int) (a1_0 : Int) (a1_1 : Int) (a1_2 : Int) (a1_3 : Int) (a1_4 : Int) (a1_5 : Int) : Option (Int × Int × Int × Int × Int × Int × Int × Bool) := (impl_IsIssuer.f k a0_0 a0_1 a0_2).bind fun t10 => (if t10 = true then ((impl_IsFact.f a1_0 a1_1 a1_2 a0_0 a1_4 a1_5).bind fun t14 => (if t14 = true then ((slices_Contains103.f k a0_1 a1_0).bind fun t22 => (if t22 = true then ((impl_FactInts.f a1_0 a1_1 a1_2 a0_0 a1_4 a1_5).bind fun t30 => ((impl_KeyedHash.f k a0_2 t30).bind fun t31 => (some (a1_0, a1_1, a1_2, a0_0, a1_4, a1_5, t31, true)))) else (some (0, 0, 0, 0, 0, 0, 0, false)))) else (some (0, 0, 0, 0, 0, 0, 0, false)))) else (some (0, 0, 0, 0, 0, 0, 0, false)))
def impl_IsBelieved.f (k : Nat) (a0 : List S92) (a1_0 : Int) (a1_1 : Int) (a1_2 : Int) (a1_3 : Int) (a1_4 : Int) (a1_5 : Int) (a1_6 : Int) : Option (Bool) := (impl_FindIssuer.f k a0 a1_3).bind fun t12 => (if t12 < 0 then (some false) else (if 0 ≤ t12 then (if t12 < (a0.length : Int) then ((impl_StateFact.f k ((rd_T92 a0 t12).f0) ((rd_T92 a0 t12).f1) ((rd_T92 a0 t12).f2) a1_0 a1_1 a1_2 a1_3 a1_4 a1_5).bind fun t22 => (if t22.2.2.2.2.2.2.2 = true then (some (decide (t22.1 = a1_0 ∧ t22.2.1 = a1_1 ∧ t22.2.2.1 = a1_2 ∧ t22.2.2.2.1 = a1_3 ∧ t22.2.2.2.2.1 = a1_4 ∧ t22.2.2.2.2.2.1 = a1_5 ∧ t22.2.2.2.2.2.2.1 = a1_6))) else (some false))) else none) else none))
def impl_CenterTake.f (k : Nat) (a0_0 : List S92) (a0_1 : List S102) (a0_2 : List S44) (a0_3 : List S105) (a0_4 : Int) (a0_5 : List S109) (a1_0 : Int) (a1_1 : Int) (a1_2 : Int) (a1_3 : Int) (a1_4 : Int) (a1_5 : Int) (a1_6 : Int) : Option ((List S92) × (List S102) × (List S44) × (List S105) × Int × (List S109) × Bool) := (impl_copyCenter.f k a0_0 a0_1 a0_2 a0_3 a0_4 a0_5).bind fun t10 => ((impl_PutFact.f k a0_2 a1_0 a1_1 a1_2 a1_3 a1_4 a1_5).bind fun t16 => ((impl_IsBelieved.f k a0_0 a1_0 a1_1 a1_2 a1_3 a1_4 a1_5 a1_6).bind fun t22 => (if t22 = true then (if t16.2 = true then (some (t10.1, t10.2.1, t16.1, t10.2.2.2.1, t10.2.2.2.2.1, t10.2.2.2.2.2, true)) else (some (t10.1, t10.2.1, t10.2.2.1, t10.2.2.2.1, t10.2.2.2.2.1, t10.2.2.2.2.2, false))) else (some (t10.1, t10.2.1, t10.2.2.1, t10.2.2.2.1, t10.2.2.2.2.1, t10.2.2.2.2.2, false)))))
def laws_eqIntS.l0 : Nat → List Int → List Int → Int → Option (Bool)
 | 0, _, _, _ => none
 | k + 1, x0, x1, x5 => if x5 < (x0.length : Int) then (if 0 ≤ x5 then (if x5 < (x1.length : Int) then (if (rd x0 x5) = (rd x1 x5) then (laws_eqIntS.l0 k x0 x1 (wrap64 (x5 + 1))) else (some false)) else none) else none) else (some true)
def laws_eqIntS.f (k : Nat) (a0 : List Int) (a1 : List Int) : Option (Bool) := if (a0.length : Int) = (a1.length : Int) then (laws_eqIntS.l0 k a0 a1 0) else (some false)
def laws_eqIssuer.f (k : Nat) (a0_0 : Int) (a0_1 : List Int) (a0_2 : Int) (a1_0 : Int) (a1_1 : List Int) (a1_2 : Int) : Option (Bool) := if a0_0 = a1_0 then ((laws_eqIntS.f k a0_1 a1_1).bind fun t14 => (if t14 = true then (if a0_2 = a1_2 then (some true) else (some false)) else (some false))) else (some false)
def laws_eqIssuerS.l0 : Nat → List S92 → List S92 → Int → Option (Bool)
 | 0, _, _, _ => none
 | k + 1, x0, x1, x5 => if x5 < (x0.length : Int) then (if 0 ≤ x5 then (if x5 < (x1.length : Int) then ((laws_eqIssuer.f k ((rd_T92 x0 x5).f0) ((rd_T92 x0 x5).f1) ((rd_T92 x0 x5).f2) ((rd_T92 x1 x5).f0) ((rd_T92 x1 x5).f1) ((rd_T92 x1 x5).f2)).bind fun t25 => (if t25 = true then (laws_eqIssuerS.l0 k x0 x1 (wrap64 (x5 + 1))) else (some false))) else none) else none) else (some true)
def laws_eqIssuerS.f (k : Nat) (a0 : List S92) (a1 : List S92) : Option (Bool) := if (a0.length : Int) = (a1.length : Int) then (laws_eqIssuerS.l0 k a0 a1 0) else (some false)
def laws_eqIncludes.f (a0_0 : Int) (a0_1 : Int) (a1_0 : Int) (a1_1 : Int) : Option (Bool) := if a0_0 = a1_0 then (if a0_1 = a1_1 then (some true) else (some false)) else (some false)
def laws_eqIncludesS.l0 : Nat → List S140 → List S140 → Int → Option (Bool)
 | 0, _, _, _ => none
 | k + 1, x0, x1, x5 => if x5 < (x0.length : Int) then (if 0 ≤ x5 then (if x5 < (x1.length : Int) then ((laws_eqIncludes.f ((rd_T140 x0 x5).f0) ((rd_T140 x0 x5).f1) ((rd_T140 x1 x5).f0) ((rd_T140 x1 x5).f1)).bind fun t25 => (if t25 = true then (laws_eqIncludesS.l0 k x0 x1 (wrap64 (x5 + 1))) else (some false))) else none) else none) else (some true)
def laws_eqIncludesS.f (k : Nat) (a0 : List S140) (a1 : List S140) : Option (Bool) := if (a0.length : Int) = (a1.length : Int) then (laws_eqIncludesS.l0 k a0 a1 0) else (some false)
mutual
def laws_eqCondS.l0 : Nat → List S143 → List S143 → Int → Option (Bool)
 | 0, _, _, _ => none
 | k + 1, x0, x1, x5 => if x5 < (x0.length : Int) then (if 0 ≤ x5 then (if x5 < (x1.length : Int) then ((laws_eqCond.f k ((rd_T143 x0 x5).f0) ((rd_T143 x0 x5).f1) ((rd_T143 x0 x5).f2) ((rd_T143 x0 x5).f3) ((rd_T143 x1 x5).f0) ((rd_T143 x1 x5).f1) ((rd_T143 x1 x5).f2) ((rd_T143 x1 x5).f3)).bind fun t25 => (if t25 = true then (laws_eqCondS.l0 k x0 x1 (wrap64 (x5 + 1))) else (some false))) else none) else none) else (some true)
def laws_eqCondS.f : Nat → List S143 → List S143 → Option (Bool)
 | 0, _, _ => none
 | k + 1, a0, a1 => if (a0.length : Int) = (a1.length : Int) then (laws_eqCondS.l0 k a0 a1 0) else (some false)
def laws_eqCond.f : Nat → Int → Int → Int → List S143 → Int → Int → Int → List S143 → Option (Bool)
 | 0, _, _, _, _, _, _, _, _ => none
 | k + 1, a0_0, a0_1, a0_2, a0_3, a1_0, a1_1, a1_2, a1_3 => if a0_0 = a1_0 then (if a0_1 = a1_1 then (if a0_2 = a1_2 then ((laws_eqCondS.f k a0_3 a1_3).bind fun t24 => (if t24 = true then (some true) else (some false))) else (some false)) else (some false)) else (some false)
end
def laws_eqRule.f (k : Nat) (a0_0 : Int) (a0_1 : Int) (a0_2 : Int) (a0_3 : Int) (a0_4 : Int) (a0_5 : Int) (a0_6 : List S143) (a1_0 : Int) (a1_1 : Int) (a1_2 : Int) (a1_3 : Int) (a1_4 : Int) (a1_5 : Int) (a1_6 : List S143) : Option (Bool) := if a0_0 = a1_0 then (if a0_1 = a1_1 then (if a0_2 = a1_2 then ((laws_eqCond.f k a0_3 a0_4 a0_5 a0_6 a1_3 a1_4 a1_5 a1_6).bind fun t24 => (if t24 = true then (some true) else (some false))) else (some false)) else (some false)) else (some false)
def laws_eqRuleS.l0 : Nat → List S145 → List S145 → Int → Option (Bool)
 | 0, _, _, _ => none
 | k + 1, x0, x1, x5 => if x5 < (x0.length : Int) then (if 0 ≤ x5 then (if x5 < (x1.length : Int) then ((laws_eqRule.f k ((rd_T145 x0 x5).f0) ((rd_T145 x0 x5).f1) ((rd_T145 x0 x5).f2) ((rd_T145 x0 x5).f3.f0) ((rd_T145 x0 x5).f3.f1) ((rd_T145 x0 x5).f3.f2) ((rd_T145 x0 x5).f3.f3) ((rd_T145 x1 x5).f0) ((rd_T145 x1 x5).f1) ((rd_T145 x1 x5).f2) ((rd_T145 x1 x5).f3.f0) ((rd_T145 x1 x5).f3.f1) ((rd_T145 x1 x5).f3.f2) ((rd_T145 x1 x5).f3.f3)).bind fun t25 => (if t25 = true then (laws_eqRuleS.l0 k x0 x1 (wrap64 (x5 + 1))) else (some false))) else none) else none) else (some true)
def laws_eqRuleS.f (k : Nat) (a0 : List S145) (a1 : List S145) : Option (Bool) := if (a0.length : Int) = (a1.length : Int) then (laws_eqRuleS.l0 k a0 a1 0) else (some false)
def laws_eqPolicy.f (k : Nat) (a0_0 : Int) (a0_1 : List S145) (a1_0 : Int) (a1_1 : List S145) : Option (Bool) := if a0_0 = a1_0 then ((laws_eqRuleS.f k a0_1 a1_1).bind fun t14 => (if t14 = true then (some true) else (some false))) else (some false)
def laws_eqEpoch.f (k : Nat) (a0_0 : Int) (a0_1 : Int) (a0_2 : List S140) (a0_3 : Int) (a0_4 : List S145) (a1_0 : Int) (a1_1 : Int) (a1_2 : List S140) (a1_3 : Int) (a1_4 : List S145) : Option (Bool) := if a0_0 = a1_0 then (if a0_1 = a1_1 then ((laws_eqIncludesS.f k a0_2 a1_2).bind fun t19 => (if t19 = true then ((laws_eqPolicy.f k a0_3 a0_4 a1_3 a1_4).bind fun t25 => (if t25 = true then (some true) else (some false))) else (some false))) else (some false)) else (some false)
def laws_eqEpochS.l0 : Nat → List S102 → List S102 → Int → Option (Bool)
 | 0, _, _, _ => none
 | k + 1, x0, x1, x5 => if x5 < (x0.length : Int) then (if 0 ≤ x5 then (if x5 < (x1.length : Int) then ((laws_eqEpoch.f k ((rd_T102 x0 x5).f0) ((rd_T102 x0 x5).f1) ((rd_T102 x0 x5).f2) ((rd_T102 x0 x5).f3.f0) ((rd_T102 x0 x5).f3.f1) ((rd_T102 x1 x5).f0) ((rd_T102 x1 x5).f1) ((rd_T102 x1 x5).f2) ((rd_T102 x1 x5).f3.f0) ((rd_T102 x1 x5).f3.f1)).bind fun t25 => (if t25 = true then (laws_eqEpochS.l0 k x0 x1 (wrap64 (x5 + 1))) else (some false))) else none) else none) else (some true)
def laws_eqEpochS.f (k : Nat) (a0 : List S102) (a1 : List S102) : Option (Bool) := if (a0.length : Int) = (a1.length : Int) then (laws_eqEpochS.l0 k a0 a1 0) else (some false)
def laws_eqFact.f (a0_0 : Int) (a0_1 : Int) (a0_2 : Int) (a0_3 : Int) (a0_4 : Int) (a0_5 : Int) (a1_0 : Int) (a1_1 : Int) (a1_2 : Int) (a1_3 : Int) (a1_4 : Int) (a1_5 : Int) : Option (Bool) := if a0_0 = a1_0 then (if a0_1 = a1_1 then (if a0_2 = a1_2 then (if a0_3 = a1_3 then (if a0_4 = a1_4 then (if a0_5 = a1_5 then (some true) else (some false)) else (some false)) else (some false)) else (some false)) else (some false)) else (some false)
def laws_eqFactS.l0 : Nat → List S44 → List S44 → Int → Option (Bool)
 | 0, _, _, _ => none
 | k + 1, x0, x1, x5 => if x5 < (x0.length : Int) then (if 0 ≤ x5 then (if x5 < (x1.length : Int) then ((laws_eqFact.f ((rd_T44 x0 x5).f0) ((rd_T44 x0 x5).f1) ((rd_T44 x0 x5).f2) ((rd_T44 x0 x5).f3) ((rd_T44 x0 x5).f4) ((rd_T44 x0 x5).f5) ((rd_T44 x1 x5).f0) ((rd_T44 x1 x5).f1) ((rd_T44 x1 x5).f2) ((rd_T44 x1 x5).f3) ((rd_T44 x1 x5).f4) ((rd_T44 x1 x5).f5)).bind fun t25 => (if t25 = true then (laws_eqFactS.l0 k x0 x1 (wrap64 (x5 + 1))) else (some false))) else none) else none) else (some true)
def laws_eqFactS.f (k : Nat) (a0 : List S44) (a1 : List S44) : Option (Bool) := if (a0.length : Int) = (a1.length : Int) then (laws_eqFactS.l0 k a0 a1 0) else (some false)
def laws_eqRevoked.f (a0_0 : Int) (a0_1 : Int) (a1_0 : Int) (a1_1 : Int) : Option (Bool) := if a0_0 = a1_0 then (if a0_1 = a1_1 then (some true) else (some false)) else (some false)
def laws_eqRevokedS.l0 : Nat → List S105 → List S105 → Int → Option (Bool)
 | 0, _, _, _ => none
 | k + 1, x0, x1, x5 => if x5 < (x0.length : Int) then (if 0 ≤ x5 then (if x5 < (x1.length : Int) then ((laws_eqRevoked.f ((rd_T105 x0 x5).f0) ((rd_T105 x0 x5).f1) ((rd_T105 x1 x5).f0) ((rd_T105 x1 x5).f1)).bind fun t25 => (if t25 = true then (laws_eqRevokedS.l0 k x0 x1 (wrap64 (x5 + 1))) else (some false))) else none) else none) else (some true)
def laws_eqRevokedS.f (k : Nat) (a0 : List S105) (a1 : List S105) : Option (Bool) := if (a0.length : Int) = (a1.length : Int) then (laws_eqRevokedS.l0 k a0 a1 0) else (some false)
def laws_eqCert.f (a0_0 : Int) (a0_1 : Int) (a0_2 : Int) (a0_3 : Int) (a0_4 : Int) (a0_5 : Int) (a1_0 : Int) (a1_1 : Int) (a1_2 : Int) (a1_3 : Int) (a1_4 : Int) (a1_5 : Int) : Option (Bool) := if a0_0 = a1_0 then (if a0_1 = a1_1 then (if a0_2 = a1_2 then (if a0_3 = a1_3 then (if a0_4 = a1_4 then (if a0_5 = a1_5 then (some true) else (some false)) else (some false)) else (some false)) else (some false)) else (some false)) else (some false)
def laws_eqCertS.l0 : Nat → List S109 → List S109 → Int → Option (Bool)
 | 0, _, _, _ => none
 | k + 1, x0, x1, x5 => if x5 < (x0.length : Int) then (if 0 ≤ x5 then (if x5 < (x1.length : Int) then ((laws_eqCert.f ((rd_T109 x0 x5).f0) ((rd_T109 x0 x5).f1) ((rd_T109 x0 x5).f2) ((rd_T109 x0 x5).f3) ((rd_T109 x0 x5).f4) ((rd_T109 x0 x5).f5) ((rd_T109 x1 x5).f0) ((rd_T109 x1 x5).f1) ((rd_T109 x1 x5).f2) ((rd_T109 x1 x5).f3) ((rd_T109 x1 x5).f4) ((rd_T109 x1 x5).f5)).bind fun t25 => (if t25 = true then (laws_eqCertS.l0 k x0 x1 (wrap64 (x5 + 1))) else (some false))) else none) else none) else (some true)
def laws_eqCertS.f (k : Nat) (a0 : List S109) (a1 : List S109) : Option (Bool) := if (a0.length : Int) = (a1.length : Int) then (laws_eqCertS.l0 k a0 a1 0) else (some false)
def laws_eqCenter.f (k : Nat) (a0_0 : List S92) (a0_1 : List S102) (a0_2 : List S44) (a0_3 : List S105) (a0_4 : Int) (a0_5 : List S109) (a1_0 : List S92) (a1_1 : List S102) (a1_2 : List S44) (a1_3 : List S105) (a1_4 : Int) (a1_5 : List S109) : Option (Bool) := (laws_eqIssuerS.f k a0_0 a1_0).bind fun t9 => (if t9 = true then ((laws_eqEpochS.f k a0_1 a1_1).bind fun t15 => (if t15 = true then ((laws_eqFactS.f k a0_2 a1_2).bind fun t21 => (if t21 = true then ((laws_eqRevokedS.f k a0_3 a1_3).bind fun t27 => (if t27 = true then (if a0_4 = a1_4 then ((laws_eqCertS.f k a0_5 a1_5).bind fun t38 => (if t38 = true then (some true) else (some false))) else (some false)) else (some false))) else (some false))) else (some false))) else (some false))
def laws_markIntS.l0 : Nat → List Int → Int → Int → Option (Int × (List Int))
 | 0, _, _, _ => none
 | k + 1, x0, x1, x5 => if x5 < (x0.length : Int) then (if 0 ≤ x5 then (laws_markIntS.l0 k (x0.set (x5 : Int).toNat x1) (wrap64 (x1 + 1)) (wrap64 (x5 + 1))) else none) else (some (x1, x0))
def laws_markIntS.f (k : Nat) (a0 : List Int) (a1 : Int) : Option (Int × (List Int)) := laws_markIntS.l0 k a0 a1 0
def laws_markIssuerS.l0 : Nat → List S92 → Int → Int → Option (Int × (List S92))
 | 0, _, _, _ => none
 | k + 1, x0, x1, x5 => if x5 < (x0.length : Int) then (if 0 ≤ x5 then ((some (x0.set (x5 : Int).toNat (⟨x1, (rd_T92 x0 x5).f1, (rd_T92 x0 x5).f2⟩ : S92)) : Option (List S92)).bind fun y0_1 => (if x5 < (y0_1.length : Int) then ((laws_markIntS.f k ((rd_T92 y0_1 x5).f1) (wrap64 (x1 + 1))).bind fun t25 => ((some (y0_1.set (x5 : Int).toNat (⟨(rd_T92 y0_1 x5).f0, t25.2, (rd_T92 y0_1 x5).f2⟩ : S92)) : Option (List S92)).bind fun y25_3 => (if x5 < (y25_3.length : Int) then (laws_markIssuerS.l0 k (y25_3.set (x5 : Int).toNat (⟨(rd_T92 y25_3 x5).f0, (rd_T92 y25_3 x5).f1, t25.1⟩ : S92)) (wrap64 (t25.1 + 1)) (wrap64 (x5 + 1))) else none))) else none)) else none) else (some (x1, x0))
def laws_markIssuerS.f (k : Nat) (a0 : List S92) (a1 : Int) : Option (Int × (List S92)) := laws_markIssuerS.l0 k a0 a1 0
def laws_markIncludesS.l0 : Nat → List S140 → Int → Int → Option (Int × (List S140))
 | 0, _, _, _ => none
 | k + 1, x0, x1, x5 => if x5 < (x0.length : Int) then (if 0 ≤ x5 then ((some (x0.set (x5 : Int).toNat (⟨x1, (rd_T140 x0 x5).f1⟩ : S140)) : Option (List S140)).bind fun y0_1 => (if x5 < (y0_1.length : Int) then (laws_markIncludesS.l0 k (y0_1.set (x5 : Int).toNat (⟨(rd_T140 y0_1 x5).f0, (wrap64 (x1 + 1))⟩ : S140)) (wrap64 ((wrap64 (x1 + 1)) + 1)) (wrap64 (x5 + 1))) else none)) else none) else (some (x1, x0))
def laws_markIncludesS.f (k : Nat) (a0 : List S140) (a1 : Int) : Option (Int × (List S140)) := laws_markIncludesS.l0 k a0 a1 0
mutual
def laws_markCondS.l0 : Nat → List S143 → Int → Int → Option (Int × (List S143))
 | 0, _, _, _ => none
 | k + 1, x0, x1, x5 => if x5 < (x0.length : Int) then (if 0 ≤ x5 then ((some (x0.set (x5 : Int).toNat (⟨x1, (rd_T143 x0 x5).f1, (rd_T143 x0 x5).f2, (rd_T143 x0 x5).f3⟩ : S143)) : Option (List S143)).bind fun y0_1 => (if x5 < (y0_1.length : Int) then ((some (y0_1.set (x5 : Int).toNat (⟨(rd_T143 y0_1 x5).f0, (wrap64 (x1 + 1)), (rd_T143 y0_1 x5).f2, (rd_T143 y0_1 x5).f3⟩ : S143)) : Option (List S143)).bind fun y0_2 => (if x5 < (y0_2.length : Int) then ((some (y0_2.set (x5 : Int).toNat (⟨(rd_T143 y0_2 x5).f0, (rd_T143 y0_2 x5).f1, (wrap64 ((wrap64 (x1 + 1)) + 1)), (rd_T143 y0_2 x5).f3⟩ : S143)) : Option (List S143)).bind fun y0_3 => (if x5 < (y0_3.length : Int) then ((laws_markCondS.f k ((rd_T143 y0_3 x5).f3) (wrap64 ((wrap64 ((wrap64 (x1 + 1)) + 1)) + 1))).bind fun t39 => (laws_markCondS.l0 k (y0_3.set (x5 : Int).toNat (⟨(rd_T143 y0_3 x5).f0, (rd_T143 y0_3 x5).f1, (rd_T143 y0_3 x5).f2, t39.2⟩ : S143)) t39.1 (wrap64 (x5 + 1)))) else none)) else none)) else none)) else none) else (some (x1, x0))
def laws_markCondS.f : Nat → List S143 → Int → Option (Int × (List S143))
 | 0, _, _ => none
 | k + 1, a0, a1 => laws_markCondS.l0 k a0 a1 0
end
def laws_markRuleS.l0 : Nat → List S145 → Int → Int → Option (Int × (List S145))
 | 0, _, _, _ => none
 | k + 1, x0, x1, x5 => if x5 < (x0.length : Int) then (if 0 ≤ x5 then ((some (x0.set (x5 : Int).toNat (⟨x1, (rd_T145 x0 x5).f1, (rd_T145 x0 x5).f2, (⟨(rd_T145 x0 x5).f3.f0, (rd_T145 x0 x5).f3.f1, (rd_T145 x0 x5).f3.f2, (rd_T145 x0 x5).f3.f3⟩ : S143)⟩ : S145)) : Option (List S145)).bind fun y0_1 => (if x5 < (y0_1.length : Int) then ((some (y0_1.set (x5 : Int).toNat (⟨(rd_T145 y0_1 x5).f0, (wrap64 (x1 + 1)), (rd_T145 y0_1 x5).f2, (⟨(rd_T145 y0_1 x5).f3.f0, (rd_T145 y0_1 x5).f3.f1, (rd_T145 y0_1 x5).f3.f2, (rd_T145 y0_1 x5).f3.f3⟩ : S143)⟩ : S145)) : Option (List S145)).bind fun y0_2 => (if x5 < (y0_2.length : Int) then ((some (y0_2.set (x5 : Int).toNat (⟨(rd_T145 y0_2 x5).f0, (rd_T145 y0_2 x5).f1, (wrap64 ((wrap64 (x1 + 1)) + 1)), (⟨(rd_T145 y0_2 x5).f3.f0, (rd_T145 y0_2 x5).f3.f1, (rd_T145 y0_2 x5).f3.f2, (rd_T145 y0_2 x5).f3.f3⟩ : S143)⟩ : S145)) : Option (List S145)).bind fun y0_3 => (if x5 < (y0_3.length : Int) then ((some (y0_3.set (x5 : Int).toNat (⟨(rd_T145 y0_3 x5).f0, (rd_T145 y0_3 x5).f1, (rd_T145 y0_3 x5).f2, (⟨(wrap64 ((wrap64 ((wrap64 (x1 + 1)) + 1)) + 1)), (rd_T145 y0_3 x5).f3.f1, (rd_T145 y0_3 x5).f3.f2, (rd_T145 y0_3 x5).f3.f3⟩ : S143)⟩ : S145)) : Option (List S145)).bind fun y0_4 => (if x5 < (y0_4.length : Int) then ((some (y0_4.set (x5 : Int).toNat (⟨(rd_T145 y0_4 x5).f0, (rd_T145 y0_4 x5).f1, (rd_T145 y0_4 x5).f2, (⟨(rd_T145 y0_4 x5).f3.f0, (wrap64 ((wrap64 ((wrap64 ((wrap64 (x1 + 1)) + 1)) + 1)) + 1)), (rd_T145 y0_4 x5).f3.f2, (rd_T145 y0_4 x5).f3.f3⟩ : S143)⟩ : S145)) : Option (List S145)).bind fun y0_5 => (if x5 < (y0_5.length : Int) then ((some (y0_5.set (x5 : Int).toNat (⟨(rd_T145 y0_5 x5).f0, (rd_T145 y0_5 x5).f1, (rd_T145 y0_5 x5).f2, (⟨(rd_T145 y0_5 x5).f3.f0, (rd_T145 y0_5 x5).f3.f1, (wrap64 ((wrap64 ((wrap64 ((wrap64 ((wrap64 (x1 + 1)) + 1)) + 1)) + 1)) + 1)), (rd_T145 y0_5 x5).f3.f3⟩ : S143)⟩ : S145)) : Option (List S145)).bind fun y0_6 => (if x5 < (y0_6.length : Int) then ((laws_markCondS.f k ((rd_T145 y0_6 x5).f3.f3) (wrap64 ((wrap64 ((wrap64 ((wrap64 ((wrap64 ((wrap64 (x1 + 1)) + 1)) + 1)) + 1)) + 1)) + 1))).bind fun t64 => (laws_markRuleS.l0 k (y0_6.set (x5 : Int).toNat (⟨(rd_T145 y0_6 x5).f0, (rd_T145 y0_6 x5).f1, (rd_T145 y0_6 x5).f2, (⟨(rd_T145 y0_6 x5).f3.f0, (rd_T145 y0_6 x5).f3.f1, (rd_T145 y0_6 x5).f3.f2, t64.2⟩ : S143)⟩ : S145)) t64.1 (wrap64 (x5 + 1)))) else none)) else none)) else none)) else none)) else none)) else none)) else none) else (some (x1, x0))
def laws_markRuleS.f (k : Nat) (a0 : List S145) (a1 : Int) : Option (Int × (List S145)) := laws_markRuleS.l0 k a0 a1 0
def laws_markEpochS.l0 : Nat → List S102 → Int → Int → Option (Int × (List S102))
 | 0, _, _, _ => none
 | k + 1, x0, x1, x5 => if x5 < (x0.length : Int) then (if 0 ≤ x5 then ((some (x0.set (x5 : Int).toNat (⟨x1, (rd_T102 x0 x5).f1, (rd_T102 x0 x5).f2, (⟨(rd_T102 x0 x5).f3.f0, (rd_T102 x0 x5).f3.f1⟩ : S100)⟩ : S102)) : Option (List S102)).bind fun y0_1 => (if x5 < (y0_1.length : Int) then ((some (y0_1.set (x5 : Int).toNat (⟨(rd_T102 y0_1 x5).f0, (wrap64 (x1 + 1)), (rd_T102 y0_1 x5).f2, (⟨(rd_T102 y0_1 x5).f3.f0, (rd_T102 y0_1 x5).f3.f1⟩ : S100)⟩ : S102)) : Option (List S102)).bind fun y0_2 => (if x5 < (y0_2.length : Int) then ((laws_markIncludesS.f k ((rd_T102 y0_2 x5).f2) (wrap64 ((wrap64 (x1 + 1)) + 1))).bind fun t32 => ((some (y0_2.set (x5 : Int).toNat (⟨(rd_T102 y0_2 x5).f0, (rd_T102 y0_2 x5).f1, t32.2, (⟨(rd_T102 y0_2 x5).f3.f0, (rd_T102 y0_2 x5).f3.f1⟩ : S100)⟩ : S102)) : Option (List S102)).bind fun y32_4 => (if x5 < (y32_4.length : Int) then ((some (y32_4.set (x5 : Int).toNat (⟨(rd_T102 y32_4 x5).f0, (rd_T102 y32_4 x5).f1, (rd_T102 y32_4 x5).f2, (⟨t32.1, (rd_T102 y32_4 x5).f3.f1⟩ : S100)⟩ : S102)) : Option (List S102)).bind fun y0_5 => (if x5 < (y0_5.length : Int) then ((laws_markRuleS.f k ((rd_T102 y0_5 x5).f3.f1) (wrap64 (t32.1 + 1))).bind fun t48 => (laws_markEpochS.l0 k (y0_5.set (x5 : Int).toNat (⟨(rd_T102 y0_5 x5).f0, (rd_T102 y0_5 x5).f1, (rd_T102 y0_5 x5).f2, (⟨(rd_T102 y0_5 x5).f3.f0, t48.2⟩ : S100)⟩ : S102)) t48.1 (wrap64 (x5 + 1)))) else none)) else none))) else none)) else none)) else none) else (some (x1, x0))
def laws_markEpochS.f (k : Nat) (a0 : List S102) (a1 : Int) : Option (Int × (List S102)) := laws_markEpochS.l0 k a0 a1 0
def laws_markFactS.l0 : Nat → List S44 → Int → Int → Option (Int × (List S44))
 | 0, _, _, _ => none
 | k + 1, x0, x1, x5 => if x5 < (x0.length : Int) then (if 0 ≤ x5 then ((some (x0.set (x5 : Int).toNat (⟨x1, (rd_T44 x0 x5).f1, (rd_T44 x0 x5).f2, (rd_T44 x0 x5).f3, (rd_T44 x0 x5).f4, (rd_T44 x0 x5).f5⟩ : S44)) : Option (List S44)).bind fun y0_1 => (if x5 < (y0_1.length : Int) then ((some (y0_1.set (x5 : Int).toNat (⟨(rd_T44 y0_1 x5).f0, (wrap64 (x1 + 1)), (rd_T44 y0_1 x5).f2, (rd_T44 y0_1 x5).f3, (rd_T44 y0_1 x5).f4, (rd_T44 y0_1 x5).f5⟩ : S44)) : Option (List S44)).bind fun y0_2 => (if x5 < (y0_2.length : Int) then ((some (y0_2.set (x5 : Int).toNat (⟨(rd_T44 y0_2 x5).f0, (rd_T44 y0_2 x5).f1, (wrap64 ((wrap64 (x1 + 1)) + 1)), (rd_T44 y0_2 x5).f3, (rd_T44 y0_2 x5).f4, (rd_T44 y0_2 x5).f5⟩ : S44)) : Option (List S44)).bind fun y0_3 => (if x5 < (y0_3.length : Int) then ((some (y0_3.set (x5 : Int).toNat (⟨(rd_T44 y0_3 x5).f0, (rd_T44 y0_3 x5).f1, (rd_T44 y0_3 x5).f2, (wrap64 ((wrap64 ((wrap64 (x1 + 1)) + 1)) + 1)), (rd_T44 y0_3 x5).f4, (rd_T44 y0_3 x5).f5⟩ : S44)) : Option (List S44)).bind fun y0_4 => (if x5 < (y0_4.length : Int) then ((some (y0_4.set (x5 : Int).toNat (⟨(rd_T44 y0_4 x5).f0, (rd_T44 y0_4 x5).f1, (rd_T44 y0_4 x5).f2, (rd_T44 y0_4 x5).f3, (wrap64 ((wrap64 ((wrap64 ((wrap64 (x1 + 1)) + 1)) + 1)) + 1)), (rd_T44 y0_4 x5).f5⟩ : S44)) : Option (List S44)).bind fun y0_5 => (if x5 < (y0_5.length : Int) then (laws_markFactS.l0 k (y0_5.set (x5 : Int).toNat (⟨(rd_T44 y0_5 x5).f0, (rd_T44 y0_5 x5).f1, (rd_T44 y0_5 x5).f2, (rd_T44 y0_5 x5).f3, (rd_T44 y0_5 x5).f4, (wrap64 ((wrap64 ((wrap64 ((wrap64 ((wrap64 (x1 + 1)) + 1)) + 1)) + 1)) + 1))⟩ : S44)) (wrap64 ((wrap64 ((wrap64 ((wrap64 ((wrap64 ((wrap64 (x1 + 1)) + 1)) + 1)) + 1)) + 1)) + 1)) (wrap64 (x5 + 1))) else none)) else none)) else none)) else none)) else none)) else none) else (some (x1, x0))
def laws_markFactS.f (k : Nat) (a0 : List S44) (a1 : Int) : Option (Int × (List S44)) := laws_markFactS.l0 k a0 a1 0
def laws_markRevokedS.l0 : Nat → List S105 → Int → Int → Option (Int × (List S105))
 | 0, _, _, _ => none
 | k + 1, x0, x1, x5 => if x5 < (x0.length : Int) then (if 0 ≤ x5 then ((some (x0.set (x5 : Int).toNat (⟨x1, (rd_T105 x0 x5).f1⟩ : S105)) : Option (List S105)).bind fun y0_1 => (if x5 < (y0_1.length : Int) then (laws_markRevokedS.l0 k (y0_1.set (x5 : Int).toNat (⟨(rd_T105 y0_1 x5).f0, (wrap64 (x1 + 1))⟩ : S105)) (wrap64 ((wrap64 (x1 + 1)) + 1)) (wrap64 (x5 + 1))) else none)) else none) else (some (x1, x0))
def laws_markRevokedS.f (k : Nat) (a0 : List S105) (a1 : Int) : Option (Int × (List S105)) := laws_markRevokedS.l0 k a0 a1 0
def laws_markCertS.l0 : Nat → List S109 → Int → Int → Option (Int × (List S109))
 | 0, _, _, _ => none
 | k + 1, x0, x1, x5 => if x5 < (x0.length : Int) then (if 0 ≤ x5 then ((some (x0.set (x5 : Int).toNat (⟨x1, (rd_T109 x0 x5).f1, (rd_T109 x0 x5).f2, (rd_T109 x0 x5).f3, (rd_T109 x0 x5).f4, (rd_T109 x0 x5).f5⟩ : S109)) : Option (List S109)).bind fun y0_1 => (if x5 < (y0_1.length : Int) then ((some (y0_1.set (x5 : Int).toNat (⟨(rd_T109 y0_1 x5).f0, (wrap64 (x1 + 1)), (rd_T109 y0_1 x5).f2, (rd_T109 y0_1 x5).f3, (rd_T109 y0_1 x5).f4, (rd_T109 y0_1 x5).f5⟩ : S109)) : Option (List S109)).bind fun y0_2 => (if x5 < (y0_2.length : Int) then ((some (y0_2.set (x5 : Int).toNat (⟨(rd_T109 y0_2 x5).f0, (rd_T109 y0_2 x5).f1, (wrap64 ((wrap64 (x1 + 1)) + 1)), (rd_T109 y0_2 x5).f3, (rd_T109 y0_2 x5).f4, (rd_T109 y0_2 x5).f5⟩ : S109)) : Option (List S109)).bind fun y0_3 => (if x5 < (y0_3.length : Int) then ((some (y0_3.set (x5 : Int).toNat (⟨(rd_T109 y0_3 x5).f0, (rd_T109 y0_3 x5).f1, (rd_T109 y0_3 x5).f2, (wrap64 ((wrap64 ((wrap64 (x1 + 1)) + 1)) + 1)), (rd_T109 y0_3 x5).f4, (rd_T109 y0_3 x5).f5⟩ : S109)) : Option (List S109)).bind fun y0_4 => (if x5 < (y0_4.length : Int) then ((some (y0_4.set (x5 : Int).toNat (⟨(rd_T109 y0_4 x5).f0, (rd_T109 y0_4 x5).f1, (rd_T109 y0_4 x5).f2, (rd_T109 y0_4 x5).f3, (wrap64 ((wrap64 ((wrap64 ((wrap64 (x1 + 1)) + 1)) + 1)) + 1)), (rd_T109 y0_4 x5).f5⟩ : S109)) : Option (List S109)).bind fun y0_5 => (if x5 < (y0_5.length : Int) then (laws_markCertS.l0 k (y0_5.set (x5 : Int).toNat (⟨(rd_T109 y0_5 x5).f0, (rd_T109 y0_5 x5).f1, (rd_T109 y0_5 x5).f2, (rd_T109 y0_5 x5).f3, (rd_T109 y0_5 x5).f4, (wrap64 ((wrap64 ((wrap64 ((wrap64 ((wrap64 (x1 + 1)) + 1)) + 1)) + 1)) + 1))⟩ : S109)) (wrap64 ((wrap64 ((wrap64 ((wrap64 ((wrap64 ((wrap64 (x1 + 1)) + 1)) + 1)) + 1)) + 1)) + 1)) (wrap64 (x5 + 1))) else none)) else none)) else none)) else none)) else none)) else none) else (some (x1, x0))
def laws_markCertS.f (k : Nat) (a0 : List S109) (a1 : Int) : Option (Int × (List S109)) := laws_markCertS.l0 k a0 a1 0
def laws_markCenter.f (k : Nat) (a0_0 : List S92) (a0_1 : List S102) (a0_2 : List S44) (a0_3 : List S105) (a0_4 : Int) (a0_5 : List S109) (a1 : Int) : Option (Int × (List S92) × (List S102) × (List S44) × (List S105) × (List S109)) := (laws_markIssuerS.f k a0_0 a1).bind fun t8 => ((laws_markEpochS.f k a0_1 t8.1).bind fun t12 => ((laws_markFactS.f k a0_2 t12.1).bind fun t16 => ((laws_markRevokedS.f k a0_3 t16.1).bind fun t20 => ((laws_markCertS.f k a0_5 t20.1).bind fun t24 => (some (t24.1, t8.2, t12.2, t16.2, t20.2, t24.2))))))
def laws_heldIntS.l0 : Nat → List Int → Int → Int → Option (Int)
 | 0, _, _, _ => none
 | k + 1, x0, x1, x5 => if x5 < (x0.length : Int) then (if 0 ≤ x5 then (if (rd x0 x5) = x1 then (laws_heldIntS.l0 k x0 (wrap64 (x1 + 1)) (wrap64 (x5 + 1))) else (some (-1))) else none) else (some x1)
def laws_heldIntS.f (k : Nat) (a0 : List Int) (a1 : Int) : Option (Int) := laws_heldIntS.l0 k a0 a1 0
def laws_heldIssuerS.l0 : Nat → List S92 → Int → Int → Option (Int)
 | 0, _, _, _ => none
 | k + 1, x0, x1, x5 => if x5 < (x0.length : Int) then (if 0 ≤ x5 then (if (rd_T92 x0 x5).f0 = x1 then ((laws_heldIntS.f k ((rd_T92 x0 x5).f1) (wrap64 (x1 + 1))).bind fun t27 => (if t27 < 0 then (some (-1)) else (if (rd_T92 x0 x5).f2 = t27 then (laws_heldIssuerS.l0 k x0 (wrap64 (t27 + 1)) (wrap64 (x5 + 1))) else (some (-1))))) else (some (-1))) else none) else (some x1)
def laws_heldIssuerS.f (k : Nat) (a0 : List S92) (a1 : Int) : Option (Int) := laws_heldIssuerS.l0 k a0 a1 0
def laws_heldIncludesS.l0 : Nat → List S140 → Int → Int → Option (Int)
 | 0, _, _, _ => none
 | k + 1, x0, x1, x5 => if x5 < (x0.length : Int) then (if 0 ≤ x5 then (if (rd_T140 x0 x5).f0 = x1 then (if (rd_T140 x0 x5).f1 = (wrap64 (x1 + 1)) then (laws_heldIncludesS.l0 k x0 (wrap64 ((wrap64 (x1 + 1)) + 1)) (wrap64 (x5 + 1))) else (some (-1))) else (some (-1))) else none) else (some x1)
def laws_heldIncludesS.f (k : Nat) (a0 : List S140) (a1 : Int) : Option (Int) := laws_heldIncludesS.l0 k a0 a1 0
mutual
def laws_heldCondS.l0 : Nat → List S143 → Int → Int → Option (Int)
 | 0, _, _, _ => none
 | k + 1, x0, x1, x5 => if x5 < (x0.length : Int) then (if 0 ≤ x5 then (if (rd_T143 x0 x5).f0 = x1 then (if (rd_T143 x0 x5).f1 = (wrap64 (x1 + 1)) then (if (rd_T143 x0 x5).f2 = (wrap64 ((wrap64 (x1 + 1)) + 1)) then ((laws_heldCondS.f k ((rd_T143 x0 x5).f3) (wrap64 ((wrap64 ((wrap64 (x1 + 1)) + 1)) + 1))).bind fun t45 => (if t45 < 0 then (some (-1)) else (laws_heldCondS.l0 k x0 t45 (wrap64 (x5 + 1))))) else (some (-1))) else (some (-1))) else (some (-1))) else none) else (some x1)
def laws_heldCondS.f : Nat → List S143 → Int → Option (Int)
 | 0, _, _ => none
 | k + 1, a0, a1 => laws_heldCondS.l0 k a0 a1 0
end
def laws_heldRuleS.l0 : Nat → List S145 → Int → Int → Option (Int)
 | 0, _, _, _ => none
 | k + 1, x0, x1, x5 => if x5 < (x0.length : Int) then (if 0 ≤ x5 then (if (rd_T145 x0 x5).f0 = x1 then (if (rd_T145 x0 x5).f1 = (wrap64 (x1 + 1)) then (if (rd_T145 x0 x5).f2 = (wrap64 ((wrap64 (x1 + 1)) + 1)) then (if (rd_T145 x0 x5).f3.f0 = (wrap64 ((wrap64 ((wrap64 (x1 + 1)) + 1)) + 1)) then (if (rd_T145 x0 x5).f3.f1 = (wrap64 ((wrap64 ((wrap64 ((wrap64 (x1 + 1)) + 1)) + 1)) + 1)) then (if (rd_T145 x0 x5).f3.f2 = (wrap64 ((wrap64 ((wrap64 ((wrap64 ((wrap64 (x1 + 1)) + 1)) + 1)) + 1)) + 1)) then ((laws_heldCondS.f k ((rd_T145 x0 x5).f3.f3) (wrap64 ((wrap64 ((wrap64 ((wrap64 ((wrap64 ((wrap64 (x1 + 1)) + 1)) + 1)) + 1)) + 1)) + 1))).bind fun t76 => (if t76 < 0 then (some (-1)) else (laws_heldRuleS.l0 k x0 t76 (wrap64 (x5 + 1))))) else (some (-1))) else (some (-1))) else (some (-1))) else (some (-1))) else (some (-1))) else (some (-1))) else none) else (some x1)
def laws_heldRuleS.f (k : Nat) (a0 : List S145) (a1 : Int) : Option (Int) := laws_heldRuleS.l0 k a0 a1 0
def laws_heldEpochS.l0 : Nat → List S102 → Int → Int → Option (Int)
 | 0, _, _, _ => none
 | k + 1, x0, x1, x5 => if x5 < (x0.length : Int) then (if 0 ≤ x5 then (if (rd_T102 x0 x5).f0 = x1 then (if (rd_T102 x0 x5).f1 = (wrap64 (x1 + 1)) then ((laws_heldIncludesS.f k ((rd_T102 x0 x5).f2) (wrap64 ((wrap64 (x1 + 1)) + 1))).bind fun t36 => (if t36 < 0 then (some (-1)) else (if (rd_T102 x0 x5).f3.f0 = t36 then ((laws_heldRuleS.f k ((rd_T102 x0 x5).f3.f1) (wrap64 (t36 + 1))).bind fun t56 => (if t56 < 0 then (some (-1)) else (laws_heldEpochS.l0 k x0 t56 (wrap64 (x5 + 1))))) else (some (-1))))) else (some (-1))) else (some (-1))) else none) else (some x1)
def laws_heldEpochS.f (k : Nat) (a0 : List S102) (a1 : Int) : Option (Int) := laws_heldEpochS.l0 k a0 a1 0
def laws_heldFactS.l0 : Nat → List S44 → Int → Int → Option (Int)
 | 0, _, _, _ => none
 | k + 1, x0, x1, x5 => if x5 < (x0.length : Int) then (if 0 ≤ x5 then (if (rd_T44 x0 x5).f0 = x1 then (if (rd_T44 x0 x5).f1 = (wrap64 (x1 + 1)) then (if (rd_T44 x0 x5).f2 = (wrap64 ((wrap64 (x1 + 1)) + 1)) then (if (rd_T44 x0 x5).f3 = (wrap64 ((wrap64 ((wrap64 (x1 + 1)) + 1)) + 1)) then (if (rd_T44 x0 x5).f4 = (wrap64 ((wrap64 ((wrap64 ((wrap64 (x1 + 1)) + 1)) + 1)) + 1)) then (if (rd_T44 x0 x5).f5 = (wrap64 ((wrap64 ((wrap64 ((wrap64 ((wrap64 (x1 + 1)) + 1)) + 1)) + 1)) + 1)) then (laws_heldFactS.l0 k x0 (wrap64 ((wrap64 ((wrap64 ((wrap64 ((wrap64 ((wrap64 (x1 + 1)) + 1)) + 1)) + 1)) + 1)) + 1)) (wrap64 (x5 + 1))) else (some (-1))) else (some (-1))) else (some (-1))) else (some (-1))) else (some (-1))) else (some (-1))) else none) else (some x1)
def laws_heldFactS.f (k : Nat) (a0 : List S44) (a1 : Int) : Option (Int) := laws_heldFactS.l0 k a0 a1 0
def laws_heldRevokedS.l0 : Nat → List S105 → Int → Int → Option (Int)
 | 0, _, _, _ => none
 | k + 1, x0, x1, x5 => if x5 < (x0.length : Int) then (if 0 ≤ x5 then (if (rd_T105 x0 x5).f0 = x1 then (if (rd_T105 x0 x5).f1 = (wrap64 (x1 + 1)) then (laws_heldRevokedS.l0 k x0 (wrap64 ((wrap64 (x1 + 1)) + 1)) (wrap64 (x5 + 1))) else (some (-1))) else (some (-1))) else none) else (some x1)
def laws_heldRevokedS.f (k : Nat) (a0 : List S105) (a1 : Int) : Option (Int) := laws_heldRevokedS.l0 k a0 a1 0
def laws_heldCertS.l0 : Nat → List S109 → Int → Int → Option (Int)
 | 0, _, _, _ => none
 | k + 1, x0, x1, x5 => if x5 < (x0.length : Int) then (if 0 ≤ x5 then (if (rd_T109 x0 x5).f0 = x1 then (if (rd_T109 x0 x5).f1 = (wrap64 (x1 + 1)) then (if (rd_T109 x0 x5).f2 = (wrap64 ((wrap64 (x1 + 1)) + 1)) then (if (rd_T109 x0 x5).f3 = (wrap64 ((wrap64 ((wrap64 (x1 + 1)) + 1)) + 1)) then (if (rd_T109 x0 x5).f4 = (wrap64 ((wrap64 ((wrap64 ((wrap64 (x1 + 1)) + 1)) + 1)) + 1)) then (if (rd_T109 x0 x5).f5 = (wrap64 ((wrap64 ((wrap64 ((wrap64 ((wrap64 (x1 + 1)) + 1)) + 1)) + 1)) + 1)) then (laws_heldCertS.l0 k x0 (wrap64 ((wrap64 ((wrap64 ((wrap64 ((wrap64 ((wrap64 (x1 + 1)) + 1)) + 1)) + 1)) + 1)) + 1)) (wrap64 (x5 + 1))) else (some (-1))) else (some (-1))) else (some (-1))) else (some (-1))) else (some (-1))) else (some (-1))) else none) else (some x1)
def laws_heldCertS.f (k : Nat) (a0 : List S109) (a1 : Int) : Option (Int) := laws_heldCertS.l0 k a0 a1 0
def laws_heldCenter.f (k : Nat) (a0_0 : List S92) (a0_1 : List S102) (a0_2 : List S44) (a0_3 : List S105) (a0_4 : Int) (a0_5 : List S109) (a1 : Int) : Option (Int) := (laws_heldIssuerS.f k a0_0 a1).bind fun t8 => (if t8 < 0 then (some (-1)) else ((laws_heldEpochS.f k a0_1 t8).bind fun t14 => (if t14 < 0 then (some (-1)) else ((laws_heldFactS.f k a0_2 t14).bind fun t20 => (if t20 < 0 then (some (-1)) else ((laws_heldRevokedS.f k a0_3 t20).bind fun t26 => (if t26 < 0 then (some (-1)) else ((laws_heldCertS.f k a0_5 t26).bind fun t32 => (if t32 < 0 then (some (-1)) else (some t32))))))))))
def laws_FnExactCenterTake.f (k : Nat) (a0_0 : List S79) (a0_1 : List S86) (a0_2 : List S30) (a0_3 : List S107) (a0_4 : Int) (a0_5 : List S111) (a1_0 : Int) (a1_1 : Int) (a1_2 : Int) (a1_3 : Int) (a1_4 : Int) (a1_5 : Int) (a1_6 : Int) : Option (Bool) := (laws_szCenter.f k a0_0 a0_1 a0_2 a0_3 a0_4 a0_5 1048576).bind fun t18 => (if t18 < 0 then (some true) else ((laws_toCenter.f k a0_0 a0_1 a0_2 a0_3 a0_4 a0_5).bind fun t23 => ((laws_toStated.f a1_0 a1_1 a1_2 a1_3 a1_4 a1_5 a1_6).bind fun t25 => ((spec_CenterTake.f k t23.1 t23.2.1 t23.2.2.1 t23.2.2.2.1 t23.2.2.2.2.1 t23.2.2.2.2.2 t25.1 t25.2.1 t25.2.2.1 t25.2.2.2.1 t25.2.2.2.2.1 t25.2.2.2.2.2.1 t25.2.2.2.2.2.2).bind fun t26 => ((laws_toCenter.f k a0_0 a0_1 a0_2 a0_3 a0_4 a0_5).bind fun t30 => ((laws_toStated.f a1_0 a1_1 a1_2 a1_3 a1_4 a1_5 a1_6).bind fun t34 => ((impl_CenterTake.f k t30.1 t30.2.1 t30.2.2.1 t30.2.2.2.1 t30.2.2.2.2.1 t30.2.2.2.2.2 t34.1 t34.2.1 t34.2.2.1 t34.2.2.2.1 t34.2.2.2.2.1 t34.2.2.2.2.2.1 t34.2.2.2.2.2.2).bind fun t35 => ((laws_eqCenter.f k t35.1 t35.2.1 t35.2.2.1 t35.2.2.2.1 t35.2.2.2.2.1 t35.2.2.2.2.2.1 t26.1 t26.2.1 t26.2.2.1 t26.2.2.2.1 t26.2.2.2.2.1 t26.2.2.2.2.2.1).bind fun t40 => (if t40 = true then (if (t35.2.2.2.2.2.2 != t26.2.2.2.2.2.2) = true then (some false) else ((laws_toCenter.f k a0_0 a0_1 a0_2 a0_3 a0_4 a0_5).bind fun t49 => ((laws_eqCenter.f k t30.1 t30.2.1 t30.2.2.1 t30.2.2.2.1 t30.2.2.2.2.1 t30.2.2.2.2.2 t49.1 t49.2.1 t49.2.2.1 t49.2.2.2.1 t49.2.2.2.2.1 t49.2.2.2.2.2).bind fun t50 => (if t50 = true then ((laws_markCenter.f k t30.1 t30.2.1 t30.2.2.1 t30.2.2.2.1 t30.2.2.2.2.1 t30.2.2.2.2.2 1).bind fun t54 => (if t54.1 < 0 then (some false) else ((laws_eqCenter.f k t35.1 t35.2.1 t35.2.2.1 t35.2.2.2.1 t35.2.2.2.2.1 t35.2.2.2.2.2.1 t26.1 t26.2.1 t26.2.2.1 t26.2.2.2.1 t26.2.2.2.2.1 t26.2.2.2.2.2.1).bind fun t60 => (if t60 = true then ((laws_markCenter.f k t35.1 t35.2.1 t35.2.2.1 t35.2.2.2.1 t35.2.2.2.2.1 t35.2.2.2.2.2.1 1).bind fun t70 => ((laws_heldCenter.f k t70.2.1 t70.2.2.1 t70.2.2.2.1 t70.2.2.2.2.1 t35.2.2.2.2.1 t70.2.2.2.2.2 1).bind fun t73 => (if t73 < 0 then (some false) else (if t73 = t70.1 then ((laws_toCenter.f k a0_0 a0_1 a0_2 a0_3 a0_4 a0_5).bind fun t81 => ((laws_toStated.f a1_0 a1_1 a1_2 a1_3 a1_4 a1_5 a1_6).bind fun t83 => ((impl_CenterTake.f k t81.1 t81.2.1 t81.2.2.1 t81.2.2.2.1 t81.2.2.2.2.1 t81.2.2.2.2.2 t83.1 t83.2.1 t83.2.2.1 t83.2.2.2.1 t83.2.2.2.2.1 t83.2.2.2.2.2.1 t83.2.2.2.2.2.2).bind fun t84 => ((laws_eqCenter.f k t84.1 t84.2.1 t84.2.2.1 t84.2.2.2.1 t84.2.2.2.2.1 t84.2.2.2.2.2.1 t26.1 t26.2.1 t26.2.2.1 t26.2.2.2.1 t26.2.2.2.2.1 t26.2.2.2.2.2.1).bind fun t89 => (if t89 = true then (if (t84.2.2.2.2.2.2 != t26.2.2.2.2.2.2) = true then (some false) else ((laws_heldCenter.f k t70.2.1 t70.2.2.1 t70.2.2.2.1 t70.2.2.2.2.1 t35.2.2.2.2.1 t70.2.2.2.2.2 1).bind fun t98 => (if t98 < 0 then (some false) else (if t98 = t70.1 then (some true) else (some false))))) else (some false)))))) else (some false))))) else (some false))))) else (some false))))) else (some false))))))))))
def g79 (x : S79) : Prop := (Lit.int .i64 x.f0).wf = true ∧ (x.f1.length ≤ maxLen ∧ ∀ y_ ∈ x.f1, (Lit.int .i64 y_).wf = true) ∧ (Lit.int .i64 x.f2).wf = true
def g151 (x : S151) : Prop := (Lit.int .i64 x.f0).wf = true ∧ (Lit.int .i64 x.f1).wf = true
def GF161 (G : S161 → Prop) (x : S161) : Prop := (Lit.int .i64 x.f0).wf = true ∧ (Lit.int .i64 x.f1).wf = true ∧ (Lit.int .i64 x.f2).wf = true ∧ (x.f3.length ≤ maxLen ∧ ∀ y_ ∈ x.f3, G y_)
def g161 (x : S161) : Prop := ∃ k, Nat.rec (motive := fun _ => S161 → Prop) (fun _ => False) (fun _ G => GF161 G) k x
def g163 (x : S163) : Prop := (Lit.int .i64 x.f0).wf = true ∧ (Lit.int .i64 x.f1).wf = true ∧ (Lit.int .i64 x.f2).wf = true ∧ g161 x.f3
def g84 (x : S84) : Prop := (Lit.int .i64 x.f0).wf = true ∧ (x.f1.length ≤ maxLen ∧ ∀ y_ ∈ x.f1, g163 y_)
def g86 (x : S86) : Prop := (Lit.int .i64 x.f0).wf = true ∧ (Lit.int .i64 x.f1).wf = true ∧ (x.f2.length ≤ maxLen ∧ ∀ y_ ∈ x.f2, g151 y_) ∧ g84 x.f3
def g30 (x : S30) : Prop := (Lit.int .i64 x.f0).wf = true ∧ (Lit.int .i64 x.f1).wf = true ∧ (Lit.int .i64 x.f2).wf = true ∧ (Lit.int .i64 x.f3).wf = true ∧ (Lit.int .i64 x.f4).wf = true ∧ (Lit.int .i64 x.f5).wf = true
def g107 (x : S107) : Prop := (Lit.int .i64 x.f0).wf = true ∧ (Lit.int .i64 x.f1).wf = true
def g111 (x : S111) : Prop := (Lit.int .i64 x.f0).wf = true ∧ (Lit.int .i64 x.f1).wf = true ∧ (Lit.int .i64 x.f2).wf = true ∧ (Lit.int .i64 x.f3).wf = true ∧ (Lit.int .i64 x.f4).wf = true ∧ (Lit.int .i64 x.f5).wf = true
def g28 (x : S28) : Prop := (x.f0.length ≤ maxLen ∧ ∀ y_ ∈ x.f0, g79 y_) ∧ (x.f1.length ≤ maxLen ∧ ∀ y_ ∈ x.f1, g86 y_) ∧ (x.f2.length ≤ maxLen ∧ ∀ y_ ∈ x.f2, g30 y_) ∧ (x.f3.length ≤ maxLen ∧ ∀ y_ ∈ x.f3, g107 y_) ∧ (Lit.int .i64 x.f4).wf = true ∧ (x.f5.length ≤ maxLen ∧ ∀ y_ ∈ x.f5, g111 y_)
def g32 (x : S32) : Prop := g30 x.f0 ∧ (Lit.int .i64 x.f1).wf = true
def laws_FnExactCenterTake.Pure : Prop := ∀ (x0 : S28) (x1 : S32), g28 x0 → g32 x1 → ∃ k, laws_FnExactCenterTake.f k x0.f0 x0.f1 x0.f2 x0.f3 x0.f4 x0.f5 x1.f0.f0 x1.f0.f1 x1.f0.f2 x1.f0.f3 x1.f0.f4 x1.f0.f5 x1.f1 = some true
end Go.Proofs.YtpdnnndedejlhaaGreat.QFnExactCenterTake
