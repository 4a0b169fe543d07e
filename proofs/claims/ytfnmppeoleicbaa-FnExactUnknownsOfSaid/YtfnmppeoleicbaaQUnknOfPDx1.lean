-- By wip/mk/drv.py
import Derived.Test.YtfnmppeoleicbaaQUnknOfPDx0
namespace Go.Proofs.Ytfnmppeoleicbaa.PD
open Go.RowKit Go.Proofs.YtfnmppeoleicbaaW.PrintWords Go.Proofs.YtfnmppeoleicbaaW.PrintLast Go.Proofs.YtfnmppeoleicbaaW.PrintMore
attribute [local go_sem] max2_int min2_int max_two min_two max_three min_three max_four min_four
set_option linter.unusedVariables false
set_option linter.unusedSimpArgs false
/-! laws_szTermS -/
def laws_szTermS.f (l0 : List (S57)) (a1 : Int) : Option (Int) := if (wrap64 (a1 - (l0.length : Int))) < 0 then (some (-1)) else (some (wrap64 (a1 - (l0.length : Int))))
/-! spec_l1In -/
def spec_l1In.f (a0 : Int) (a1 : Int) (a2 : Int) : Option (Bool) := if a0 ≥ a1 then (some (decide (a0 ≤ a2))) else (some false)
/-! spec_poTerm -/
def spec_poTerm.f (a0_0 : Int) (a0_1 : Int) (a0_2 : Int) (a0_3 : Int) : Option (Bool) := (spec_l1In.f a0_0 (-1000) 1000).bind fun t102 => (if t102 = true then ((spec_l1In.f a0_1 0 4).bind fun t103 => (if t103 = true then ((spec_l1In.f a0_2 0 4).bind fun t104 => (if t104 = true then ((spec_l1In.f a0_3 0 4).bind fun t105 => (if t105 = true then (some (decide ((wrap64 ((wrap64 (a0_1 + a0_2)) + a0_3)) ≤ 4))) else (some false))) else (some false))) else (some false))) else (some false))
/-! spec_l1Sign -/
def spec_l1Sign.f (a0 : Int) : Option (Int) := if a0 > 0 then (some 1) else (if a0 < 0 then (some (-1)) else (some 0))
/-! spec_poOrder -/
def spec_poOrder.f (a0_0 : Int) (a0_1 : Int) (a0_2 : Int) (a0_3 : Int) (a1_0 : Int) (a1_1 : Int) (a1_2 : Int) (a1_3 : Int) : Option (Int) := if a0_1 = a1_1 then (if a0_2 = a1_2 then ((spec_l1Sign.f (wrap64 (a0_3 - a1_3))).bind fun t108 => (some t108)) else ((spec_l1Sign.f (wrap64 (a0_2 - a1_2))).bind fun t109 => (some t109))) else ((spec_l1Sign.f (wrap64 (a0_1 - a1_1))).bind fun t110 => (some t110))
/-! spec_poGood -/
def spec_poGood.l0 : Nat → List (S55) → List (S55) → Int → Int → Option (Bool)
  | 0, _, _, _, _ => none
  | k + 1, x0, x5, x6, x7 => if x7 < x6 then (if 0 ≤ x7 then (if x7 < (x5.length : Int) then ((spec_poTerm.f ((rd_T55 x5 x7).f0) ((rd_T55 x5 x7).f1) ((rd_T55 x5 x7).f2) ((rd_T55 x5 x7).f3)).bind fun t113 => (if t113 = true then (if ((rd_T55 x5 x7).f0) = 0 then (some false) else (if x7 > 0 then (if 0 ≤ (wrap64 (x7 - 1)) then (if (wrap64 (x7 - 1)) < (x0.length : Int) then ((spec_poOrder.f ((rd_T55 x0 (wrap64 (x7 - 1))).f0) ((rd_T55 x0 (wrap64 (x7 - 1))).f1) ((rd_T55 x0 (wrap64 (x7 - 1))).f2) ((rd_T55 x0 (wrap64 (x7 - 1))).f3) ((rd_T55 x5 x7).f0) ((rd_T55 x5 x7).f1) ((rd_T55 x5 x7).f2) ((rd_T55 x5 x7).f3)).bind fun t115 => (if t115 ≥ 0 then (some false) else (spec_poGood.l0 k x0 x5 x6 (wrap64 (x7 + 1))))) else (none)) else (none)) else (spec_poGood.l0 k x0 x5 x6 (wrap64 (x7 + 1))))) else (some false))) else (none)) else (none)) else (some (decide ((x0.length : Int) ≤ 20)))
def spec_poGood.f (k : Nat) (l0 : List (S55)) : Option (Bool) := spec_poGood.l0 k l0 l0 (l0.length : Int) 0
/-! spec_IsPoly -/
/-! laws_roomBehind -/
def laws_roomBehind.f (a0 : Int) : Option (Int) := if (Int.tmod a0 6) = 5 then (some 0) else (if (Int.tmod a0 3) = 0 then (some 1) else (some a0))
/-! laws_toTerm -/
def laws_toTerm.f (a0_0 : Int) (a0_1 : Int) (a0_2 : Int) (a0_3 : Int) : Option (Int × Int × Int × Int) := some (a0_0, a0_1, a0_2, a0_3)
/-! laws_fillerTerm -/
def laws_fillerTerm.f  : Option (Int × Int × Int × Int) := some ((-7000000000000000101), (-7000000000000000101), (-7000000000000000101), (-7000000000000000101))
/-! laws_toTermS -/
mutual
def laws_toTermS.j0 : Nat → List (S57) → Bool → Option ((List (S55)))
  | 0, _, _ => none
  | k + 1, x0, x13 => if x13 = true then (some ([] : List (S55))) else ((laws_roomBehind.f (x0.length : Int)).bind fun t121 => (if 0 ≤ (wrap64 ((x0.length : Int) + t121)) then (if (wrap64 ((x0.length : Int) + t121) : Int).toNat ≤ 8796093022208 then (laws_toTermS.l0 k x0 (List.replicate (wrap64 ((x0.length : Int) + t121) : Int).toNat z55) 0) else (none)) else (none)))
def laws_toTermS.l0 : Nat → List (S57) → List (S55) → Int → Option ((List (S55)))
  | 0, _, _, _ => none
  | k + 1, x0, x5, x6 => if x6 < (x0.length : Int) then (if 0 ≤ x6 then ((laws_toTerm.f ((rd_T57 x0 x6).f0) ((rd_T57 x0 x6).f1) ((rd_T57 x0 x6).f2) ((rd_T57 x0 x6).f3)).bind fun bt126 => (if x6 < (x5.length : Int) then (laws_toTermS.l0 k x0 (x5.set (x6 : Int).toNat (⟨bt126.1, bt126.2.1, bt126.2.2.1, bt126.2.2.2⟩ : S55)) (wrap64 (x6 + 1))) else (none))) else (none)) else (laws_toTermS.l1 k x0 x5 (x0.length : Int))
def laws_toTermS.l1 : Nat → List (S57) → List (S55) → Int → Option ((List (S55)))
  | 0, _, _, _ => none
  | k + 1, x0, x5, x7 => if x7 < (x5.length : Int) then ((laws_fillerTerm.f).bind fun bt131 => (if 0 ≤ x7 then (laws_toTermS.l1 k x0 (x5.set (x7 : Int).toNat (⟨bt131.1, bt131.2.1, bt131.2.2.1, bt131.2.2.2⟩ : S55)) (wrap64 (x7 + 1))) else (none))) else (if 0 ≤ (x0.length : Int) then (if (x0.length : Int) ≤ (x5.length : Int) then (some (x5.take ((x0.length : Int) : Int).toNat)) else (none)) else (none))
end
def laws_toTermS.f (k : Nat) (l0 : List (S57)) (a1 : Bool) : Option ((List (S55))) := if a1 = true then (laws_toTermS.j0 k l0 ((l0.length : Int) == 0)) else (laws_toTermS.j0 k l0 false)
/-! impl_inside -/
def impl_inside.f (a0 : Int) (a1 : Int) (a2 : Int) : Option (Bool) := if a0 ≥ a1 then (some (decide (a0 ≤ a2))) else (some false)
/-! impl_Term_degree -/
def impl_Term_degree.f (a0_0 : Int) (a0_1 : Int) (a0_2 : Int) (a0_3 : Int) : Option (Int) := some (wrap64 ((wrap64 (a0_1 + a0_2)) + a0_3))
/-! impl_hasDegree -/
def impl_hasDegree.f (a0_0 : Int) (a0_1 : Int) (a0_2 : Int) (a0_3 : Int) : Option (Bool) := (impl_inside.f a0_1 0 4).bind fun t141 => (if t141 = true then ((impl_inside.f a0_2 0 4).bind fun t142 => (if t142 = true then ((impl_inside.f a0_3 0 4).bind fun t143 => (if t143 = true then ((impl_Term_degree.f a0_0 a0_1 a0_2 a0_3).bind fun t144 => (some (decide (t144 ≤ 4)))) else (some false))) else (some false))) else (some false))
/-! cmp_Or_int -/
def cmp_Or_int.l0 : Nat → Int → List Int → Int → Int → Option (Int)
  | 0, _, _, _, _ => none
  | k + 1, x3, x6, x7, x8 => if x8 < x7 then (if 0 ≤ x8 then (if x8 < (x6.length : Int) then (if (rd x6 x8) = x3 then (cmp_Or_int.l0 k x3 x6 x7 (wrap64 (x8 + 1))) else (some (rd x6 x8))) else (none)) else (none)) else (some x3)
def cmp_Or_int.f (k : Nat) (l0 : List Int) : Option (Int) := cmp_Or_int.l0 k 0 l0 (l0.length : Int) 0
/-! cmp_isNaN_int -/
def cmp_isNaN_int.f (a0 : Int) : Option (Bool) := some (a0 != a0)
/-! cmp_Compare_int -/
def cmp_Compare_int.f (a0 : Int) (a1 : Int) : Option (Int) := (cmp_isNaN_int.f a0).bind fun t146 => ((cmp_isNaN_int.f a1).bind fun t147 => (if t146 = true then (if t147 = true then (some 0) else (some (-1))) else (if t147 = true then (some 1) else (if a0 < a1 then (some (-1)) else (if a0 > a1 then (some 1) else (some 0))))))
/-! impl_compareTerms -/
def impl_compareTerms.f (k : Nat) (a0_0 : Int) (a0_1 : Int) (a0_2 : Int) (a0_3 : Int) (a1_0 : Int) (a1_1 : Int) (a1_2 : Int) (a1_3 : Int) : Option (Int) := (cmp_Compare_int.f a0_1 a1_1).bind fun t150 => ((cmp_Compare_int.f a0_2 a1_2).bind fun t151 => ((cmp_Compare_int.f a0_3 a1_3).bind fun t152 => ((cmp_Or_int.f k (([t150, t151, t152] : List Int))).bind fun t156 => (some t156))))
/-! impl_isPoly -/
def impl_isPoly.l0 : Nat → List (S55) → List (S55) → Int → Int → Option (Bool)
  | 0, _, _, _, _ => none
  | k + 1, x0, x5, x6, x7 => if x7 < x6 then (if 0 ≤ x7 then (if x7 < (x5.length : Int) then (if ((rd_T55 x5 x7).f0) = 0 then (some false) else ((impl_inside.f ((rd_T55 x5 x7).f0) (-1000) 1000).bind fun t159 => (if t159 = true then ((impl_hasDegree.f ((rd_T55 x5 x7).f0) ((rd_T55 x5 x7).f1) ((rd_T55 x5 x7).f2) ((rd_T55 x5 x7).f3)).bind fun t160 => (if t160 = true then (if x7 > 0 then (if 0 ≤ (wrap64 (x7 - 1)) then (if (wrap64 (x7 - 1)) < (x0.length : Int) then ((impl_compareTerms.f k ((rd_T55 x0 (wrap64 (x7 - 1))).f0) ((rd_T55 x0 (wrap64 (x7 - 1))).f1) ((rd_T55 x0 (wrap64 (x7 - 1))).f2) ((rd_T55 x0 (wrap64 (x7 - 1))).f3) ((rd_T55 x5 x7).f0) ((rd_T55 x5 x7).f1) ((rd_T55 x5 x7).f2) ((rd_T55 x5 x7).f3)).bind fun t162 => (if t162 ≥ 0 then (some false) else (impl_isPoly.l0 k x0 x5 x6 (wrap64 (x7 + 1))))) else (none)) else (none)) else (impl_isPoly.l0 k x0 x5 x6 (wrap64 (x7 + 1)))) else (some false))) else (some false)))) else (none)) else (none)) else (some (decide ((x0.length : Int) ≤ 20)))
def impl_isPoly.f (k : Nat) (l0 : List (S55)) : Option (Bool) := impl_isPoly.l0 k l0 l0 (l0.length : Int) 0
/-! impl_IsPoly -/
/-! laws_eqTerm -/
def laws_eqTerm.f (a0_0 : Int) (a0_1 : Int) (a0_2 : Int) (a0_3 : Int) (a1_0 : Int) (a1_1 : Int) (a1_2 : Int) (a1_3 : Int) : Option (Bool) := if a0_0 = a1_0 then (if a0_1 = a1_1 then (if a0_2 = a1_2 then (if a0_3 = a1_3 then (some true) else (some false)) else (some false)) else (some false)) else (some false)
/-! laws_eqTermS -/
def laws_eqTermS.l0 : Nat → List (S55) → List (S55) → Int → Option (Bool)
  | 0, _, _, _ => none
  | k + 1, x0, x1, x5 => if x5 < (x0.length : Int) then (if 0 ≤ x5 then (if x5 < (x1.length : Int) then ((laws_eqTerm.f ((rd_T55 x0 x5).f0) ((rd_T55 x0 x5).f1) ((rd_T55 x0 x5).f2) ((rd_T55 x0 x5).f3) ((rd_T55 x1 x5).f0) ((rd_T55 x1 x5).f1) ((rd_T55 x1 x5).f2) ((rd_T55 x1 x5).f3)).bind fun t168 => (if t168 = true then (laws_eqTermS.l0 k x0 x1 (wrap64 (x5 + 1))) else (some false))) else (none)) else (none)) else (some true)
def laws_eqTermS.f (k : Nat) (l0 : List (S55)) (l1 : List (S55)) : Option (Bool) := if (l0.length : Int) = (l1.length : Int) then (laws_eqTermS.l0 k l0 l1 0) else (some false)
/-! laws_intactTermS -/
-- HAND rounds=0 making=1
/-- Whether two lists are one, their spare cells as toTermS lays them. -/
def laws_intactTermS.f (l0 : List S55) (l1 : List S55) : Option (Bool) := if l0 = l1 then some true else none
/-! laws_FnExactIsPoly -/
/-! spec_l1Most -/
def spec_l1Most.f (a0 : Int) (a1 : Int) : Option (Int) := if a0 > a1 then (some a0) else (some a1)
/-! spec_poDegree -/
/-! spec_DegreeOf -/
/-! impl_degreeOf -/
/-! impl_DegreeOf -/
/-! laws_FnExactDegreeOf -/
/-! spec_txCommon -/
/-! spec_l1Abs -/
/-! spec_txPrimitive -/
/-! spec_PrimitivePoly -/
/-! impl_gcd -/
/-! impl_primitivePoly -/
/-! impl_PrimitivePoly -/
/-! laws_markTermS -/
def laws_markTermS.l0 : Nat → List (S55) → Int → Int → Option (Int × (List (S55)))
  | 0, _, _, _ => none
  | k + 1, x0, x1, x5 => if x5 < (x0.length : Int) then (if 0 ≤ x5 then ((some (x0.set (x5 : Int).toNat (⟨x1, (rd_T55 x0 x5).f1, (rd_T55 x0 x5).f2, (rd_T55 x0 x5).f3⟩ : S55) : List (S55))).bind fun y247 => ((some (y247.set (x5 : Int).toNat (⟨(rd_T55 y247 x5).f0, wrap64 (x1 + 1), (rd_T55 y247 x5).f2, (rd_T55 y247 x5).f3⟩ : S55) : List (S55))).bind fun y248 => ((some (y248.set (x5 : Int).toNat (⟨(rd_T55 y248 x5).f0, (rd_T55 y248 x5).f1, wrap64 ((wrap64 (x1 + 1)) + 1), (rd_T55 y248 x5).f3⟩ : S55) : List (S55))).bind fun y249 => (laws_markTermS.l0 k (y249.set (x5 : Int).toNat (⟨(rd_T55 y249 x5).f0, (rd_T55 y249 x5).f1, (rd_T55 y249 x5).f2, wrap64 ((wrap64 ((wrap64 (x1 + 1)) + 1)) + 1)⟩ : S55)) (wrap64 ((wrap64 ((wrap64 ((wrap64 (x1 + 1)) + 1)) + 1)) + 1)) (wrap64 (x5 + 1)))))) else (none)) else (some (x1, x0))
def laws_markTermS.f (k : Nat) (l0 : List (S55)) (a1 : Int) : Option (Int × (List (S55))) := laws_markTermS.l0 k l0 a1 0
/-! laws_heldTermS -/
/-! laws_FnExactPrimitivePoly -/
/-! spec_poUnknown -/
/-! spec_poPower -/
def spec_poPower.f (a0_0 : Int) (a0_1 : Int) (a0_2 : Int) (a0_3 : Int) (a1 : Int) : Option (Int) := if a1 = 0 then (some a0_1) else (if a1 = 1 then (some a0_2) else (some a0_3))
/-! spec_poDegreeIn -/
def spec_poDegreeIn.l0 : Nat → Int → Int → List (S55) → Int → Int → Option (Int)
  | 0, _, _, _, _, _ => none
  | k + 1, x1, x5, x8, x9, x10 => if x10 < x9 then (if 0 ≤ x10 then (if x10 < (x8.length : Int) then ((spec_poPower.f ((rd_T55 x8 x10).f0) ((rd_T55 x8 x10).f1) ((rd_T55 x8 x10).f2) ((rd_T55 x8 x10).f3) x1).bind fun t294 => ((spec_l1Most.f x5 t294).bind fun t295 => (spec_poDegreeIn.l0 k x1 t295 x8 x9 (wrap64 (x10 + 1))))) else (none)) else (none)) else (some x5)
def spec_poDegreeIn.f (k : Nat) (l0 : List (S55)) (a1 : Int) : Option (Int) := spec_poDegreeIn.l0 k a1 (-1) l0 (l0.length : Int) 0
/-! spec_DegreeIn -/
/-! impl_isUnknown -/
/-! impl_DegreeIn -/
-- HAND rounds=1 making=1
/-- An exponent of a term. -/
def impl_DegreeIn.pw (t : S55) (k : Int) : Int := if k = 0 then t.f1 else (if k = 1 then t.f2 else t.f3)
/-! laws_FnExactDegreeIn -/
/-! spec_UnknownsOf -/
def spec_UnknownsOf.l0 : Nat → List (S55) → List Int → Int → Option (List Int × Bool)
  | 0, _, _, _ => none
  | k + 1, x0, x4, x5 => if x5 < 3 then ((spec_poDegreeIn.f k x0 x5).bind fun t321 => (if t321 > 0 then (if x4.length < 17592186044416 then (spec_UnknownsOf.l0 k x0 (x4 ++ [x5]) (wrap64 (x5 + 1))) else (none)) else (spec_UnknownsOf.l0 k x0 x4 (wrap64 (x5 + 1))))) else (some (x4, true))
def spec_UnknownsOf.f (k : Nat) (l0 : List (S55)) : Option (List Int × Bool) := (spec_poGood.f k l0).bind fun t320 => (if t320 = true then (spec_UnknownsOf.l0 k l0 ([] : List Int) 0) else (some (([] : List Int), false)))
/-! impl_UnknownsOf -/
-- HAND rounds=1 making=1
/-- The first term with the unknown. -/
def impl_UnknownsOf.ix : Nat → List S55 → Int → Int → Option Int
  | 0, _, _, _ => none
  | k + 1, l, u, i => if i < (l.length : Int) then (if 0 ≤ i then (if impl_DegreeIn.pw (rd_T55 l i) u > 0 then some i else impl_UnknownsOf.ix k l u (wrap64 (i + 1))) else none) else some (-1)
def impl_UnknownsOf.l0 : Nat → List S55 → List Int → Int → Option (List Int × Bool)
  | 0, _, _, _ => none
  | k + 1, l, xs, i => if i < 3 then (if 0 ≤ i then ((impl_UnknownsOf.ix k l i 0).bind fun r => if r ≥ 0 then (if xs.length < 17592186044416 then impl_UnknownsOf.l0 k l (xs ++ [i]) (wrap64 (i + 1)) else none) else impl_UnknownsOf.l0 k l xs (wrap64 (i + 1))) else none) else some (xs, true)
def impl_UnknownsOf.f (k : Nat) (l0 : List (S55)) : Option (List Int × Bool) := (impl_isPoly.f k l0).bind fun p => if p = true then impl_UnknownsOf.l0 k l0 [] 0 else some ([], false)
/-! laws_eqIntS -/
def laws_eqIntS.l0 : Nat → List Int → List Int → Int → Option (Bool)
  | 0, _, _, _ => none
  | k + 1, x0, x1, x5 => if x5 < (x0.length : Int) then (if 0 ≤ x5 then (if x5 < (x1.length : Int) then (if (rd x0 x5) = (rd x1 x5) then (laws_eqIntS.l0 k x0 x1 (wrap64 (x5 + 1))) else (some false)) else (none)) else (none)) else (some true)
def laws_eqIntS.f (k : Nat) (l0 : List Int) (l1 : List Int) : Option (Bool) := if (l0.length : Int) = (l1.length : Int) then (laws_eqIntS.l0 k l0 l1 0) else (some false)
/-! laws_markIntS -/
def laws_markIntS.l0 : Nat → List Int → Int → Int → Option (Int × List Int)
  | 0, _, _, _ => none
  | k + 1, x0, x1, x5 => if x5 < (x0.length : Int) then (if 0 ≤ x5 then (laws_markIntS.l0 k (x0.set (x5 : Int).toNat x1) (wrap64 (x1 + 1)) (wrap64 (x5 + 1))) else (none)) else (some (x1, x0))
def laws_markIntS.f (k : Nat) (l0 : List Int) (a1 : Int) : Option (Int × List Int) := laws_markIntS.l0 k l0 a1 0
/-! laws_heldIntS -/
def laws_heldIntS.l0 : Nat → List Int → Int → Int → Option (Int)
  | 0, _, _, _ => none
  | k + 1, x0, x1, x5 => if x5 < (x0.length : Int) then (if 0 ≤ x5 then (if (rd x0 x5) = x1 then (laws_heldIntS.l0 k x0 (wrap64 (x1 + 1)) (wrap64 (x5 + 1))) else (some (-1))) else (none)) else (some x1)
def laws_heldIntS.f (k : Nat) (l0 : List Int) (a1 : Int) : Option (Int) := laws_heldIntS.l0 k l0 a1 0
/-! laws_FnExactUnknownsOf -/
def laws_FnExactUnknownsOf.f (k : Nat) (l0 : List (S57)) : Option (Bool) := (laws_szTermS.f l0 1000000).bind fun t329 => (if t329 < 0 then (some true) else ((laws_toTermS.f k l0 false).bind fun t330 => ((spec_UnknownsOf.f k t330).bind fun bt333 => ((laws_toTermS.f k l0 false).bind fun t337 => ((impl_UnknownsOf.f k t337).bind fun bt340 => ((laws_eqIntS.f k bt340.1 bt333.1).bind fun t344 => (if t344 = true then (if (bt340.2 != bt333.2) = true then (none) else ((laws_toTermS.f k l0 false).bind fun t345 => ((laws_intactTermS.f t337 t345).bind fun t348 => (if t348 = true then ((laws_markTermS.f k t337 101).bind fun bt349 => (if bt349.1 < 0 then (none) else ((laws_eqIntS.f k bt340.1 bt333.1).bind fun t351 => (if t351 = true then ((laws_markIntS.f k bt340.1 101).bind fun bt352 => ((laws_heldIntS.f k bt352.2 101).bind fun t354 => (if t354 < 0 then (none) else (if t354 = bt352.1 then ((laws_toTermS.f k l0 true).bind fun t355 => ((impl_UnknownsOf.f k t355).bind fun bt358 => ((laws_eqIntS.f k bt358.1 bt333.1).bind fun t362 => (if t362 = true then (if (bt358.2 != bt333.2) = true then (none) else ((laws_heldIntS.f k bt352.2 101).bind fun t363 => (if t363 < 0 then (none) else (if t363 = bt352.1 then (some true) else (none))))) else (none))))) else (none))))) else (none))))) else (none))))) else (none))))))))
end Go.Proofs.Ytfnmppeoleicbaa.PD
