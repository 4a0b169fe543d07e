-- By wip/mk/drv.py
import Derived.Test.YtfnmppeoleicbaaQPrimlyPDx0
namespace Go.Proofs.Ytfnmppeoleicbaa.PD
open Go.RowKit Go.Proofs.YtfnmppeoleicbaaW.PrintWords Go.Proofs.YtfnmppeoleicbaaW.PrintLast Go.Proofs.YtfnmppeoleicbaaW.PrintMore
attribute [local go_sem] max2_int min2_int max_two min_two max_three min_three max_four min_four
set_option linter.unusedVariables false
set_option linter.unusedSimpArgs false
/-! laws_szTermS -/
def laws_szTermS.f (l0 : List (S57)) (a1 : Int) : Option (Int) := if (wrap64 (a1 - (l0.length : Int))) < 0 then (some (-1)) else (some (wrap64 (a1 - (l0.length : Int))))
/-! spec_l1In -/
def spec_l1In.f (a0 : Int) (a1 : Int) (a2 : Int) : Option (Bool) := if a0 ≥ a1 then (some (decide (a0 ≤ a2))) else (some false)
/-! spec_poTerm -/
def spec_poTerm.f (a0_0 : Int) (a0_1 : Int) (a0_2 : Int) (a0_3 : Int) : Option (Bool) := (spec_l1In.f a0_0 (-1000) 1000).bind fun t102 => (if t102 = true then ((spec_l1In.f a0_1 0 4).bind fun t103 => (if t103 = true then ((spec_l1In.f a0_2 0 4).bind fun t104 => (if t104 = true then ((spec_l1In.f a0_3 0 4).bind fun t105 => (if t105 = true then (some (decide ((wrap64 ((wrap64 (a0_1 + a0_2)) + a0_3)) ≤ 4))) else (some false))) else (some false))) else (some false))) else (some false))
/-! spec_l1Sign -/
def spec_l1Sign.f (a0 : Int) : Option (Int) := if a0 > 0 then (some 1) else (if a0 < 0 then (some (-1)) else (some 0))
/-! spec_poOrder -/
def spec_poOrder.f (a0_0 : Int) (a0_1 : Int) (a0_2 : Int) (a0_3 : Int) (a1_0 : Int) (a1_1 : Int) (a1_2 : Int) (a1_3 : Int) : Option (Int) := if a0_1 = a1_1 then (if a0_2 = a1_2 then ((spec_l1Sign.f (wrap64 (a0_3 - a1_3))).bind fun t108 => (some t108)) else ((spec_l1Sign.f (wrap64 (a0_2 - a1_2))).bind fun t109 => (some t109))) else ((spec_l1Sign.f (wrap64 (a0_1 - a1_1))).bind fun t110 => (some t110))
/-! spec_poGood -/
def spec_poGood.l0 : Nat → List (S55) → List (S55) → Int → Int → Option (Bool)
  | 0, _, _, _, _ => none
  | k + 1, x0, x5, x6, x7 => if x7 < x6 then (if 0 ≤ x7 then (if x7 < (x5.length : Int) then ((spec_poTerm.f ((rd_T55 x5 x7).f0) ((rd_T55 x5 x7).f1) ((rd_T55 x5 x7).f2) ((rd_T55 x5 x7).f3)).bind fun t113 => (if t113 = true then (if ((rd_T55 x5 x7).f0) = 0 then (some false) else (if x7 > 0 then (if 0 ≤ (wrap64 (x7 - 1)) then (if (wrap64 (x7 - 1)) < (x0.length : Int) then ((spec_poOrder.f ((rd_T55 x0 (wrap64 (x7 - 1))).f0) ((rd_T55 x0 (wrap64 (x7 - 1))).f1) ((rd_T55 x0 (wrap64 (x7 - 1))).f2) ((rd_T55 x0 (wrap64 (x7 - 1))).f3) ((rd_T55 x5 x7).f0) ((rd_T55 x5 x7).f1) ((rd_T55 x5 x7).f2) ((rd_T55 x5 x7).f3)).bind fun t115 => (if t115 ≥ 0 then (some false) else (spec_poGood.l0 k x0 x5 x6 (wrap64 (x7 + 1))))) else (none)) else (none)) else (spec_poGood.l0 k x0 x5 x6 (wrap64 (x7 + 1))))) else (some false))) else (none)) else (none)) else (some (decide ((x0.length : Int) ≤ 20)))
def spec_poGood.f (k : Nat) (l0 : List (S55)) : Option (Bool) := spec_poGood.l0 k l0 l0 (l0.length : Int) 0
/-! spec_IsPoly -/
/-! laws_roomBehind -/
def laws_roomBehind.f (a0 : Int) : Option (Int) := if (Int.tmod a0 6) = 5 then (some 0) else (if (Int.tmod a0 3) = 0 then (some 1) else (some a0))
/-! laws_toTerm -/
def laws_toTerm.f (a0_0 : Int) (a0_1 : Int) (a0_2 : Int) (a0_3 : Int) : Option (Int × Int × Int × Int) := some (a0_0, a0_1, a0_2, a0_3)
/-! laws_fillerTerm -/
def laws_fillerTerm.f  : Option (Int × Int × Int × Int) := some ((-7000000000000000101), (-7000000000000000101), (-7000000000000000101), (-7000000000000000101))
/-! laws_toTermS -/
mutual
def laws_toTermS.j0 : Nat → List (S57) → Bool → Option ((List (S55)))
  | 0, _, _ => none
  | k + 1, x0, x13 => if x13 = true then (some ([] : List (S55))) else ((laws_roomBehind.f (x0.length : Int)).bind fun t121 => (if 0 ≤ (wrap64 ((x0.length : Int) + t121)) then (if (wrap64 ((x0.length : Int) + t121) : Int).toNat ≤ 8796093022208 then (laws_toTermS.l0 k x0 (List.replicate (wrap64 ((x0.length : Int) + t121) : Int).toNat z55) 0) else (none)) else (none)))
def laws_toTermS.l0 : Nat → List (S57) → List (S55) → Int → Option ((List (S55)))
  | 0, _, _, _ => none
  | k + 1, x0, x5, x6 => if x6 < (x0.length : Int) then (if 0 ≤ x6 then ((laws_toTerm.f ((rd_T57 x0 x6).f0) ((rd_T57 x0 x6).f1) ((rd_T57 x0 x6).f2) ((rd_T57 x0 x6).f3)).bind fun bt126 => (if x6 < (x5.length : Int) then (laws_toTermS.l0 k x0 (x5.set (x6 : Int).toNat (⟨bt126.1, bt126.2.1, bt126.2.2.1, bt126.2.2.2⟩ : S55)) (wrap64 (x6 + 1))) else (none))) else (none)) else (laws_toTermS.l1 k x0 x5 (x0.length : Int))
def laws_toTermS.l1 : Nat → List (S57) → List (S55) → Int → Option ((List (S55)))
  | 0, _, _, _ => none
  | k + 1, x0, x5, x7 => if x7 < (x5.length : Int) then ((laws_fillerTerm.f).bind fun bt131 => (if 0 ≤ x7 then (laws_toTermS.l1 k x0 (x5.set (x7 : Int).toNat (⟨bt131.1, bt131.2.1, bt131.2.2.1, bt131.2.2.2⟩ : S55)) (wrap64 (x7 + 1))) else (none))) else (if 0 ≤ (x0.length : Int) then (if (x0.length : Int) ≤ (x5.length : Int) then (some (x5.take ((x0.length : Int) : Int).toNat)) else (none)) else (none))
end
def laws_toTermS.f (k : Nat) (l0 : List (S57)) (a1 : Bool) : Option ((List (S55))) := if a1 = true then (laws_toTermS.j0 k l0 ((l0.length : Int) == 0)) else (laws_toTermS.j0 k l0 false)
/-! impl_inside -/
def impl_inside.f (a0 : Int) (a1 : Int) (a2 : Int) : Option (Bool) := if a0 ≥ a1 then (some (decide (a0 ≤ a2))) else (some false)
/-! impl_Term_degree -/
def impl_Term_degree.f (a0_0 : Int) (a0_1 : Int) (a0_2 : Int) (a0_3 : Int) : Option (Int) := some (wrap64 ((wrap64 (a0_1 + a0_2)) + a0_3))
/-! impl_hasDegree -/
def impl_hasDegree.f (a0_0 : Int) (a0_1 : Int) (a0_2 : Int) (a0_3 : Int) : Option (Bool) := (impl_inside.f a0_1 0 4).bind fun t141 => (if t141 = true then ((impl_inside.f a0_2 0 4).bind fun t142 => (if t142 = true then ((impl_inside.f a0_3 0 4).bind fun t143 => (if t143 = true then ((impl_Term_degree.f a0_0 a0_1 a0_2 a0_3).bind fun t144 => (some (decide (t144 ≤ 4)))) else (some false))) else (some false))) else (some false))
/-! cmp_Or_int -/
def cmp_Or_int.l0 : Nat → Int → List Int → Int → Int → Option (Int)
  | 0, _, _, _, _ => none
  | k + 1, x3, x6, x7, x8 => if x8 < x7 then (if 0 ≤ x8 then (if x8 < (x6.length : Int) then (if (rd x6 x8) = x3 then (cmp_Or_int.l0 k x3 x6 x7 (wrap64 (x8 + 1))) else (some (rd x6 x8))) else (none)) else (none)) else (some x3)
def cmp_Or_int.f (k : Nat) (l0 : List Int) : Option (Int) := cmp_Or_int.l0 k 0 l0 (l0.length : Int) 0
/-! cmp_isNaN_int -/
def cmp_isNaN_int.f (a0 : Int) : Option (Bool) := some (a0 != a0)
/-! cmp_Compare_int -/
def cmp_Compare_int.f (a0 : Int) (a1 : Int) : Option (Int) := (cmp_isNaN_int.f a0).bind fun t146 => ((cmp_isNaN_int.f a1).bind fun t147 => (if t146 = true then (if t147 = true then (some 0) else (some (-1))) else (if t147 = true then (some 1) else (if a0 < a1 then (some (-1)) else (if a0 > a1 then (some 1) else (some 0))))))
/-! impl_compareTerms -/
def impl_compareTerms.f (k : Nat) (a0_0 : Int) (a0_1 : Int) (a0_2 : Int) (a0_3 : Int) (a1_0 : Int) (a1_1 : Int) (a1_2 : Int) (a1_3 : Int) : Option (Int) := (cmp_Compare_int.f a0_1 a1_1).bind fun t150 => ((cmp_Compare_int.f a0_2 a1_2).bind fun t151 => ((cmp_Compare_int.f a0_3 a1_3).bind fun t152 => ((cmp_Or_int.f k (([t150, t151, t152] : List Int))).bind fun t156 => (some t156))))
/-! impl_isPoly -/
def impl_isPoly.l0 : Nat → List (S55) → List (S55) → Int → Int → Option (Bool)
  | 0, _, _, _, _ => none
  | k + 1, x0, x5, x6, x7 => if x7 < x6 then (if 0 ≤ x7 then (if x7 < (x5.length : Int) then (if ((rd_T55 x5 x7).f0) = 0 then (some false) else ((impl_inside.f ((rd_T55 x5 x7).f0) (-1000) 1000).bind fun t159 => (if t159 = true then ((impl_hasDegree.f ((rd_T55 x5 x7).f0) ((rd_T55 x5 x7).f1) ((rd_T55 x5 x7).f2) ((rd_T55 x5 x7).f3)).bind fun t160 => (if t160 = true then (if x7 > 0 then (if 0 ≤ (wrap64 (x7 - 1)) then (if (wrap64 (x7 - 1)) < (x0.length : Int) then ((impl_compareTerms.f k ((rd_T55 x0 (wrap64 (x7 - 1))).f0) ((rd_T55 x0 (wrap64 (x7 - 1))).f1) ((rd_T55 x0 (wrap64 (x7 - 1))).f2) ((rd_T55 x0 (wrap64 (x7 - 1))).f3) ((rd_T55 x5 x7).f0) ((rd_T55 x5 x7).f1) ((rd_T55 x5 x7).f2) ((rd_T55 x5 x7).f3)).bind fun t162 => (if t162 ≥ 0 then (some false) else (impl_isPoly.l0 k x0 x5 x6 (wrap64 (x7 + 1))))) else (none)) else (none)) else (impl_isPoly.l0 k x0 x5 x6 (wrap64 (x7 + 1)))) else (some false))) else (some false)))) else (none)) else (none)) else (some (decide ((x0.length : Int) ≤ 20)))
def impl_isPoly.f (k : Nat) (l0 : List (S55)) : Option (Bool) := impl_isPoly.l0 k l0 l0 (l0.length : Int) 0
/-! impl_IsPoly -/
/-! laws_eqTerm -/
def laws_eqTerm.f (a0_0 : Int) (a0_1 : Int) (a0_2 : Int) (a0_3 : Int) (a1_0 : Int) (a1_1 : Int) (a1_2 : Int) (a1_3 : Int) : Option (Bool) := if a0_0 = a1_0 then (if a0_1 = a1_1 then (if a0_2 = a1_2 then (if a0_3 = a1_3 then (some true) else (some false)) else (some false)) else (some false)) else (some false)
/-! laws_eqTermS -/
def laws_eqTermS.l0 : Nat → List (S55) → List (S55) → Int → Option (Bool)
  | 0, _, _, _ => none
  | k + 1, x0, x1, x5 => if x5 < (x0.length : Int) then (if 0 ≤ x5 then (if x5 < (x1.length : Int) then ((laws_eqTerm.f ((rd_T55 x0 x5).f0) ((rd_T55 x0 x5).f1) ((rd_T55 x0 x5).f2) ((rd_T55 x0 x5).f3) ((rd_T55 x1 x5).f0) ((rd_T55 x1 x5).f1) ((rd_T55 x1 x5).f2) ((rd_T55 x1 x5).f3)).bind fun t168 => (if t168 = true then (laws_eqTermS.l0 k x0 x1 (wrap64 (x5 + 1))) else (some false))) else (none)) else (none)) else (some true)
def laws_eqTermS.f (k : Nat) (l0 : List (S55)) (l1 : List (S55)) : Option (Bool) := if (l0.length : Int) = (l1.length : Int) then (laws_eqTermS.l0 k l0 l1 0) else (some false)
/-! laws_intactTermS -/
-- HAND rounds=0 making=1
/-- Whether two lists are one, their spare cells as toTermS lays them. -/
def laws_intactTermS.f (l0 : List S55) (l1 : List S55) : Option (Bool) := if l0 = l1 then some true else none
/-! laws_FnExactIsPoly -/
/-! spec_l1Most -/
def spec_l1Most.f (a0 : Int) (a1 : Int) : Option (Int) := if a0 > a1 then (some a0) else (some a1)
/-! spec_poDegree -/
/-! spec_DegreeOf -/
/-! impl_degreeOf -/
/-! impl_DegreeOf -/
/-! laws_FnExactDegreeOf -/
/-! spec_txCommon -/
def spec_txCommon.l0 : Nat → Int → Int → Option (Int)
  | 0, _, _ => none
  | k + 1, x0, x1 => if x1 > 0 then (if x1 = 0 then (none) else (spec_txCommon.l0 k x1 (Int.tmod x0 x1))) else (some x0)
def spec_txCommon.f (k : Nat) (a0 : Int) (a1 : Int) : Option (Int) := spec_txCommon.l0 k a0 a1
/-! spec_l1Abs -/
def spec_l1Abs.f (a0 : Int) : Option (Int) := (spec_l1Most.f a0 (wrap64 (-a0))).bind fun t216 => (some t216)
/-! spec_txPrimitive -/
mutual
def spec_txPrimitive.l0 : Nat → List (S55) → Int → List (S55) → Int → Int → Option ((List (S55)))
  | 0, _, _, _, _, _ => none
  | k + 1, x0, x3, x9, x10, x11 => if x11 < x10 then (if 0 ≤ x11 then (if x11 < (x9.length : Int) then ((spec_l1Abs.f ((rd_T55 x9 x11).f0)).bind fun t219 => ((spec_txCommon.f k t219 x3).bind fun t220 => (spec_txPrimitive.l0 k x0 t220 x9 x10 (wrap64 (x11 + 1))))) else (none)) else (none)) else (spec_txPrimitive.l1 k x0 x3 ([] : List (S55)) x0 (x0.length : Int) 0)
def spec_txPrimitive.l1 : Nat → List (S55) → Int → List (S55) → List (S55) → Int → Int → Option ((List (S55)))
  | 0, _, _, _, _, _, _ => none
  | k + 1, x0, x3, x6, x21, x22, x23 => if x23 < x22 then (if 0 ≤ x23 then (if x23 < (x21.length : Int) then (if x3 = 0 then (none) else (if 0 ≤ (wrap64 ((x0.length : Int) - 1)) then (if (wrap64 ((x0.length : Int) - 1)) < (x0.length : Int) then (if ((rd_T55 x0 (wrap64 ((x0.length : Int) - 1))).f0) < 0 then (if x6.length < 4398046511104 then (spec_txPrimitive.l1 k x0 x3 (x6 ++ [(⟨wrap64 (-(wrap64 (Int.tdiv ((rd_T55 x21 x23).f0) x3))), (rd_T55 x21 x23).f1, (rd_T55 x21 x23).f2, (rd_T55 x21 x23).f3⟩ : S55)]) x21 x22 (wrap64 (x23 + 1))) else (none)) else (if x6.length < 4398046511104 then (spec_txPrimitive.l1 k x0 x3 (x6 ++ [(⟨wrap64 (Int.tdiv ((rd_T55 x21 x23).f0) x3), (rd_T55 x21 x23).f1, (rd_T55 x21 x23).f2, (rd_T55 x21 x23).f3⟩ : S55)]) x21 x22 (wrap64 (x23 + 1))) else (none))) else (none)) else (none))) else (none)) else (none)) else (some x6)
end
def spec_txPrimitive.f (k : Nat) (l0 : List (S55)) : Option ((List (S55))) := spec_txPrimitive.l0 k l0 0 l0 (l0.length : Int) 0
/-! spec_PrimitivePoly -/
def spec_PrimitivePoly.f (k : Nat) (l0 : List (S55)) : Option ((List (S55)) × Bool) := (spec_poGood.f k l0).bind fun t230 => (if t230 = true then ((spec_txPrimitive.f k l0).bind fun t231 => (some (t231, true))) else (some (([] : List (S55)), false)))
/-! impl_gcd -/
def impl_gcd.l0 : Nat → Int → Int → Option (Int)
  | 0, _, _ => none
  | k + 1, x0, x1 => if x1 = 0 then (some (mx x0 (wrap64 (-x0)))) else (impl_gcd.l0 k x1 (Int.tmod x0 x1))
def impl_gcd.f (k : Nat) (a0 : Int) (a1 : Int) : Option (Int) := impl_gcd.l0 k a0 a1
/-! impl_primitivePoly -/
mutual
def impl_primitivePoly.l0 : Nat → List (S55) → Int → List (S55) → Int → Int → Option ((List (S55)))
  | 0, _, _, _, _, _ => none
  | k + 1, x0, x3, x10, x11, x12 => if x12 < x11 then (if 0 ≤ x12 then (if x12 < (x10.length : Int) then ((impl_gcd.f k x3 ((rd_T55 x10 x12).f0)).bind fun t236 => (impl_primitivePoly.l0 k x0 t236 x10 x11 (wrap64 (x12 + 1)))) else (none)) else (none)) else (if (x0.length : Int) > 0 then (if 0 ≤ (wrap64 ((x0.length : Int) - 1)) then (if (wrap64 ((x0.length : Int) - 1)) < (x0.length : Int) then (impl_primitivePoly.j1 k x0 x3 (decide (((rd_T55 x0 (wrap64 ((x0.length : Int) - 1))).f0) < 0))) else (none)) else (none)) else (impl_primitivePoly.j1 k x0 x3 false))
def impl_primitivePoly.j1 : Nat → List (S55) → Int → Bool → Option ((List (S55)))
  | 0, _, _, _ => none
  | k + 1, x0, x3, x33 => if x33 = true then (impl_primitivePoly.j2 k x0 (wrap64 (-x3))) else (impl_primitivePoly.j2 k x0 x3)
def impl_primitivePoly.j2 : Nat → List (S55) → Int → Option ((List (S55)))
  | 0, _, _ => none
  | k + 1, x0, x3 => impl_primitivePoly.l1 k x3 ([] : List (S55)) x0 (x0.length : Int) 0
def impl_primitivePoly.l1 : Nat → Int → List (S55) → List (S55) → Int → Int → Option ((List (S55)))
  | 0, _, _, _, _, _ => none
  | k + 1, x3, x7, x36, x37, x38 => if x38 < x37 then (if 0 ≤ x38 then (if x38 < (x36.length : Int) then (if x3 = 0 then (none) else (if x7.length < 4398046511104 then (impl_primitivePoly.l1 k x3 (x7 ++ [(⟨wrap64 (Int.tdiv ((rd_T55 x36 x38).f0) x3), (rd_T55 x36 x38).f1, (rd_T55 x36 x38).f2, (rd_T55 x36 x38).f3⟩ : S55)]) x36 x37 (wrap64 (x38 + 1))) else (none))) else (none)) else (none)) else (some x7)
end
def impl_primitivePoly.f (k : Nat) (l0 : List (S55)) : Option ((List (S55))) := impl_primitivePoly.l0 k l0 0 l0 (l0.length : Int) 0
/-! impl_PrimitivePoly -/
def impl_PrimitivePoly.f (k : Nat) (l0 : List (S55)) : Option ((List (S55)) × Bool) := (impl_isPoly.f k l0).bind fun t243 => (if t243 = true then ((impl_primitivePoly.f k l0).bind fun t244 => (some (t244, true))) else (some (([] : List (S55)), false)))
/-! laws_markTermS -/
def laws_markTermS.l0 : Nat → List (S55) → Int → Int → Option (Int × (List (S55)))
  | 0, _, _, _ => none
  | k + 1, x0, x1, x5 => if x5 < (x0.length : Int) then (if 0 ≤ x5 then ((some (x0.set (x5 : Int).toNat (⟨x1, (rd_T55 x0 x5).f1, (rd_T55 x0 x5).f2, (rd_T55 x0 x5).f3⟩ : S55) : List (S55))).bind fun y247 => ((some (y247.set (x5 : Int).toNat (⟨(rd_T55 y247 x5).f0, wrap64 (x1 + 1), (rd_T55 y247 x5).f2, (rd_T55 y247 x5).f3⟩ : S55) : List (S55))).bind fun y248 => ((some (y248.set (x5 : Int).toNat (⟨(rd_T55 y248 x5).f0, (rd_T55 y248 x5).f1, wrap64 ((wrap64 (x1 + 1)) + 1), (rd_T55 y248 x5).f3⟩ : S55) : List (S55))).bind fun y249 => (laws_markTermS.l0 k (y249.set (x5 : Int).toNat (⟨(rd_T55 y249 x5).f0, (rd_T55 y249 x5).f1, (rd_T55 y249 x5).f2, wrap64 ((wrap64 ((wrap64 (x1 + 1)) + 1)) + 1)⟩ : S55)) (wrap64 ((wrap64 ((wrap64 ((wrap64 (x1 + 1)) + 1)) + 1)) + 1)) (wrap64 (x5 + 1)))))) else (none)) else (some (x1, x0))
def laws_markTermS.f (k : Nat) (l0 : List (S55)) (a1 : Int) : Option (Int × (List (S55))) := laws_markTermS.l0 k l0 a1 0
/-! laws_heldTermS -/
def laws_heldTermS.l0 : Nat → List (S55) → Int → Int → Option (Int)
  | 0, _, _, _ => none
  | k + 1, x0, x1, x5 => if x5 < (x0.length : Int) then (if 0 ≤ x5 then (if ((rd_T55 x0 x5).f0) = x1 then (if ((rd_T55 x0 x5).f1) = (wrap64 (x1 + 1)) then (if ((rd_T55 x0 x5).f2) = (wrap64 ((wrap64 (x1 + 1)) + 1)) then (if ((rd_T55 x0 x5).f3) = (wrap64 ((wrap64 ((wrap64 (x1 + 1)) + 1)) + 1)) then (laws_heldTermS.l0 k x0 (wrap64 ((wrap64 ((wrap64 ((wrap64 (x1 + 1)) + 1)) + 1)) + 1)) (wrap64 (x5 + 1))) else (some (-1))) else (some (-1))) else (some (-1))) else (some (-1))) else (none)) else (some x1)
def laws_heldTermS.f (k : Nat) (l0 : List (S55)) (a1 : Int) : Option (Int) := laws_heldTermS.l0 k l0 a1 0
/-! laws_FnExactPrimitivePoly -/
def laws_FnExactPrimitivePoly.f (k : Nat) (l0 : List (S57)) : Option (Bool) := (laws_szTermS.f l0 1000000).bind fun t255 => (if t255 < 0 then (some true) else ((laws_toTermS.f k l0 false).bind fun t256 => ((spec_PrimitivePoly.f k t256).bind fun bt259 => ((laws_toTermS.f k l0 false).bind fun t263 => ((impl_PrimitivePoly.f k t263).bind fun bt266 => ((laws_eqTermS.f k bt266.1 bt259.1).bind fun t270 => (if t270 = true then (if (bt266.2 != bt259.2) = true then (none) else ((laws_toTermS.f k l0 false).bind fun t271 => ((laws_intactTermS.f t263 t271).bind fun t274 => (if t274 = true then ((laws_markTermS.f k t263 101).bind fun bt275 => (if bt275.1 < 0 then (none) else ((laws_eqTermS.f k bt266.1 bt259.1).bind fun t277 => (if t277 = true then ((laws_markTermS.f k bt266.1 101).bind fun bt278 => ((laws_heldTermS.f k bt278.2 101).bind fun t280 => (if t280 < 0 then (none) else (if t280 = bt278.1 then ((laws_toTermS.f k l0 true).bind fun t281 => ((impl_PrimitivePoly.f k t281).bind fun bt284 => ((laws_eqTermS.f k bt284.1 bt259.1).bind fun t288 => (if t288 = true then (if (bt284.2 != bt259.2) = true then (none) else ((laws_heldTermS.f k bt278.2 101).bind fun t289 => (if t289 < 0 then (none) else (if t289 = bt278.1 then (some true) else (none))))) else (none))))) else (none))))) else (none))))) else (none))))) else (none))))))))
end Go.Proofs.Ytfnmppeoleicbaa.PD
