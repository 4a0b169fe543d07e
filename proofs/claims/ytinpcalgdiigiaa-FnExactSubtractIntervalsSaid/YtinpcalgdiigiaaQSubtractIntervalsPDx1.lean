-- Written by a program of this session (wip/mk/drv.py) out of the seat's translation; Lean checks it.
import Derived.Test.YtinpcalgdiigiaaQSubtractIntervalsPDx0
namespace Go.Proofs.Ytinpcalgdiigiaa.PD
open Go.RowKit Go.Proofs.YtinpcalgdiigiaaW.PrintWords Go.Proofs.YtinpcalgdiigiaaW.PrintLast Go.Proofs.YtinpcalgdiigiaaW.PrintMore
attribute [local go_sem] max2_int min2_int max_two min_two max_three min_three max_four min_four   -- for this text's walks alone
set_option linter.unusedVariables false
set_option linter.unusedSimpArgs false
/-! spec_l1In -/
def spec_l1In.f (a0 : Int) (a1 : Int) (a2 : Int) : Option (Bool) := if a0 ≥ a1 then (some (decide (a0 ≤ a2))) else (some false)
/-! spec_dyGood -/
def spec_dyGood.f (a0_0 : Int) (a0_1 : Int) : Option (Bool) := (spec_l1In.f a0_1 0 24).bind fun t102 => (if t102 = true then ((spec_l1In.f a0_0 (-1099511627776) 1099511627776).bind fun t103 => (if t103 = true then (if a0_1 = 0 then (some true) else (some ((Int.tmod a0_0 2) != 0))) else (some false))) else (some false))
/-! spec_l1Sign -/
def spec_l1Sign.f (a0 : Int) : Option (Int) := if a0 > 0 then (some 1) else (if a0 < 0 then (some (-1)) else (some 0))
/-! spec_dyPower -/
def spec_dyPower.f (a0 : Int) : Option (Int) := if 0 ≤ (IntKind.u64.wrap (a0)) then (some (shl .i64 1 (IntKind.u64.wrap (a0)))) else (none)
/-! spec_dyDown -/
def spec_dyDown.f (a0 : Int) (a1 : Int) : Option (Int) := if a1 = 0 then (none) else (if (Int.tmod a0 a1) < 0 then (some (wrap64 ((wrap64 (Int.tdiv a0 a1)) - 1))) else (some (wrap64 (Int.tdiv a0 a1))))
/-! spec_dyFloor -/
def spec_dyFloor.f (a0_0 : Int) (a0_1 : Int) : Option (Int) := (spec_dyPower.f a0_1).bind fun t105 => ((spec_dyDown.f a0_0 t105).bind fun t106 => (some t106))
/-! spec_dyAt -/
def spec_dyAt.l0 : Nat → Int → Int → Int → Int → Option (Int × Bool)
  | 0, _, _, _, _ => none
  | k + 1, x1, x6, x108000, x108001 => if x6 < x1 then ((spec_dyPower.f 60).bind fun t108 => ((spec_l1In.f x108000 (wrap64 (-t108)) t108).bind fun t109 => (if t109 = true then (spec_dyAt.l0 k x1 (wrap64 (x6 + 1)) (wrap64 (x108000 * 2)) x108001) else (some (0, false))))) else (some (x108000, true))
def spec_dyAt.f (k : Nat) (a0_0 : Int) (a0_1 : Int) (a1 : Int) : Option (Int × Bool) := if a0_0 = 0 then (some (0, true)) else (spec_dyAt.l0 k a1 a0_1 a0_0 a0_1)
/-! spec_dyCmp -/
def spec_dyCmp.f (k : Nat) (a0_0 : Int) (a0_1 : Int) (a1_0 : Int) (a1_1 : Int) : Option (Int) := (spec_dyFloor.f a0_0 a0_1).bind fun t112 => ((spec_dyFloor.f a1_0 a1_1).bind fun t113 => (if t112 = t113 then ((spec_dyPower.f a0_1).bind fun t115 => ((spec_dyAt.f k (wrap64 (a0_0 - (wrap64 (t112 * t115)))) a0_1 24).bind fun bt116 => ((spec_dyPower.f a1_1).bind fun t118 => ((spec_dyAt.f k (wrap64 (a1_0 - (wrap64 (t113 * t118)))) a1_1 24).bind fun bt119 => ((spec_l1Sign.f (wrap64 (bt116.1 - bt119.1))).bind fun t121 => (some t121)))))) else ((spec_l1Sign.f (wrap64 (t112 - t113))).bind fun t114 => (some t114))))
/-! spec_ivGood -/
def spec_ivGood.f (k : Nat) (a0_0 : Int) (a0_1 : Int) (a0_2 : Int) (a0_3 : Int) : Option (Bool) := (spec_dyGood.f a0_0 a0_1).bind fun t123 => (if t123 = true then ((spec_dyGood.f a0_2 a0_3).bind fun t124 => (if t124 = true then ((spec_dyCmp.f k a0_0 a0_1 a0_2 a0_3).bind fun t125 => (some (decide (t125 ≤ 0)))) else (some false))) else (some false))
/-! spec_IsInterval -/
/-! laws_toDyadic -/
def laws_toDyadic.f (a0_0 : Int) (a0_1 : Int) : Option (Int × Int) := some (a0_0, a0_1)
/-! laws_toInterval -/
def laws_toInterval.f (a0_0 : Int) (a0_1 : Int) (a0_2 : Int) (a0_3 : Int) : Option (Int × Int × Int × Int) := (laws_toDyadic.f a0_0 a0_1).bind fun bt134 => ((laws_toDyadic.f a0_2 a0_3).bind fun bt136 => (some (bt134.1, bt134.2, bt136.1, bt136.2)))
/-! impl_wide_isZero -/
def impl_wide_isZero.f (a0_0 : Bool) (a0_1 : Int) (a0_2 : Int) : Option (Bool) := if a0_1 = 0 then (some (a0_2 == 0)) else (some false)
/-! cmp_Or_int -/
def cmp_Or_int.l0 : Nat → Int → List Int → Int → Int → Option (Int)
  | 0, _, _, _, _ => none
  | k + 1, x3, x6, x7, x8 => if x8 < x7 then (if 0 ≤ x8 then (if x8 < (x6.length : Int) then (if (rd x6 x8) = x3 then (cmp_Or_int.l0 k x3 x6 x7 (wrap64 (x8 + 1))) else (some (rd x6 x8))) else (none)) else (none)) else (some x3)
def cmp_Or_int.f (k : Nat) (l0 : List Int) : Option (Int) := cmp_Or_int.l0 k 0 l0 (l0.length : Int) 0
/-! cmp_isNaN_uint64 -/
def cmp_isNaN_uint64.f (a0 : Int) : Option (Bool) := some (a0 != a0)
/-! cmp_Compare_uint64 -/
def cmp_Compare_uint64.f (a0 : Int) (a1 : Int) : Option (Int) := (cmp_isNaN_uint64.f a0).bind fun t140 => ((cmp_isNaN_uint64.f a1).bind fun t141 => (if t140 = true then (if t141 = true then (some 0) else (some (-1))) else (if t141 = true then (some 1) else (if a0 < a1 then (some (-1)) else (if a0 > a1 then (some 1) else (some 0))))))
/-! impl_compareSizes -/
def impl_compareSizes.f (k : Nat) (a0_0 : Bool) (a0_1 : Int) (a0_2 : Int) (a1_0 : Bool) (a1_1 : Int) (a1_2 : Int) : Option (Int) := (cmp_Compare_uint64.f a0_1 a1_1).bind fun t144 => ((cmp_Compare_uint64.f a0_2 a1_2).bind fun t145 => ((cmp_Or_int.f k (([t144, t145] : List Int))).bind fun t149 => (some t149)))
/-! impl_compareWide -/
def impl_compareWide.j0 : Nat → Bool → Bool → Int → Int → Bool → Int → Int → Option (Int)
  | 0, _, _, _, _, _, _, _ => none
  | k + 1, x5, x151000, x151001, x151002, x152000, x152001, x152002 => if x5 = true then (some 0) else (if (x151000 != x152000) = true then (if x151000 = true then (some (-1)) else (some 1)) else (if x151000 = true then ((impl_compareSizes.f k x152000 x152001 x152002 x151000 x151001 x151002).bind fun t154 => (some t154)) else ((impl_compareSizes.f k x151000 x151001 x151002 x152000 x152001 x152002).bind fun t155 => (some t155))))
def impl_compareWide.f (k : Nat) (a0_0 : Bool) (a0_1 : Int) (a0_2 : Int) (a1_0 : Bool) (a1_1 : Int) (a1_2 : Int) : Option (Int) := (impl_wide_isZero.f a0_0 a0_1 a0_2).bind fun t152 => (if t152 = true then ((impl_wide_isZero.f a1_0 a1_1 a1_2).bind fun t153 => (impl_compareWide.j0 k t153 a0_0 a0_1 a0_2 a1_0 a1_1 a1_2)) else (impl_compareWide.j0 k false a0_0 a0_1 a0_2 a1_0 a1_1 a1_2))
/-! impl_size -/
def impl_size.f (a0 : Int) : Option (Int) := if a0 < 0 then (some (IntKind.u64.wrap (wrap64 (-a0)))) else (some (IntKind.u64.wrap (a0)))
/-! impl_wideOf -/
def impl_wideOf.f (a0 : Int) : Option (Bool × Int × Int) := (impl_size.f a0).bind fun t157 => (some (decide (a0 < 0), 0, t157))
/-! impl_wide_shift -/
def impl_wide_shift.f (a0_0 : Bool) (a0_1 : Int) (a0_2 : Int) (a1 : Int) : Option (Bool × Int × Int) := if a1 ≥ 0 then (if a1 ≥ 64 then (if 0 ≤ (wrap64 (a1 - 64)) then (some (a0_0, shl .u64 a0_2 (wrap64 (a1 - 64)), 0)) else (none)) else (if 0 ≤ a1 then (if 0 ≤ (wrap64 (64 - a1)) then (some (a0_0, Go.bits .or .u64 (shl .u64 a0_1 a1) (shr .u64 a0_2 (wrap64 (64 - a1))), shl .u64 a0_2 a1)) else (none)) else (none))) else (if (wrap64 (-a1)) ≥ 64 then (if 0 ≤ (wrap64 ((wrap64 (-a1)) - 64)) then (some (a0_0, 0, shr .u64 a0_1 (wrap64 ((wrap64 (-a1)) - 64)))) else (none)) else (if 0 ≤ (wrap64 (-a1)) then (if 0 ≤ (wrap64 (64 - (wrap64 (-a1)))) then (some (a0_0, shr .u64 a0_1 (wrap64 (-a1)), Go.bits .or .u64 (shr .u64 a0_2 (wrap64 (-a1))) (shl .u64 a0_1 (wrap64 (64 - (wrap64 (-a1))))))) else (none)) else (none)))
/-! impl_compareD -/
def impl_compareD.f (k : Nat) (a0_0 : Int) (a0_1 : Int) (a1_0 : Int) (a1_1 : Int) : Option (Int) := (impl_wideOf.f a0_0).bind fun bt162 => ((impl_wide_shift.f bt162.1 bt162.2.1 bt162.2.2 (wrap64 ((mx a0_1 a1_1) - a0_1))).bind fun bt165 => ((impl_wideOf.f a1_0).bind fun bt168 => ((impl_wide_shift.f bt168.1 bt168.2.1 bt168.2.2 (wrap64 ((mx a0_1 a1_1) - a1_1))).bind fun bt171 => ((impl_compareWide.f k bt165.1 bt165.2.1 bt165.2.2 bt171.1 bt171.2.1 bt171.2.2).bind fun t174 => (some t174)))))
/-! impl_inside -/
def impl_inside.f (a0 : Int) (a1 : Int) (a2 : Int) : Option (Bool) := if a0 ≥ a1 then (some (decide (a0 ≤ a2))) else (some false)
/-! impl_isPlaces -/
def impl_isPlaces.f (a0 : Int) : Option (Bool) := (impl_inside.f a0 0 24).bind fun t175 => (some t175)
/-! impl_isDyadic -/
def impl_isDyadic.f (a0_0 : Int) (a0_1 : Int) : Option (Bool) := (impl_isPlaces.f a0_1).bind fun t177 => (if t177 = true then ((impl_inside.f a0_0 (-1099511627776) 1099511627776).bind fun t178 => (if t178 = true then (if a0_1 = 0 then (some true) else (some ((Int.tmod a0_0 2) != 0))) else (some false))) else (some false))
/-! impl_isInterval -/
def impl_isInterval.f (k : Nat) (a0_0 : Int) (a0_1 : Int) (a0_2 : Int) (a0_3 : Int) : Option (Bool) := (impl_isDyadic.f a0_0 a0_1).bind fun t180 => (if t180 = true then ((impl_isDyadic.f a0_2 a0_3).bind fun t181 => (if t181 = true then ((impl_compareD.f k a0_0 a0_1 a0_2 a0_3).bind fun t182 => (some (decide (t182 ≤ 0)))) else (some false))) else (some false))
/-! impl_IsInterval -/
/-! laws_FnExactIsInterval -/
/-! spec_ivTwo -/
def spec_ivTwo.f (k : Nat) (a0_0 : Int) (a0_1 : Int) (a0_2 : Int) (a0_3 : Int) (a1_0 : Int) (a1_1 : Int) (a1_2 : Int) (a1_3 : Int) : Option (Bool) := (spec_ivGood.f k a0_0 a0_1 a0_2 a0_3).bind fun t198 => (if t198 = true then ((spec_ivGood.f k a1_0 a1_1 a1_2 a1_3).bind fun t199 => (some t199)) else (some false))
/-! spec_ivInside -/
/-! spec_IsWithin -/
/-! impl_IsWithin -/
/-! laws_FnExactIsWithin -/
/-! spec_ivZero -/
/-! spec_ivSign -/
/-! spec_SignOf -/
/-! impl_signOf -/
/-! impl_SignOf -/
/-! laws_FnExactSignOf -/
/-! spec_ivEnds -/
/-! spec_ivHull -/
/-! spec_HullOf -/
/-! impl_lesser -/
/-! impl_greater -/
/-! impl_HullOf -/
/-! laws_eqDyadic -/
def laws_eqDyadic.f (a0_0 : Int) (a0_1 : Int) (a1_0 : Int) (a1_1 : Int) : Option (Bool) := if a0_0 = a1_0 then (if a0_1 = a1_1 then (some true) else (some false)) else (some false)
/-! laws_eqInterval -/
def laws_eqInterval.f (a0_0 : Int) (a0_1 : Int) (a0_2 : Int) (a0_3 : Int) (a1_0 : Int) (a1_1 : Int) (a1_2 : Int) (a1_3 : Int) : Option (Bool) := (laws_eqDyadic.f a0_0 a0_1 a1_0 a1_1).bind fun t308 => (if t308 = true then ((laws_eqDyadic.f a0_2 a0_3 a1_2 a1_3).bind fun t309 => (if t309 = true then (some true) else (some false))) else (some false))
/-! laws_FnExactHullOf -/
/-! spec_ivCommon -/
/-! spec_CommonPart -/
/-! impl_commonPart -/
/-! impl_CommonPart -/
/-! laws_FnExactCommonPart -/
/-! spec_dyMake -/
mutual
def spec_dyMake.j0 : Nat → Int → Int → Bool → Option (Int × Int × Bool)
  | 0, _, _, _ => none
  | k + 1, x0, x1, x12 => if x12 = true then (spec_dyMake.j1 k x0 0) else (spec_dyMake.j1 k x0 x1)
def spec_dyMake.j1 : Nat → Int → Int → Option (Int × Int × Bool)
  | 0, _, _ => none
  | k + 1, x0, x1 => spec_dyMake.l0 k x0 x1
def spec_dyMake.l0 : Nat → Int → Int → Option (Int × Int × Bool)
  | 0, _, _ => none
  | k + 1, x0, x1 => if x1 > 0 then (if (Int.tmod x0 2) = 0 then (spec_dyMake.l0 k (wrap64 (Int.tdiv x0 2)) (wrap64 (x1 - 1))) else ((spec_dyGood.f x0 x1).bind fun t421 => (if t421 = true then (some (x0, x1, true)) else (some (0, 0, false))))) else ((spec_dyGood.f x0 x1).bind fun t423 => (if t423 = true then (some (x0, x1, true)) else (some (0, 0, false))))
end
def spec_dyMake.f (k : Nat) (a0 : Int) (a1 : Int) : Option (Int × Int × Bool) := if a0 = 0 then (spec_dyMake.j0 k a0 a1 (decide (a1 > 0))) else (spec_dyMake.j0 k a0 a1 false)
/-! spec_dyRound -/
/-! spec_dyMinus -/
def spec_dyMinus.f (a0_0 : Int) (a0_1 : Int) : Option (Int × Int) := some (wrap64 (-a0_0), a0_1)
/-! spec_ivUp -/
/-! spec_ivRound -/
/-! spec_RoundOut -/
/-! impl_minus -/
def impl_minus.f (a0_0 : Int) (a0_1 : Int) : Option (Int × Int) := some (wrap64 (-a0_0), a0_1)
/-! impl_wide_fit -/
mutual
def impl_wide_fit.j1 : Nat → Int → Bool → Int → Int → Option (Int × Int × Bool)
  | 0, _, _, _, _ => none
  | k + 1, x1, x459000, x459001, x459002 => if x1 > 24 then (impl_wide_fit.j2 k x1 true x459000 x459001 x459002) else (if x459001 > 0 then (impl_wide_fit.j2 k x1 true x459000 x459001 x459002) else (impl_wide_fit.j2 k x1 (decide (x459002 > 1099511627776)) x459000 x459001 x459002))
def impl_wide_fit.j2 : Nat → Int → Bool → Bool → Int → Int → Option (Int × Int × Bool)
  | 0, _, _, _, _, _ => none
  | k + 1, x1, x33, x459000, x459001, x459002 => if x33 = true then (some (0, 0, false)) else (if x459000 = true then (some (wrap64 (-(wrap64 (x459002))), x1, true)) else (some (wrap64 (x459002), x1, true)))
def impl_wide_fit.l0 : Nat → Int → Bool → Int → Int → Option (Int × Int × Bool)
  | 0, _, _, _, _ => none
  | k + 1, x1, x459000, x459001, x459002 => if x1 > 0 then (if (Int.tmod x459002 2) = 0 then ((impl_wide_shift.f x459000 x459001 x459002 (-1)).bind fun bt461 => (impl_wide_fit.l0 k (wrap64 (x1 - 1)) bt461.1 bt461.2.1 bt461.2.2)) else (impl_wide_fit.j1 k x1 x459000 x459001 x459002)) else (impl_wide_fit.j1 k x1 x459000 x459001 x459002)
end
def impl_wide_fit.f (k : Nat) (a0_0 : Bool) (a0_1 : Int) (a0_2 : Int) (a1 : Int) : Option (Int × Int × Bool) := (impl_wide_isZero.f a0_0 a0_1 a0_2).bind fun t460 => (if t460 = true then (some (0, 0, true)) else (impl_wide_fit.l0 k a1 a0_0 a0_1 a0_2))
/-! impl_roundDown -/
/-! impl_roundOut -/
/-! impl_RoundOut -/
/-! laws_FnExactRoundOut -/
/-! spec_l1Most -/
def spec_l1Most.f (a0 : Int) (a1 : Int) : Option (Int) := if a0 > a1 then (some a0) else (some a1)
/-! spec_dyAdd -/
def spec_dyAdd.f (k : Nat) (a0_0 : Int) (a0_1 : Int) (a1_0 : Int) (a1_1 : Int) : Option (Int × Int × Bool) := (spec_l1Most.f a0_1 a1_1).bind fun t516 => ((spec_dyAt.f k a0_0 a0_1 t516).bind fun bt517 => ((spec_dyAt.f k a1_0 a1_1 t516).bind fun bt519 => (if bt517.2 = true then (if bt519.2 = true then ((spec_dyMake.f k (wrap64 (bt517.1 + bt519.1)) t516).bind fun bt521 => (some (bt521.1, bt521.2.1, bt521.2.2))) else (some (0, 0, false))) else (some (0, 0, false)))))
/-! spec_dySub -/
/-! spec_WidthOf -/
/-! bits_Add64 -/
-- HAND rounds=0 making=0 extern
/-- The model's stand-in for bits.Add64, as a function of numbers. -/
def bits_Add64.f (a0 : Int) (a1 : Int) (a2 : Int) : Option (Int × Int) := if a2 = 0 then some ((((a0.toNat + a1.toNat) % 18446744073709551616 : Nat) : Int), (((a0.toNat + a1.toNat) / 18446744073709551616 : Nat) : Int)) else if a2 = 1 then some ((((a0.toNat + a1.toNat + 1) % 18446744073709551616 : Nat) : Int), (((a0.toNat + a1.toNat + 1) / 18446744073709551616 : Nat) : Int)) else none
/-! bits_Sub64 -/
-- HAND rounds=0 making=0 extern
/-- The model's stand-in for bits.Sub64, as a function of numbers. -/
def bits_Sub64.f (a0 : Int) (a1 : Int) (a2 : Int) : Option (Int × Int) := if a2 = 0 then some ((((a0.toNat + 18446744073709551616 - a1.toNat - 0) % 18446744073709551616 : Nat) : Int), ((if a0.toNat < a1.toNat + 0 then 1 else 0 : Nat) : Int)) else if a2 = 1 then some ((((a0.toNat + 18446744073709551616 - a1.toNat - 1) % 18446744073709551616 : Nat) : Int), ((if a0.toNat < a1.toNat + 1 then 1 else 0 : Nat) : Int)) else none
/-! impl_wide_add -/
def impl_wide_add.f (k : Nat) (a0_0 : Bool) (a0_1 : Int) (a0_2 : Int) (a1_0 : Bool) (a1_1 : Int) (a1_2 : Int) : Option (Bool × Int × Int) := if (a0_0 == a1_0) = true then ((bits_Add64.f a0_2 a1_2 0).bind fun bt541 => ((bits_Add64.f a0_1 a1_1 bt541.2).bind fun bt543 => (some (a0_0, bt543.1, bt541.1)))) else ((impl_compareSizes.f k a0_0 a0_1 a0_2 a1_0 a1_1 a1_2).bind fun t545 => (if t545 < 0 then ((bits_Sub64.f a1_2 a0_2 0).bind fun bt546 => ((bits_Sub64.f a1_1 a0_1 bt546.2).bind fun bt548 => (some (a1_0, bt548.1, bt546.1)))) else ((bits_Sub64.f a0_2 a1_2 0).bind fun bt550 => ((bits_Sub64.f a0_1 a1_1 bt550.2).bind fun bt552 => (some (a0_0, bt552.1, bt550.1))))))
/-! impl_sumOf -/
def impl_sumOf.f (k : Nat) (a0_0 : Int) (a0_1 : Int) (a1_0 : Int) (a1_1 : Int) : Option (Int × Int × Bool) := (impl_wideOf.f a0_0).bind fun bt557 => ((impl_wide_shift.f bt557.1 bt557.2.1 bt557.2.2 (wrap64 ((mx a0_1 a1_1) - a0_1))).bind fun bt560 => ((impl_wideOf.f a1_0).bind fun bt563 => ((impl_wide_shift.f bt563.1 bt563.2.1 bt563.2.2 (wrap64 ((mx a0_1 a1_1) - a1_1))).bind fun bt566 => ((impl_wide_add.f k bt560.1 bt560.2.1 bt560.2.2 bt566.1 bt566.2.1 bt566.2.2).bind fun bt569 => ((impl_wide_fit.f k bt569.1 bt569.2.1 bt569.2.2 (mx a0_1 a1_1)).bind fun bt572 => (some (bt572.1, bt572.2.1, bt572.2.2)))))))
/-! impl_WidthOf -/
/-! laws_FnExactWidthOf -/
/-! spec_ivBoth -/
def spec_ivBoth.f (a0_0 : Int) (a0_1 : Int) (a1 : Bool) (a2_0 : Int) (a2_1 : Int) (a3 : Bool) : Option (Int × Int × Int × Int × Bool) := if a1 = true then (if a3 = true then (some (a0_0, a0_1, a2_0, a2_1, true)) else (some (0, 0, 0, 0, false))) else (some (0, 0, 0, 0, false))
/-! spec_ivAdd -/
def spec_ivAdd.f (k : Nat) (a0_0 : Int) (a0_1 : Int) (a0_2 : Int) (a0_3 : Int) (a1_0 : Int) (a1_1 : Int) (a1_2 : Int) (a1_3 : Int) : Option (Int × Int × Int × Int × Bool) := (spec_dyAdd.f k a0_0 a0_1 a1_0 a1_1).bind fun bt607 => ((spec_dyAdd.f k a0_2 a0_3 a1_2 a1_3).bind fun bt611 => ((spec_ivBoth.f bt607.1 bt607.2.1 bt607.2.2 bt611.1 bt611.2.1 bt611.2.2).bind fun bt615 => (some (bt615.1, bt615.2.1, bt615.2.2.1, bt615.2.2.2.1, bt615.2.2.2.2))))
/-! spec_AddIntervals -/
/-! impl_reckoner_result -/
def impl_reckoner_result.f (s0_0 : Bool) (a1_0 : Int) (a1_1 : Int) (a1_2 : Int) (a1_3 : Int) : Option (Int × Int × Int × Int × Bool × Bool) := if s0_0 = true then (some (a1_0, a1_1, a1_2, a1_3, true, s0_0)) else (some (0, 0, 0, 0, false, s0_0))
/-! impl_reckoner_keep -/
def impl_reckoner_keep.f (s0_0 : Bool) (a1_0 : Int) (a1_1 : Int) (a2 : Bool) : Option (Int × Int × Bool) := if s0_0 = true then (if a2 = true then (some (a1_0, a1_1, a2)) else (some (0, 0, a2))) else (some (0, 0, false))
/-! impl_reckoner_sum -/
def impl_reckoner_sum.f (k : Nat) (s0_0 : Bool) (a1_0 : Int) (a1_1 : Int) (a2_0 : Int) (a2_1 : Int) : Option (Int × Int × Bool) := (impl_sumOf.f k a1_0 a1_1 a2_0 a2_1).bind fun bt636 => ((impl_reckoner_keep.f s0_0 bt636.1 bt636.2.1 bt636.2.2).bind fun bt639 => (some (bt639.1, bt639.2.1, bt639.2.2)))
/-! impl_reckoner_add -/
/-! impl_AddIntervals -/
/-! laws_FnExactAddIntervals -/
/-! spec_ivMinus -/
def spec_ivMinus.f (a0_0 : Int) (a0_1 : Int) (a0_2 : Int) (a0_3 : Int) : Option (Int × Int × Int × Int) := (spec_dyMinus.f a0_2 a0_3).bind fun bt701 => ((spec_dyMinus.f a0_0 a0_1).bind fun bt703 => (some (bt701.1, bt701.2, bt703.1, bt703.2)))
/-! spec_ivSub -/
def spec_ivSub.f (k : Nat) (a0_0 : Int) (a0_1 : Int) (a0_2 : Int) (a0_3 : Int) (a1_0 : Int) (a1_1 : Int) (a1_2 : Int) (a1_3 : Int) : Option (Int × Int × Int × Int × Bool) := (spec_ivMinus.f a1_0 a1_1 a1_2 a1_3).bind fun bt708 => ((spec_ivAdd.f k a0_0 a0_1 a0_2 a0_3 bt708.1 bt708.2.1 bt708.2.2.1 bt708.2.2.2).bind fun bt712 => (some (bt712.1, bt712.2.1, bt712.2.2.1, bt712.2.2.2.1, bt712.2.2.2.2)))
/-! spec_SubtractIntervals -/
def spec_SubtractIntervals.f (k : Nat) (a0_0 : Int) (a0_1 : Int) (a0_2 : Int) (a0_3 : Int) (a1_0 : Int) (a1_1 : Int) (a1_2 : Int) (a1_3 : Int) : Option (Int × Int × Int × Int × Bool) := (spec_ivTwo.f k a0_0 a0_1 a0_2 a0_3 a1_0 a1_1 a1_2 a1_3).bind fun t720 => (if t720 = true then ((spec_ivSub.f k a0_0 a0_1 a0_2 a0_3 a1_0 a1_1 a1_2 a1_3).bind fun bt721 => (some (bt721.1, bt721.2.1, bt721.2.2.1, bt721.2.2.2.1, bt721.2.2.2.2))) else (some (0, 0, 0, 0, false)))
/-! impl_reckoner_subtract -/
def impl_reckoner_subtract.f (k : Nat) (s0_0 : Bool) (a1_0 : Int) (a1_1 : Int) (a1_2 : Int) (a1_3 : Int) (a2_0 : Int) (a2_1 : Int) (a2_2 : Int) (a2_3 : Int) : Option (Int × Int × Int × Int × Bool) := (impl_minus.f a2_2 a2_3).bind fun bt729 => ((impl_reckoner_sum.f k s0_0 a1_0 a1_1 bt729.1 bt729.2).bind fun bt731 => ((impl_minus.f a2_0 a2_1).bind fun bt734 => ((impl_reckoner_sum.f k bt731.2.2 a1_2 a1_3 bt734.1 bt734.2).bind fun bt736 => (some (bt731.1, bt731.2.1, bt736.1, bt736.2.1, bt736.2.2)))))
/-! impl_SubtractIntervals -/
def impl_SubtractIntervals.j0 : Nat → Bool → Int → Int → Int → Int → Int → Int → Int → Int → Option (Int × Int × Int × Int × Bool)
  | 0, _, _, _, _, _, _, _, _, _ => none
  | k + 1, x14, x740000, x740001, x740002, x740003, x741000, x741001, x741002, x741003 => if x14 = true then (some (0, 0, 0, 0, false)) else ((impl_reckoner_subtract.f k true x740000 x740001 x740002 x740003 x741000 x741001 x741002 x741003).bind fun bt745 => ((impl_reckoner_result.f bt745.2.2.2.2 bt745.1 bt745.2.1 bt745.2.2.1 bt745.2.2.2.1).bind fun bt750 => (some (bt750.1, bt750.2.1, bt750.2.2.1, bt750.2.2.2.1, bt750.2.2.2.2.1))))
def impl_SubtractIntervals.f (k : Nat) (a0_0 : Int) (a0_1 : Int) (a0_2 : Int) (a0_3 : Int) (a1_0 : Int) (a1_1 : Int) (a1_2 : Int) (a1_3 : Int) : Option (Int × Int × Int × Int × Bool) := (impl_isInterval.f k a0_0 a0_1 a0_2 a0_3).bind fun t742 => (if t742 = true then ((impl_isInterval.f k a1_0 a1_1 a1_2 a1_3).bind fun t743 => (impl_SubtractIntervals.j0 k (!t743) a0_0 a0_1 a0_2 a0_3 a1_0 a1_1 a1_2 a1_3)) else (impl_SubtractIntervals.j0 k true a0_0 a0_1 a0_2 a0_3 a1_0 a1_1 a1_2 a1_3))
/-! laws_FnExactSubtractIntervals -/
def laws_FnExactSubtractIntervals.f (k : Nat) (a0_0 : Int) (a0_1 : Int) (a0_2 : Int) (a0_3 : Int) (a1_0 : Int) (a1_1 : Int) (a1_2 : Int) (a1_3 : Int) : Option (Bool) := (laws_toInterval.f a0_0 a0_1 a0_2 a0_3).bind fun bt758 => ((laws_toInterval.f a1_0 a1_1 a1_2 a1_3).bind fun bt762 => ((spec_SubtractIntervals.f k bt758.1 bt758.2.1 bt758.2.2.1 bt758.2.2.2 bt762.1 bt762.2.1 bt762.2.2.1 bt762.2.2.2).bind fun bt766 => ((laws_toInterval.f a0_0 a0_1 a0_2 a0_3).bind fun bt772 => ((laws_toInterval.f a1_0 a1_1 a1_2 a1_3).bind fun bt776 => ((impl_SubtractIntervals.f k bt772.1 bt772.2.1 bt772.2.2.1 bt772.2.2.2 bt776.1 bt776.2.1 bt776.2.2.1 bt776.2.2.2).bind fun bt780 => ((laws_eqInterval.f bt780.1 bt780.2.1 bt780.2.2.1 bt780.2.2.2.1 bt766.1 bt766.2.1 bt766.2.2.1 bt766.2.2.2.1).bind fun t786 => (if t786 = true then (if (bt780.2.2.2.2 != bt766.2.2.2.2) = true then (none) else (some true)) else (none))))))))
/-! spec_l1Abs -/
/-! spec_dyMul -/
/-! spec_ivMul -/
/-! spec_MultiplyIntervals -/
/-! bits_Mul64 -/
/-! impl_timesWide -/
/-! impl_productOf -/
/-! impl_reckoner_product -/
/-! impl_reckoner_multiply -/
/-! impl_MultiplyIntervals -/
/-! laws_FnExactMultiplyIntervals -/
/-! spec_dyInt -/
/-! spec_ivRaise -/
/-! spec_ivPower -/
/-! spec_PowerOfInterval -/
/-! impl_single -/
/-! impl_integer -/
/-! impl_reckoner_power -/
/-! impl_PowerOfInterval -/
/-! laws_FnExactPowerOfInterval -/
/-! spec_dyDigits -/
/-! spec_dyDivide -/
/-! spec_ivDiv -/
/-! spec_DivideIntervals -/
/-! bits_Len64 -/
/-! bits_LeadingZeros64 -/
/-! bits_Div64 -/
/-! impl_quotientDown -/
/-! impl_leastQuotient -/
/-! impl_DivideIntervals -/
/-! laws_FnExactDivideIntervals -/
end Go.Proofs.Ytinpcalgdiigiaa.PD
