-- By wip/mk/drv.py
import Derived.Test.YtinpcalgdiigiaaQDivilsPDx0
namespace Go.Proofs.Ytinpcalgdiigiaa.PD
open Go.RowKit Go.Proofs.YtinpcalgdiigiaaW.PrintWords Go.Proofs.YtinpcalgdiigiaaW.PrintLast Go.Proofs.YtinpcalgdiigiaaW.PrintMore
attribute [local go_sem] max2_int min2_int max_two min_two max_three min_three max_four min_four
set_option linter.unusedVariables false
set_option linter.unusedSimpArgs false
/-! spec_l1In -/
def spec_l1In.f (a0 : Int) (a1 : Int) (a2 : Int) : Option (Bool) := if a0 ≥ a1 then (some (decide (a0 ≤ a2))) else (some false)
/-! spec_dyGood -/
def spec_dyGood.f (a0_0 : Int) (a0_1 : Int) : Option (Bool) := (spec_l1In.f a0_1 0 24).bind fun t102 => (if t102 = true then ((spec_l1In.f a0_0 (-1099511627776) 1099511627776).bind fun t103 => (if t103 = true then (if a0_1 = 0 then (some true) else (some ((Int.tmod a0_0 2) != 0))) else (some false))) else (some false))
/-! spec_l1Sign -/
def spec_l1Sign.f (a0 : Int) : Option (Int) := if a0 > 0 then (some 1) else (if a0 < 0 then (some (-1)) else (some 0))
/-! spec_dyPower -/
def spec_dyPower.f (a0 : Int) : Option (Int) := if 0 ≤ (IntKind.u64.wrap (a0)) then (some (shl .i64 1 (IntKind.u64.wrap (a0)))) else (none)
/-! spec_dyDown -/
def spec_dyDown.f (a0 : Int) (a1 : Int) : Option (Int) := if a1 = 0 then (none) else (if (Int.tmod a0 a1) < 0 then (some (wrap64 ((wrap64 (Int.tdiv a0 a1)) - 1))) else (some (wrap64 (Int.tdiv a0 a1))))
/-! spec_dyFloor -/
def spec_dyFloor.f (a0_0 : Int) (a0_1 : Int) : Option (Int) := (spec_dyPower.f a0_1).bind fun t105 => ((spec_dyDown.f a0_0 t105).bind fun t106 => (some t106))
/-! spec_dyAt -/
def spec_dyAt.l0 : Nat → Int → Int → Int → Int → Option (Int × Bool)
  | 0, _, _, _, _ => none
  | k + 1, x1, x6, x108000, x108001 => if x6 < x1 then ((spec_dyPower.f 60).bind fun t108 => ((spec_l1In.f x108000 (wrap64 (-t108)) t108).bind fun t109 => (if t109 = true then (spec_dyAt.l0 k x1 (wrap64 (x6 + 1)) (wrap64 (x108000 * 2)) x108001) else (some (0, false))))) else (some (x108000, true))
def spec_dyAt.f (k : Nat) (a0_0 : Int) (a0_1 : Int) (a1 : Int) : Option (Int × Bool) := if a0_0 = 0 then (some (0, true)) else (spec_dyAt.l0 k a1 a0_1 a0_0 a0_1)
/-! spec_dyCmp -/
def spec_dyCmp.f (k : Nat) (a0_0 : Int) (a0_1 : Int) (a1_0 : Int) (a1_1 : Int) : Option (Int) := (spec_dyFloor.f a0_0 a0_1).bind fun t112 => ((spec_dyFloor.f a1_0 a1_1).bind fun t113 => (if t112 = t113 then ((spec_dyPower.f a0_1).bind fun t115 => ((spec_dyAt.f k (wrap64 (a0_0 - (wrap64 (t112 * t115)))) a0_1 24).bind fun bt116 => ((spec_dyPower.f a1_1).bind fun t118 => ((spec_dyAt.f k (wrap64 (a1_0 - (wrap64 (t113 * t118)))) a1_1 24).bind fun bt119 => ((spec_l1Sign.f (wrap64 (bt116.1 - bt119.1))).bind fun t121 => (some t121)))))) else ((spec_l1Sign.f (wrap64 (t112 - t113))).bind fun t114 => (some t114))))
/-! spec_ivGood -/
def spec_ivGood.f (k : Nat) (a0_0 : Int) (a0_1 : Int) (a0_2 : Int) (a0_3 : Int) : Option (Bool) := (spec_dyGood.f a0_0 a0_1).bind fun t123 => (if t123 = true then ((spec_dyGood.f a0_2 a0_3).bind fun t124 => (if t124 = true then ((spec_dyCmp.f k a0_0 a0_1 a0_2 a0_3).bind fun t125 => (some (decide (t125 ≤ 0)))) else (some false))) else (some false))
/-! spec_IsInterval -/
/-! laws_toDyadic -/
def laws_toDyadic.f (a0_0 : Int) (a0_1 : Int) : Option (Int × Int) := some (a0_0, a0_1)
/-! laws_toInterval -/
def laws_toInterval.f (a0_0 : Int) (a0_1 : Int) (a0_2 : Int) (a0_3 : Int) : Option (Int × Int × Int × Int) := (laws_toDyadic.f a0_0 a0_1).bind fun bt134 => ((laws_toDyadic.f a0_2 a0_3).bind fun bt136 => (some (bt134.1, bt134.2, bt136.1, bt136.2)))
/-! impl_wide_isZero -/
def impl_wide_isZero.f (a0_0 : Bool) (a0_1 : Int) (a0_2 : Int) : Option (Bool) := if a0_1 = 0 then (some (a0_2 == 0)) else (some false)
/-! cmp_Or_int -/
def cmp_Or_int.l0 : Nat → Int → List Int → Int → Int → Option (Int)
  | 0, _, _, _, _ => none
  | k + 1, x3, x6, x7, x8 => if x8 < x7 then (if 0 ≤ x8 then (if x8 < (x6.length : Int) then (if (rd x6 x8) = x3 then (cmp_Or_int.l0 k x3 x6 x7 (wrap64 (x8 + 1))) else (some (rd x6 x8))) else (none)) else (none)) else (some x3)
def cmp_Or_int.f (k : Nat) (l0 : List Int) : Option (Int) := cmp_Or_int.l0 k 0 l0 (l0.length : Int) 0
/-! cmp_isNaN_uint64 -/
def cmp_isNaN_uint64.f (a0 : Int) : Option (Bool) := some (a0 != a0)
/-! cmp_Compare_uint64 -/
def cmp_Compare_uint64.f (a0 : Int) (a1 : Int) : Option (Int) := (cmp_isNaN_uint64.f a0).bind fun t140 => ((cmp_isNaN_uint64.f a1).bind fun t141 => (if t140 = true then (if t141 = true then (some 0) else (some (-1))) else (if t141 = true then (some 1) else (if a0 < a1 then (some (-1)) else (if a0 > a1 then (some 1) else (some 0))))))
/-! impl_compareSizes -/
def impl_compareSizes.f (k : Nat) (a0_0 : Bool) (a0_1 : Int) (a0_2 : Int) (a1_0 : Bool) (a1_1 : Int) (a1_2 : Int) : Option (Int) := (cmp_Compare_uint64.f a0_1 a1_1).bind fun t144 => ((cmp_Compare_uint64.f a0_2 a1_2).bind fun t145 => ((cmp_Or_int.f k (([t144, t145] : List Int))).bind fun t149 => (some t149)))
/-! impl_compareWide -/
def impl_compareWide.j0 : Nat → Bool → Bool → Int → Int → Bool → Int → Int → Option (Int)
  | 0, _, _, _, _, _, _, _ => none
  | k + 1, x5, x151000, x151001, x151002, x152000, x152001, x152002 => if x5 = true then (some 0) else (if (x151000 != x152000) = true then (if x151000 = true then (some (-1)) else (some 1)) else (if x151000 = true then ((impl_compareSizes.f k x152000 x152001 x152002 x151000 x151001 x151002).bind fun t154 => (some t154)) else ((impl_compareSizes.f k x151000 x151001 x151002 x152000 x152001 x152002).bind fun t155 => (some t155))))
def impl_compareWide.f (k : Nat) (a0_0 : Bool) (a0_1 : Int) (a0_2 : Int) (a1_0 : Bool) (a1_1 : Int) (a1_2 : Int) : Option (Int) := (impl_wide_isZero.f a0_0 a0_1 a0_2).bind fun t152 => (if t152 = true then ((impl_wide_isZero.f a1_0 a1_1 a1_2).bind fun t153 => (impl_compareWide.j0 k t153 a0_0 a0_1 a0_2 a1_0 a1_1 a1_2)) else (impl_compareWide.j0 k false a0_0 a0_1 a0_2 a1_0 a1_1 a1_2))
/-! impl_size -/
def impl_size.f (a0 : Int) : Option (Int) := if a0 < 0 then (some (IntKind.u64.wrap (wrap64 (-a0)))) else (some (IntKind.u64.wrap (a0)))
/-! impl_wideOf -/
def impl_wideOf.f (a0 : Int) : Option (Bool × Int × Int) := (impl_size.f a0).bind fun t157 => (some (decide (a0 < 0), 0, t157))
/-! impl_wide_shift -/
def impl_wide_shift.f (a0_0 : Bool) (a0_1 : Int) (a0_2 : Int) (a1 : Int) : Option (Bool × Int × Int) := if a1 ≥ 0 then (if a1 ≥ 64 then (if 0 ≤ (wrap64 (a1 - 64)) then (some (a0_0, shl .u64 a0_2 (wrap64 (a1 - 64)), 0)) else (none)) else (if 0 ≤ a1 then (if 0 ≤ (wrap64 (64 - a1)) then (some (a0_0, Go.bits .or .u64 (shl .u64 a0_1 a1) (shr .u64 a0_2 (wrap64 (64 - a1))), shl .u64 a0_2 a1)) else (none)) else (none))) else (if (wrap64 (-a1)) ≥ 64 then (if 0 ≤ (wrap64 ((wrap64 (-a1)) - 64)) then (some (a0_0, 0, shr .u64 a0_1 (wrap64 ((wrap64 (-a1)) - 64)))) else (none)) else (if 0 ≤ (wrap64 (-a1)) then (if 0 ≤ (wrap64 (64 - (wrap64 (-a1)))) then (some (a0_0, shr .u64 a0_1 (wrap64 (-a1)), Go.bits .or .u64 (shr .u64 a0_2 (wrap64 (-a1))) (shl .u64 a0_1 (wrap64 (64 - (wrap64 (-a1))))))) else (none)) else (none)))
/-! impl_compareD -/
def impl_compareD.f (k : Nat) (a0_0 : Int) (a0_1 : Int) (a1_0 : Int) (a1_1 : Int) : Option (Int) := (impl_wideOf.f a0_0).bind fun bt162 => ((impl_wide_shift.f bt162.1 bt162.2.1 bt162.2.2 (wrap64 ((mx a0_1 a1_1) - a0_1))).bind fun bt165 => ((impl_wideOf.f a1_0).bind fun bt168 => ((impl_wide_shift.f bt168.1 bt168.2.1 bt168.2.2 (wrap64 ((mx a0_1 a1_1) - a1_1))).bind fun bt171 => ((impl_compareWide.f k bt165.1 bt165.2.1 bt165.2.2 bt171.1 bt171.2.1 bt171.2.2).bind fun t174 => (some t174)))))
/-! impl_inside -/
def impl_inside.f (a0 : Int) (a1 : Int) (a2 : Int) : Option (Bool) := if a0 ≥ a1 then (some (decide (a0 ≤ a2))) else (some false)
/-! impl_isPlaces -/
def impl_isPlaces.f (a0 : Int) : Option (Bool) := (impl_inside.f a0 0 24).bind fun t175 => (some t175)
/-! impl_isDyadic -/
def impl_isDyadic.f (a0_0 : Int) (a0_1 : Int) : Option (Bool) := (impl_isPlaces.f a0_1).bind fun t177 => (if t177 = true then ((impl_inside.f a0_0 (-1099511627776) 1099511627776).bind fun t178 => (if t178 = true then (if a0_1 = 0 then (some true) else (some ((Int.tmod a0_0 2) != 0))) else (some false))) else (some false))
/-! impl_isInterval -/
def impl_isInterval.f (k : Nat) (a0_0 : Int) (a0_1 : Int) (a0_2 : Int) (a0_3 : Int) : Option (Bool) := (impl_isDyadic.f a0_0 a0_1).bind fun t180 => (if t180 = true then ((impl_isDyadic.f a0_2 a0_3).bind fun t181 => (if t181 = true then ((impl_compareD.f k a0_0 a0_1 a0_2 a0_3).bind fun t182 => (some (decide (t182 ≤ 0)))) else (some false))) else (some false))
/-! impl_IsInterval -/
/-! laws_FnExactIsInterval -/
/-! spec_ivTwo -/
def spec_ivTwo.f (k : Nat) (a0_0 : Int) (a0_1 : Int) (a0_2 : Int) (a0_3 : Int) (a1_0 : Int) (a1_1 : Int) (a1_2 : Int) (a1_3 : Int) : Option (Bool) := (spec_ivGood.f k a0_0 a0_1 a0_2 a0_3).bind fun t198 => (if t198 = true then ((spec_ivGood.f k a1_0 a1_1 a1_2 a1_3).bind fun t199 => (some t199)) else (some false))
/-! spec_ivInside -/
/-! spec_IsWithin -/
/-! impl_IsWithin -/
/-! laws_FnExactIsWithin -/
/-! spec_ivZero -/
def spec_ivZero.f (a0_0 : Int) (a0_1 : Int) (a0_2 : Int) (a0_3 : Int) : Option (Bool) := if a0_0 ≤ 0 then (some (decide (a0_2 ≥ 0))) else (some false)
/-! spec_ivSign -/
/-! spec_SignOf -/
/-! impl_signOf -/
def impl_signOf.f (a0_0 : Int) (a0_1 : Int) (a0_2 : Int) (a0_3 : Int) : Option (Int) := if a0_0 > 0 then (some 1) else (if a0_2 < 0 then (some (-1)) else (some 0))
/-! impl_SignOf -/
/-! laws_FnExactSignOf -/
/-! spec_ivEnds -/
def spec_ivEnds.l0 : Nat → List (S27) → Int → Int → Int → Int → Int → Int → Option (Int × Int × Int × Int)
  | 0, _, _, _, _, _, _, _ => none
  | k + 1, x13, x14, x15, x264000, x264001, x264002, x264003 => if x15 < x14 then (if 0 ≤ x15 then (if x15 < (x13.length : Int) then ((spec_dyCmp.f k ((rd_T27 x13 x15).f0) ((rd_T27 x13 x15).f1) x264000 x264001).bind fun t266 => (if t266 < 0 then ((spec_dyCmp.f k x264002 x264003 ((rd_T27 x13 x15).f0) ((rd_T27 x13 x15).f1)).bind fun t267 => (if t267 < 0 then (spec_ivEnds.l0 k x13 x14 (wrap64 (x15 + 1)) ((rd_T27 x13 x15).f0) ((rd_T27 x13 x15).f1) ((rd_T27 x13 x15).f0) ((rd_T27 x13 x15).f1)) else (spec_ivEnds.l0 k x13 x14 (wrap64 (x15 + 1)) ((rd_T27 x13 x15).f0) ((rd_T27 x13 x15).f1) x264002 x264003))) else ((spec_dyCmp.f k x264002 x264003 ((rd_T27 x13 x15).f0) ((rd_T27 x13 x15).f1)).bind fun t268 => (if t268 < 0 then (spec_ivEnds.l0 k x13 x14 (wrap64 (x15 + 1)) x264000 x264001 ((rd_T27 x13 x15).f0) ((rd_T27 x13 x15).f1)) else (spec_ivEnds.l0 k x13 x14 (wrap64 (x15 + 1)) x264000 x264001 x264002 x264003))))) else (none)) else (none)) else (some (x264000, x264001, x264002, x264003))
def spec_ivEnds.f (k : Nat) (l0 : List (S27)) : Option (Int × Int × Int × Int) := if 0 < (l0.length : Int) then (spec_ivEnds.l0 k l0 (l0.length : Int) 0 ((rd_T27 l0 0).f0) ((rd_T27 l0 0).f1) ((rd_T27 l0 0).f0) ((rd_T27 l0 0).f1)) else (none)
/-! spec_ivHull -/
/-! spec_HullOf -/
/-! impl_lesser -/
/-! impl_greater -/
/-! impl_HullOf -/
/-! laws_eqDyadic -/
def laws_eqDyadic.f (a0_0 : Int) (a0_1 : Int) (a1_0 : Int) (a1_1 : Int) : Option (Bool) := if a0_0 = a1_0 then (if a0_1 = a1_1 then (some true) else (some false)) else (some false)
/-! laws_eqInterval -/
def laws_eqInterval.f (a0_0 : Int) (a0_1 : Int) (a0_2 : Int) (a0_3 : Int) (a1_0 : Int) (a1_1 : Int) (a1_2 : Int) (a1_3 : Int) : Option (Bool) := (laws_eqDyadic.f a0_0 a0_1 a1_0 a1_1).bind fun t308 => (if t308 = true then ((laws_eqDyadic.f a0_2 a0_3 a1_2 a1_3).bind fun t309 => (if t309 = true then (some true) else (some false))) else (some false))
/-! laws_FnExactHullOf -/
/-! spec_ivCommon -/
/-! spec_CommonPart -/
/-! impl_commonPart -/
/-! impl_CommonPart -/
/-! laws_FnExactCommonPart -/
/-! spec_dyMake -/
mutual
def spec_dyMake.j0 : Nat → Int → Int → Bool → Option (Int × Int × Bool)
  | 0, _, _, _ => none
  | k + 1, x0, x1, x12 => if x12 = true then (spec_dyMake.j1 k x0 0) else (spec_dyMake.j1 k x0 x1)
def spec_dyMake.j1 : Nat → Int → Int → Option (Int × Int × Bool)
  | 0, _, _ => none
  | k + 1, x0, x1 => spec_dyMake.l0 k x0 x1
def spec_dyMake.l0 : Nat → Int → Int → Option (Int × Int × Bool)
  | 0, _, _ => none
  | k + 1, x0, x1 => if x1 > 0 then (if (Int.tmod x0 2) = 0 then (spec_dyMake.l0 k (wrap64 (Int.tdiv x0 2)) (wrap64 (x1 - 1))) else ((spec_dyGood.f x0 x1).bind fun t421 => (if t421 = true then (some (x0, x1, true)) else (some (0, 0, false))))) else ((spec_dyGood.f x0 x1).bind fun t423 => (if t423 = true then (some (x0, x1, true)) else (some (0, 0, false))))
end
def spec_dyMake.f (k : Nat) (a0 : Int) (a1 : Int) : Option (Int × Int × Bool) := if a0 = 0 then (spec_dyMake.j0 k a0 a1 (decide (a1 > 0))) else (spec_dyMake.j0 k a0 a1 false)
/-! spec_dyRound -/
/-! spec_dyMinus -/
def spec_dyMinus.f (a0_0 : Int) (a0_1 : Int) : Option (Int × Int) := some (wrap64 (-a0_0), a0_1)
/-! spec_ivUp -/
/-! spec_ivRound -/
/-! spec_RoundOut -/
/-! impl_minus -/
def impl_minus.f (a0_0 : Int) (a0_1 : Int) : Option (Int × Int) := some (wrap64 (-a0_0), a0_1)
/-! impl_wide_fit -/
mutual
def impl_wide_fit.j1 : Nat → Int → Bool → Int → Int → Option (Int × Int × Bool)
  | 0, _, _, _, _ => none
  | k + 1, x1, x459000, x459001, x459002 => if x1 > 24 then (impl_wide_fit.j2 k x1 true x459000 x459001 x459002) else (if x459001 > 0 then (impl_wide_fit.j2 k x1 true x459000 x459001 x459002) else (impl_wide_fit.j2 k x1 (decide (x459002 > 1099511627776)) x459000 x459001 x459002))
def impl_wide_fit.j2 : Nat → Int → Bool → Bool → Int → Int → Option (Int × Int × Bool)
  | 0, _, _, _, _, _ => none
  | k + 1, x1, x33, x459000, x459001, x459002 => if x33 = true then (some (0, 0, false)) else (if x459000 = true then (some (wrap64 (-(wrap64 (x459002))), x1, true)) else (some (wrap64 (x459002), x1, true)))
def impl_wide_fit.l0 : Nat → Int → Bool → Int → Int → Option (Int × Int × Bool)
  | 0, _, _, _, _ => none
  | k + 1, x1, x459000, x459001, x459002 => if x1 > 0 then (if (Int.tmod x459002 2) = 0 then ((impl_wide_shift.f x459000 x459001 x459002 (-1)).bind fun bt461 => (impl_wide_fit.l0 k (wrap64 (x1 - 1)) bt461.1 bt461.2.1 bt461.2.2)) else (impl_wide_fit.j1 k x1 x459000 x459001 x459002)) else (impl_wide_fit.j1 k x1 x459000 x459001 x459002)
end
def impl_wide_fit.f (k : Nat) (a0_0 : Bool) (a0_1 : Int) (a0_2 : Int) (a1 : Int) : Option (Int × Int × Bool) := (impl_wide_isZero.f a0_0 a0_1 a0_2).bind fun t460 => (if t460 = true then (some (0, 0, true)) else (impl_wide_fit.l0 k a1 a0_0 a0_1 a0_2))
/-! impl_roundDown -/
/-! impl_roundOut -/
/-! impl_RoundOut -/
/-! laws_FnExactRoundOut -/
/-! spec_l1Most -/
def spec_l1Most.f (a0 : Int) (a1 : Int) : Option (Int) := if a0 > a1 then (some a0) else (some a1)
/-! spec_dyAdd -/
/-! spec_dySub -/
/-! spec_WidthOf -/
/-! bits_Add64 -/
-- HAND rounds=0 making=0 extern
/-- The model's stand-in for bits.Add64, as a function of numbers. -/
def bits_Add64.f (a0 : Int) (a1 : Int) (a2 : Int) : Option (Int × Int) := if a2 = 0 then some ((((a0.toNat + a1.toNat) % 18446744073709551616 : Nat) : Int), (((a0.toNat + a1.toNat) / 18446744073709551616 : Nat) : Int)) else if a2 = 1 then some ((((a0.toNat + a1.toNat + 1) % 18446744073709551616 : Nat) : Int), (((a0.toNat + a1.toNat + 1) / 18446744073709551616 : Nat) : Int)) else none
/-! bits_Sub64 -/
-- HAND rounds=0 making=0 extern
/-- The model's stand-in for bits.Sub64, as a function of numbers. -/
def bits_Sub64.f (a0 : Int) (a1 : Int) (a2 : Int) : Option (Int × Int) := if a2 = 0 then some ((((a0.toNat + 18446744073709551616 - a1.toNat - 0) % 18446744073709551616 : Nat) : Int), ((if a0.toNat < a1.toNat + 0 then 1 else 0 : Nat) : Int)) else if a2 = 1 then some ((((a0.toNat + 18446744073709551616 - a1.toNat - 1) % 18446744073709551616 : Nat) : Int), ((if a0.toNat < a1.toNat + 1 then 1 else 0 : Nat) : Int)) else none
/-! impl_wide_add -/
def impl_wide_add.f (k : Nat) (a0_0 : Bool) (a0_1 : Int) (a0_2 : Int) (a1_0 : Bool) (a1_1 : Int) (a1_2 : Int) : Option (Bool × Int × Int) := if (a0_0 == a1_0) = true then ((bits_Add64.f a0_2 a1_2 0).bind fun bt541 => ((bits_Add64.f a0_1 a1_1 bt541.2).bind fun bt543 => (some (a0_0, bt543.1, bt541.1)))) else ((impl_compareSizes.f k a0_0 a0_1 a0_2 a1_0 a1_1 a1_2).bind fun t545 => (if t545 < 0 then ((bits_Sub64.f a1_2 a0_2 0).bind fun bt546 => ((bits_Sub64.f a1_1 a0_1 bt546.2).bind fun bt548 => (some (a1_0, bt548.1, bt546.1)))) else ((bits_Sub64.f a0_2 a1_2 0).bind fun bt550 => ((bits_Sub64.f a0_1 a1_1 bt550.2).bind fun bt552 => (some (a0_0, bt552.1, bt550.1))))))
/-! impl_sumOf -/
/-! impl_WidthOf -/
/-! laws_FnExactWidthOf -/
/-! spec_ivBoth -/
/-! spec_ivAdd -/
/-! spec_AddIntervals -/
/-! impl_reckoner_result -/
/-! impl_reckoner_keep -/
/-! impl_reckoner_sum -/
/-! impl_reckoner_add -/
/-! impl_AddIntervals -/
/-! laws_FnExactAddIntervals -/
/-! spec_ivMinus -/
/-! spec_ivSub -/
/-! spec_SubtractIntervals -/
/-! impl_reckoner_subtract -/
/-! impl_SubtractIntervals -/
/-! laws_FnExactSubtractIntervals -/
/-! spec_l1Abs -/
def spec_l1Abs.f (a0 : Int) : Option (Int) := (spec_l1Most.f a0 (wrap64 (-a0))).bind fun t787 => (some t787)
/-! spec_dyMul -/
/-! spec_ivMul -/
/-! spec_MultiplyIntervals -/
/-! bits_Mul64 -/
/-! impl_timesWide -/
/-! impl_productOf -/
/-! impl_reckoner_product -/
/-! impl_reckoner_multiply -/
/-! impl_MultiplyIntervals -/
/-! laws_FnExactMultiplyIntervals -/
/-! spec_dyInt -/
/-! spec_ivRaise -/
/-! spec_ivPower -/
/-! spec_PowerOfInterval -/
/-! impl_single -/
/-! impl_integer -/
/-! impl_reckoner_power -/
/-! impl_PowerOfInterval -/
/-! laws_FnExactPowerOfInterval -/
/-! spec_dyDigits -/
mutual
def spec_dyDigits.l0 : Nat → Int → Int → Int → Int → Int → Int → Int → Option (Int × Int × Bool)
  | 0, _, _, _, _, _, _, _ => none
  | k + 1, x0, x1, x2, x3, x4, x12, x13 => if x13 < x3 then (if (wrap64 (x1 * 2)) ≥ x2 then (spec_dyDigits.l0 k x0 (wrap64 ((wrap64 (x1 * 2)) - x2)) x2 x3 x4 (wrap64 ((wrap64 (x12 * 2)) + 1)) (wrap64 (x13 + 1))) else (spec_dyDigits.l0 k x0 (wrap64 (x1 * 2)) x2 x3 x4 (wrap64 (x12 * 2)) (wrap64 (x13 + 1)))) else (spec_dyDigits.l1 k x0 x3 x4 x12)
def spec_dyDigits.j2 : Nat → Int → Int → Int → Int → Option (Int × Int × Bool)
  | 0, _, _, _, _ => none
  | k + 1, x0, x3, x4, x12 => (spec_l1Abs.f x0).bind fun t1070 => ((spec_dyPower.f (wrap64 (62 - x3))).bind fun t1071 => (if t1070 > t1071 then (some (0, 0, false)) else ((spec_dyPower.f x3).bind fun t1072 => ((spec_dyMake.f k (wrap64 ((wrap64 (x0 * t1072)) + x12)) x4).bind fun bt1073 => (some (bt1073.1, bt1073.2.1, bt1073.2.2))))))
def spec_dyDigits.l1 : Nat → Int → Int → Int → Int → Option (Int × Int × Bool)
  | 0, _, _, _, _ => none
  | k + 1, x0, x3, x4, x12 => if x4 > 0 then (if x3 > 0 then (if (Int.tmod x12 2) = 0 then (spec_dyDigits.l1 k x0 (wrap64 (x3 - 1)) (wrap64 (x4 - 1)) (wrap64 (Int.tdiv x12 2))) else (spec_dyDigits.j2 k x0 x3 x4 x12)) else (spec_dyDigits.j2 k x0 x3 x4 x12)) else (spec_dyDigits.j2 k x0 x3 x4 x12)
end
def spec_dyDigits.f (k : Nat) (a0 : Int) (a1 : Int) (a2 : Int) (a3 : Int) (a4 : Int) : Option (Int × Int × Bool) := spec_dyDigits.l0 k a0 a1 a2 a3 a4 0 0
/-! spec_dyDivide -/
def spec_dyDivide.j0 : Nat → Int → Int → Int → Int → Int → Option (Int × Int × Bool)
  | 0, _, _, _, _, _ => none
  | k + 1, x2, x1077000, x1077001, x1078000, x1078001 => (spec_dyDown.f x1077000 x1078000).bind fun t1083 => (if (wrap64 ((wrap64 (x1078001 + x2)) - x1077001)) < 0 then ((spec_dyPower.f (wrap64 (-(wrap64 ((wrap64 (x1078001 + x2)) - x1077001))))).bind fun t1084 => ((spec_dyDown.f t1083 t1084).bind fun t1085 => ((spec_dyMake.f k t1085 x2).bind fun bt1086 => (some (bt1086.1, bt1086.2.1, bt1086.2.2))))) else ((spec_dyDigits.f k t1083 (wrap64 (x1077000 - (wrap64 (t1083 * x1078000)))) x1078000 (wrap64 ((wrap64 (x1078001 + x2)) - x1077001)) x2).bind fun bt1089 => (some (bt1089.1, bt1089.2.1, bt1089.2.2))))
def spec_dyDivide.f (k : Nat) (a0_0 : Int) (a0_1 : Int) (a1_0 : Int) (a1_1 : Int) (a2 : Int) : Option (Int × Int × Bool) := if a1_0 = 0 then (some (0, 0, false)) else (if a1_0 < 0 then ((spec_dyMinus.f a0_0 a0_1).bind fun bt1079 => ((spec_dyMinus.f a1_0 a1_1).bind fun bt1081 => (spec_dyDivide.j0 k a2 bt1079.1 bt1079.2 bt1081.1 bt1081.2))) else (spec_dyDivide.j0 k a2 a0_0 a0_1 a1_0 a1_1))
/-! spec_ivDiv -/
mutual
def spec_ivDiv.l0 : Nat → List (S27) → List (S27) → List (S27) → Int → Int → Int → Int → Int → Int → Option (Int × Int × Int × Int × Bool)
  | 0, _, _, _, _, _, _, _, _, _ => none
  | k + 1, x6, x7, x20, x21, x22, x1094000, x1094001, x1094002, x1094003 => if x22 < x21 then (if 0 ≤ x22 then (if x22 < (x20.length : Int) then ((some (([(⟨x1094000, x1094001⟩ : S27), (⟨x1094002, x1094003⟩ : S27)] : List (S27)) : List (S27))).bind fun y1108 => (spec_ivDiv.l1 k x6 x7 x20 x21 x22 y1108 (y1108.length : Int) 0 x1094000 x1094001 x1094002 x1094003 ((rd_T27 x20 x22).f0) ((rd_T27 x20 x22).f1))) else (none)) else (none)) else ((spec_ivEnds.f k x6).bind fun bt1098 => ((spec_ivEnds.f k x7).bind fun bt1102 => (some (bt1098.1, bt1098.2.1, bt1102.2.2.1, bt1102.2.2.2, true))))
def spec_ivDiv.l1 : Nat → List (S27) → List (S27) → List (S27) → Int → Int → List (S27) → Int → Int → Int → Int → Int → Int → Int → Int → Option (Int × Int × Int × Int × Bool)
  | 0, _, _, _, _, _, _, _, _, _, _, _, _, _, _ => none
  | k + 1, x6, x7, x20, x21, x22, x30, x31, x32, x1094000, x1094001, x1094002, x1094003, x1108000, x1108001 => if x32 < x31 then (if 0 ≤ x32 then (if x32 < (x30.length : Int) then ((spec_dyDivide.f k x1108000 x1108001 ((rd_T27 x30 x32).f0) ((rd_T27 x30 x32).f1) 16).bind fun bt1113 => ((spec_dyMinus.f x1108000 x1108001).bind fun bt1117 => ((spec_dyDivide.f k bt1117.1 bt1117.2 ((rd_T27 x30 x32).f0) ((rd_T27 x30 x32).f1) 16).bind fun bt1119 => (if bt1113.2.2 = true then (if bt1119.2.2 = true then (if x6.length < 8796093022208 then ((spec_dyMinus.f bt1119.1 bt1119.2.1).bind fun bt1126 => (if x7.length < 8796093022208 then (spec_ivDiv.l1 k (x6 ++ [(⟨bt1113.1, bt1113.2.1⟩ : S27)]) (x7 ++ [(⟨bt1126.1, bt1126.2⟩ : S27)]) x20 x21 x22 x30 x31 (wrap64 (x32 + 1)) x1094000 x1094001 x1094002 x1094003 x1108000 x1108001) else (none))) else (none)) else (some (0, 0, 0, 0, false))) else (some (0, 0, 0, 0, false)))))) else (none)) else (none)) else (spec_ivDiv.l0 k x6 x7 x20 x21 (wrap64 (x22 + 1)) x1094000 x1094001 x1094002 x1094003)
end
def spec_ivDiv.f (k : Nat) (a0_0 : Int) (a0_1 : Int) (a0_2 : Int) (a0_3 : Int) (a1_0 : Int) (a1_1 : Int) (a1_2 : Int) (a1_3 : Int) : Option (Int × Int × Int × Int × Bool) := (some (([(⟨a0_0, a0_1⟩ : S27), (⟨a0_2, a0_3⟩ : S27)] : List (S27)) : List (S27))).bind fun y1095 => (spec_ivDiv.l0 k ([] : List (S27)) ([] : List (S27)) y1095 (y1095.length : Int) 0 a1_0 a1_1 a1_2 a1_3)
/-! spec_DivideIntervals -/
def spec_DivideIntervals.f (k : Nat) (a0_0 : Int) (a0_1 : Int) (a0_2 : Int) (a0_3 : Int) (a1_0 : Int) (a1_1 : Int) (a1_2 : Int) (a1_3 : Int) : Option (Int × Int × Int × Int × Bool) := (spec_ivTwo.f k a0_0 a0_1 a0_2 a0_3 a1_0 a1_1 a1_2 a1_3).bind fun t1134 => (if t1134 = true then ((spec_ivZero.f a1_0 a1_1 a1_2 a1_3).bind fun t1135 => (if t1135 = true then (some (0, 0, 0, 0, false)) else ((spec_ivDiv.f k a0_0 a0_1 a0_2 a0_3 a1_0 a1_1 a1_2 a1_3).bind fun bt1136 => (some (bt1136.1, bt1136.2.1, bt1136.2.2.1, bt1136.2.2.2.1, bt1136.2.2.2.2))))) else (some (0, 0, 0, 0, false)))
/-! bits_Len64 -/
def bits_Len64.j0 : Nat → Int → Int → Option (Int)
  | 0, _, _ => none
  | k + 1, x0, x2 => if x0 ≥ 65536 then (if (x0 / 65536) ≥ 256 then (if 0 ≤ (((x0 / 65536) / 256) % 256) then (if (((x0 / 65536) / 256) % 256) < 256 then (some (wrap64 ((wrap64 ((wrap64 (x2 + 16)) + 8)) + (wrap64 (bt (⟨#[0, 1, 2, 2, 3, 3, 3, 3, 4, 4, 4, 4, 4, 4, 4, 4, 5, 5, 5, 5, 5, 5, 5, 5, 5, 5, 5, 5, 5, 5, 5, 5, 6, 6, 6, 6, 6, 6, 6, 6, 6, 6, 6, 6, 6, 6, 6, 6, 6, 6, 6, 6, 6, 6, 6, 6, 6, 6, 6, 6, 6, 6, 6, 6, 7, 7, 7, 7, 7, 7, 7, 7, 7, 7, 7, 7, 7, 7, 7, 7, 7, 7, 7, 7, 7, 7, 7, 7, 7, 7, 7, 7, 7, 7, 7, 7, 7, 7, 7, 7, 7, 7, 7, 7, 7, 7, 7, 7, 7, 7, 7, 7, 7, 7, 7, 7, 7, 7, 7, 7, 7, 7, 7, 7, 7, 7, 7, 7, 8, 8, 8, 8, 8, 8, 8, 8, 8, 8, 8, 8, 8, 8, 8, 8, 8, 8, 8, 8, 8, 8, 8, 8, 8, 8, 8, 8, 8, 8, 8, 8, 8, 8, 8, 8, 8, 8, 8, 8, 8, 8, 8, 8, 8, 8, 8, 8, 8, 8, 8, 8, 8, 8, 8, 8, 8, 8, 8, 8, 8, 8, 8, 8, 8, 8, 8, 8, 8, 8, 8, 8, 8, 8, 8, 8, 8, 8, 8, 8, 8, 8, 8, 8, 8, 8, 8, 8, 8, 8, 8, 8, 8, 8, 8, 8, 8, 8, 8, 8, 8, 8, 8, 8, 8, 8, 8, 8, 8, 8, 8, 8, 8, 8, 8, 8, 8, 8, 8, 8, 8, 8, 8, 8, 8, 8, 8, 8]⟩ : ByteArray) (((x0 / 65536) / 256) % 256)))))) else (none)) else (none)) else (if 0 ≤ ((x0 / 65536) % 256) then (if ((x0 / 65536) % 256) < 256 then (some (wrap64 ((wrap64 (x2 + 16)) + (wrap64 (bt (⟨#[0, 1, 2, 2, 3, 3, 3, 3, 4, 4, 4, 4, 4, 4, 4, 4, 5, 5, 5, 5, 5, 5, 5, 5, 5, 5, 5, 5, 5, 5, 5, 5, 6, 6, 6, 6, 6, 6, 6, 6, 6, 6, 6, 6, 6, 6, 6, 6, 6, 6, 6, 6, 6, 6, 6, 6, 6, 6, 6, 6, 6, 6, 6, 6, 7, 7, 7, 7, 7, 7, 7, 7, 7, 7, 7, 7, 7, 7, 7, 7, 7, 7, 7, 7, 7, 7, 7, 7, 7, 7, 7, 7, 7, 7, 7, 7, 7, 7, 7, 7, 7, 7, 7, 7, 7, 7, 7, 7, 7, 7, 7, 7, 7, 7, 7, 7, 7, 7, 7, 7, 7, 7, 7, 7, 7, 7, 7, 7, 8, 8, 8, 8, 8, 8, 8, 8, 8, 8, 8, 8, 8, 8, 8, 8, 8, 8, 8, 8, 8, 8, 8, 8, 8, 8, 8, 8, 8, 8, 8, 8, 8, 8, 8, 8, 8, 8, 8, 8, 8, 8, 8, 8, 8, 8, 8, 8, 8, 8, 8, 8, 8, 8, 8, 8, 8, 8, 8, 8, 8, 8, 8, 8, 8, 8, 8, 8, 8, 8, 8, 8, 8, 8, 8, 8, 8, 8, 8, 8, 8, 8, 8, 8, 8, 8, 8, 8, 8, 8, 8, 8, 8, 8, 8, 8, 8, 8, 8, 8, 8, 8, 8, 8, 8, 8, 8, 8, 8, 8, 8, 8, 8, 8, 8, 8, 8, 8, 8, 8, 8, 8, 8, 8, 8, 8, 8, 8]⟩ : ByteArray) ((x0 / 65536) % 256)))))) else (none)) else (none))) else (if x0 ≥ 256 then (if 0 ≤ ((x0 / 256) % 256) then (if ((x0 / 256) % 256) < 256 then (some (wrap64 ((wrap64 (x2 + 8)) + (wrap64 (bt (⟨#[0, 1, 2, 2, 3, 3, 3, 3, 4, 4, 4, 4, 4, 4, 4, 4, 5, 5, 5, 5, 5, 5, 5, 5, 5, 5, 5, 5, 5, 5, 5, 5, 6, 6, 6, 6, 6, 6, 6, 6, 6, 6, 6, 6, 6, 6, 6, 6, 6, 6, 6, 6, 6, 6, 6, 6, 6, 6, 6, 6, 6, 6, 6, 6, 7, 7, 7, 7, 7, 7, 7, 7, 7, 7, 7, 7, 7, 7, 7, 7, 7, 7, 7, 7, 7, 7, 7, 7, 7, 7, 7, 7, 7, 7, 7, 7, 7, 7, 7, 7, 7, 7, 7, 7, 7, 7, 7, 7, 7, 7, 7, 7, 7, 7, 7, 7, 7, 7, 7, 7, 7, 7, 7, 7, 7, 7, 7, 7, 8, 8, 8, 8, 8, 8, 8, 8, 8, 8, 8, 8, 8, 8, 8, 8, 8, 8, 8, 8, 8, 8, 8, 8, 8, 8, 8, 8, 8, 8, 8, 8, 8, 8, 8, 8, 8, 8, 8, 8, 8, 8, 8, 8, 8, 8, 8, 8, 8, 8, 8, 8, 8, 8, 8, 8, 8, 8, 8, 8, 8, 8, 8, 8, 8, 8, 8, 8, 8, 8, 8, 8, 8, 8, 8, 8, 8, 8, 8, 8, 8, 8, 8, 8, 8, 8, 8, 8, 8, 8, 8, 8, 8, 8, 8, 8, 8, 8, 8, 8, 8, 8, 8, 8, 8, 8, 8, 8, 8, 8, 8, 8, 8, 8, 8, 8, 8, 8, 8, 8, 8, 8, 8, 8, 8, 8, 8, 8]⟩ : ByteArray) ((x0 / 256) % 256)))))) else (none)) else (none)) else (if 0 ≤ ((x0) % 256) then (if ((x0) % 256) < 256 then (some (wrap64 (x2 + (wrap64 (bt (⟨#[0, 1, 2, 2, 3, 3, 3, 3, 4, 4, 4, 4, 4, 4, 4, 4, 5, 5, 5, 5, 5, 5, 5, 5, 5, 5, 5, 5, 5, 5, 5, 5, 6, 6, 6, 6, 6, 6, 6, 6, 6, 6, 6, 6, 6, 6, 6, 6, 6, 6, 6, 6, 6, 6, 6, 6, 6, 6, 6, 6, 6, 6, 6, 6, 7, 7, 7, 7, 7, 7, 7, 7, 7, 7, 7, 7, 7, 7, 7, 7, 7, 7, 7, 7, 7, 7, 7, 7, 7, 7, 7, 7, 7, 7, 7, 7, 7, 7, 7, 7, 7, 7, 7, 7, 7, 7, 7, 7, 7, 7, 7, 7, 7, 7, 7, 7, 7, 7, 7, 7, 7, 7, 7, 7, 7, 7, 7, 7, 8, 8, 8, 8, 8, 8, 8, 8, 8, 8, 8, 8, 8, 8, 8, 8, 8, 8, 8, 8, 8, 8, 8, 8, 8, 8, 8, 8, 8, 8, 8, 8, 8, 8, 8, 8, 8, 8, 8, 8, 8, 8, 8, 8, 8, 8, 8, 8, 8, 8, 8, 8, 8, 8, 8, 8, 8, 8, 8, 8, 8, 8, 8, 8, 8, 8, 8, 8, 8, 8, 8, 8, 8, 8, 8, 8, 8, 8, 8, 8, 8, 8, 8, 8, 8, 8, 8, 8, 8, 8, 8, 8, 8, 8, 8, 8, 8, 8, 8, 8, 8, 8, 8, 8, 8, 8, 8, 8, 8, 8, 8, 8, 8, 8, 8, 8, 8, 8, 8, 8, 8, 8, 8, 8, 8, 8, 8, 8]⟩ : ByteArray) ((x0) % 256)))))) else (none)) else (none)))
def bits_Len64.f (k : Nat) (a0 : Int) : Option (Int) := if a0 ≥ 4294967296 then (bits_Len64.j0 k (a0 / 4294967296) 32) else (bits_Len64.j0 k a0 0)
/-! bits_LeadingZeros64 -/
def bits_LeadingZeros64.f (k : Nat) (a0 : Int) : Option (Int) := (bits_Len64.f k a0).bind fun t1141 => (some (wrap64 (64 - t1141)))
/-! bits_Div64 -/
mutual
def bits_Div64.j2 : Nat → Int → Int → Int → Int → Int → Int → Int → Int → Option (Int × Int)
  | 0, _, _, _, _, _, _, _, _ => none
  | k + 1, x2, x8, x9, x10, x11, x13, x14, x15 => if x9 = 0 then (none) else (bits_Div64.l1 k x2 x8 x9 x10 x14 x15 (IntKind.u64.wrap ((IntKind.u64.wrap ((IntKind.u64.wrap ((IntKind.u64.wrap (x11 * 4294967296)) + x13)) - (IntKind.u64.wrap (x15 * x2)))) - (IntKind.u64.wrap ((IntKind.u64.wrap (Int.tdiv (IntKind.u64.wrap ((IntKind.u64.wrap ((IntKind.u64.wrap (x11 * 4294967296)) + x13)) - (IntKind.u64.wrap (x15 * x2)))) x9)) * x9)))) (IntKind.u64.wrap ((IntKind.u64.wrap ((IntKind.u64.wrap (x11 * 4294967296)) + x13)) - (IntKind.u64.wrap (x15 * x2)))) (IntKind.u64.wrap (Int.tdiv (IntKind.u64.wrap ((IntKind.u64.wrap ((IntKind.u64.wrap (x11 * 4294967296)) + x13)) - (IntKind.u64.wrap (x15 * x2)))) x9)))
def bits_Div64.l1 : Nat → Int → Int → Int → Int → Int → Int → Int → Int → Int → Option (Int × Int)
  | 0, _, _, _, _, _, _, _, _, _ => none
  | k + 1, x2, x8, x9, x10, x14, x15, x16, x17, x18 => if x18 ≥ 4294967296 then (bits_Div64.j4 k x2 x8 x9 x10 x14 x15 x16 x17 x18 true) else (bits_Div64.j4 k x2 x8 x9 x10 x14 x15 x16 x17 x18 (decide ((IntKind.u64.wrap (x18 * x10)) > (IntKind.u64.wrap ((IntKind.u64.wrap (4294967296 * x16)) + x14)))))
def bits_Div64.j4 : Nat → Int → Int → Int → Int → Int → Int → Int → Int → Int → Bool → Option (Int × Int)
  | 0, _, _, _, _, _, _, _, _, _, _ => none
  | k + 1, x2, x8, x9, x10, x14, x15, x16, x17, x18, x113 => if x113 = true then (if (IntKind.u64.wrap (x16 + x9)) ≥ 4294967296 then (if 0 ≤ x8 then (some (IntKind.u64.wrap ((IntKind.u64.wrap (x15 * 4294967296)) + (IntKind.u64.wrap (x18 - 1))), shr .u64 (IntKind.u64.wrap ((IntKind.u64.wrap ((IntKind.u64.wrap (x17 * 4294967296)) + x14)) - (IntKind.u64.wrap ((IntKind.u64.wrap (x18 - 1)) * x2)))) x8)) else (none)) else (bits_Div64.l1 k x2 x8 x9 x10 x14 x15 (IntKind.u64.wrap (x16 + x9)) x17 (IntKind.u64.wrap (x18 - 1)))) else (if 0 ≤ x8 then (some (IntKind.u64.wrap ((IntKind.u64.wrap (x15 * 4294967296)) + x18), shr .u64 (IntKind.u64.wrap ((IntKind.u64.wrap ((IntKind.u64.wrap (x17 * 4294967296)) + x14)) - (IntKind.u64.wrap (x18 * x2)))) x8)) else (none))
def bits_Div64.l0 : Nat → Int → Int → Int → Int → Int → Int → Int → Int → Int → Option (Int × Int)
  | 0, _, _, _, _, _, _, _, _, _ => none
  | k + 1, x2, x8, x9, x10, x11, x13, x14, x15, x16 => if x15 ≥ 4294967296 then (bits_Div64.j1 k x2 x8 x9 x10 x11 x13 x14 x15 x16 true) else (bits_Div64.j1 k x2 x8 x9 x10 x11 x13 x14 x15 x16 (decide ((IntKind.u64.wrap (x15 * x10)) > (IntKind.u64.wrap ((IntKind.u64.wrap (4294967296 * x16)) + x13)))))
def bits_Div64.j1 : Nat → Int → Int → Int → Int → Int → Int → Int → Int → Int → Bool → Option (Int × Int)
  | 0, _, _, _, _, _, _, _, _, _, _ => none
  | k + 1, x2, x8, x9, x10, x11, x13, x14, x15, x16, x78 => if x78 = true then (if (IntKind.u64.wrap (x16 + x9)) ≥ 4294967296 then (bits_Div64.j2 k x2 x8 x9 x10 x11 x13 x14 (IntKind.u64.wrap (x15 - 1))) else (bits_Div64.l0 k x2 x8 x9 x10 x11 x13 x14 (IntKind.u64.wrap (x15 - 1)) (IntKind.u64.wrap (x16 + x9)))) else (bits_Div64.j2 k x2 x8 x9 x10 x11 x13 x14 x15)
end
def bits_Div64.f (k : Nat) (a0 : Int) (a1 : Int) (a2 : Int) : Option (Int × Int) := if a2 = 0 then (none) else (if a2 ≤ a0 then (none) else (if a0 = 0 then (some (IntKind.u64.wrap (Int.tdiv a1 a2), Int.tmod a1 a2)) else ((bits_LeadingZeros64.f k a2).bind fun t1142 => (if 0 ≤ (IntKind.u64.wrap (t1142)) then (if 0 ≤ (IntKind.u64.wrap (64 - (IntKind.u64.wrap (t1142)))) then (if ((shl .u64 a2 (IntKind.u64.wrap (t1142))) / 4294967296) = 0 then (none) else (bits_Div64.l0 k (shl .u64 a2 (IntKind.u64.wrap (t1142))) (IntKind.u64.wrap (t1142)) ((shl .u64 a2 (IntKind.u64.wrap (t1142))) / 4294967296) (Go.bits .and .u64 (shl .u64 a2 (IntKind.u64.wrap (t1142))) 4294967295) (Go.bits .or .u64 (shl .u64 a0 (IntKind.u64.wrap (t1142))) (shr .u64 a1 (IntKind.u64.wrap (64 - (IntKind.u64.wrap (t1142)))))) ((shl .u64 a1 (IntKind.u64.wrap (t1142))) / 4294967296) (Go.bits .and .u64 (shl .u64 a1 (IntKind.u64.wrap (t1142))) 4294967295) (IntKind.u64.wrap (Int.tdiv (Go.bits .or .u64 (shl .u64 a0 (IntKind.u64.wrap (t1142))) (shr .u64 a1 (IntKind.u64.wrap (64 - (IntKind.u64.wrap (t1142)))))) ((shl .u64 a2 (IntKind.u64.wrap (t1142))) / 4294967296))) (IntKind.u64.wrap ((Go.bits .or .u64 (shl .u64 a0 (IntKind.u64.wrap (t1142))) (shr .u64 a1 (IntKind.u64.wrap (64 - (IntKind.u64.wrap (t1142)))))) - (IntKind.u64.wrap ((IntKind.u64.wrap (Int.tdiv (Go.bits .or .u64 (shl .u64 a0 (IntKind.u64.wrap (t1142))) (shr .u64 a1 (IntKind.u64.wrap (64 - (IntKind.u64.wrap (t1142)))))) ((shl .u64 a2 (IntKind.u64.wrap (t1142))) / 4294967296))) * ((shl .u64 a2 (IntKind.u64.wrap (t1142))) / 4294967296))))))) else (none)) else (none)))))
/-! impl_quotientDown -/
mutual
def impl_quotientDown.j0 : Nat → Int → Bool → Bool → Int → Int → Bool → Int → Int → Option (Int × Int × Bool)
  | 0, _, _, _, _, _, _, _, _ => none
  | k + 1, x3, x17, x1151000, x1151001, x1151002, x1162000, x1162001, x1162002 => if x1151000 = true then (impl_quotientDown.j1 k x3 (!x17) x1162000 x1162001 x1162002) else (impl_quotientDown.j1 k x3 false x1162000 x1162001 x1162002)
def impl_quotientDown.j1 : Nat → Int → Bool → Bool → Int → Int → Option (Int × Int × Bool)
  | 0, _, _, _, _, _ => none
  | k + 1, x3, x78, x1162000, x1162001, x1162002 => if x78 = true then ((impl_wideOf.f (-1)).bind fun bt1166 => ((impl_wide_add.f k x1162000 x1162001 x1162002 bt1166.1 bt1166.2.1 bt1166.2.2).bind fun bt1169 => ((impl_wide_fit.f k true bt1169.2.1 bt1169.2.2 x3).bind fun bt1172 => (some (bt1172.1, bt1172.2.1, bt1172.2.2))))) else ((impl_wide_fit.f k x1162000 x1162001 x1162002 x3).bind fun bt1175 => (some (bt1175.1, bt1175.2.1, bt1175.2.2)))
end
def impl_quotientDown.f (k : Nat) (a0 : Int) (a1 : Int) (a2 : Int) (a3 : Int) : Option (Int × Int × Bool) := (impl_wideOf.f a0).bind fun bt1144 => ((impl_wide_shift.f bt1144.1 bt1144.2.1 bt1144.2.2 (mx (wrap64 (a1 + a3)) 0)).bind fun bt1147 => ((impl_size.f a2).bind fun t1151 => ((bits_Div64.f k 0 bt1147.2.1 t1151).bind fun bt1152 => ((impl_size.f a2).bind fun t1154 => ((bits_Div64.f k bt1152.2 bt1147.2.2 t1154).bind fun bt1155 => ((impl_wide_shift.f (!(decide (a0 < 0)) == (decide (a2 < 0))) bt1152.1 bt1155.1 (mn (wrap64 (a1 + a3)) 0)).bind fun bt1158 => (if bt1155.2 = 0 then ((impl_wide_shift.f bt1158.1 bt1158.2.1 bt1158.2.2 (mx (wrap64 ((wrap64 (-a1)) - a3)) 0)).bind fun bt1162 => ((impl_compareSizes.f k bt1162.1 bt1162.2.1 bt1162.2.2 (!(decide (a0 < 0)) == (decide (a2 < 0))) bt1152.1 bt1155.1).bind fun t1165 => (impl_quotientDown.j0 k a3 (t1165 == 0) (!(decide (a0 < 0)) == (decide (a2 < 0))) bt1147.2.1 bt1147.2.2 bt1158.1 bt1158.2.1 bt1158.2.2))) else (impl_quotientDown.j0 k a3 false (!(decide (a0 < 0)) == (decide (a2 < 0))) bt1147.2.1 bt1147.2.2 bt1158.1 bt1158.2.1 bt1158.2.2))))))))
/-! impl_leastQuotient -/
mutual
def impl_leastQuotient.l0 : Nat → Bool → List (S27) → Int → Int → Int → Int → Int → Int → Int → Int → Option (Int × Int × Bool)
  | 0, _, _, _, _, _, _, _, _, _, _ => none
  | k + 1, x7, x19, x20, x21, x1180000, x1180001, x1180002, x1180003, x1182000, x1182001 => if x21 < x20 then (if 0 ≤ x21 then (if x21 < (x19.length : Int) then ((some (([(⟨x1180000, x1180001⟩ : S27), (⟨x1180002, x1180003⟩ : S27)] : List (S27)) : List (S27))).bind fun y1187 => (impl_leastQuotient.l1 k x7 x19 x20 x21 y1187 (y1187.length : Int) 0 x1180000 x1180001 x1180002 x1180003 x1182000 x1182001 ((rd_T27 x19 x21).f0) ((rd_T27 x19 x21).f1))) else (none)) else (none)) else (some (x1182000, x1182001, true))
def impl_leastQuotient.l1 : Nat → Bool → List (S27) → Int → Int → List (S27) → Int → Int → Int → Int → Int → Int → Int → Int → Int → Int → Option (Int × Int × Bool)
  | 0, _, _, _, _, _, _, _, _, _, _, _, _, _, _, _ => none
  | k + 1, x7, x19, x20, x21, x29, x30, x31, x1180000, x1180001, x1180002, x1180003, x1182000, x1182001, x1187000, x1187001 => if x31 < x30 then (if 0 ≤ x31 then (if x31 < (x29.length : Int) then ((impl_quotientDown.f k x1187000 (wrap64 (((rd_T27 x29 x31).f1) - x1187001)) ((rd_T27 x29 x31).f0) 16).bind fun bt1192 => (if bt1192.2.2 = true then (if x7 = true then ((impl_compareD.f k bt1192.1 bt1192.2.1 x1182000 x1182001).bind fun t1196 => (if t1196 < 0 then (impl_leastQuotient.l1 k true x19 x20 x21 x29 x30 (wrap64 (x31 + 1)) x1180000 x1180001 x1180002 x1180003 bt1192.1 bt1192.2.1 x1187000 x1187001) else (impl_leastQuotient.l1 k x7 x19 x20 x21 x29 x30 (wrap64 (x31 + 1)) x1180000 x1180001 x1180002 x1180003 x1182000 x1182001 x1187000 x1187001))) else (impl_leastQuotient.l1 k true x19 x20 x21 x29 x30 (wrap64 (x31 + 1)) x1180000 x1180001 x1180002 x1180003 bt1192.1 bt1192.2.1 x1187000 x1187001)) else (some (0, 0, false)))) else (none)) else (none)) else (impl_leastQuotient.l0 k x7 x19 x20 (wrap64 (x21 + 1)) x1180000 x1180001 x1180002 x1180003 x1182000 x1182001)
end
def impl_leastQuotient.f (k : Nat) (a0_0 : Int) (a0_1 : Int) (a0_2 : Int) (a0_3 : Int) (a1_0 : Int) (a1_1 : Int) (a1_2 : Int) (a1_3 : Int) : Option (Int × Int × Bool) := (some (([(⟨a0_0, a0_1⟩ : S27), (⟨a0_2, a0_3⟩ : S27)] : List (S27)) : List (S27))).bind fun y1182 => (impl_leastQuotient.l0 k false y1182 (y1182.length : Int) 0 a1_0 a1_1 a1_2 a1_3 0 0)
/-! impl_DivideIntervals -/
def impl_DivideIntervals.j0 : Nat → Bool → Int → Int → Int → Int → Int → Int → Int → Int → Option (Int × Int × Int × Int × Bool)
  | 0, _, _, _, _, _, _, _, _, _ => none
  | k + 1, x22, x1198000, x1198001, x1198002, x1198003, x1199000, x1199001, x1199002, x1199003 => if x22 = true then (some (0, 0, 0, 0, false)) else ((impl_leastQuotient.f k x1198000 x1198001 x1198002 x1198003 x1199000 x1199001 x1199002 x1199003).bind fun bt1203 => ((impl_minus.f x1198002 x1198003).bind fun bt1207 => ((impl_minus.f x1198000 x1198001).bind fun bt1209 => ((impl_leastQuotient.f k bt1207.1 bt1207.2 bt1209.1 bt1209.2 x1199000 x1199001 x1199002 x1199003).bind fun bt1211 => (if bt1203.2.2 = true then (if bt1211.2.2 = true then ((impl_minus.f bt1211.1 bt1211.2.1).bind fun bt1215 => (some (bt1203.1, bt1203.2.1, bt1215.1, bt1215.2, true))) else (some (0, 0, 0, 0, false))) else (some (0, 0, 0, 0, false)))))))
def impl_DivideIntervals.f (k : Nat) (a0_0 : Int) (a0_1 : Int) (a0_2 : Int) (a0_3 : Int) (a1_0 : Int) (a1_1 : Int) (a1_2 : Int) (a1_3 : Int) : Option (Int × Int × Int × Int × Bool) := (impl_isInterval.f k a0_0 a0_1 a0_2 a0_3).bind fun t1200 => (if t1200 = true then ((impl_isInterval.f k a1_0 a1_1 a1_2 a1_3).bind fun t1201 => (if t1201 = true then ((impl_signOf.f a1_0 a1_1 a1_2 a1_3).bind fun t1202 => (impl_DivideIntervals.j0 k (t1202 == 0) a0_0 a0_1 a0_2 a0_3 a1_0 a1_1 a1_2 a1_3)) else (impl_DivideIntervals.j0 k true a0_0 a0_1 a0_2 a0_3 a1_0 a1_1 a1_2 a1_3))) else (impl_DivideIntervals.j0 k true a0_0 a0_1 a0_2 a0_3 a1_0 a1_1 a1_2 a1_3))
/-! laws_FnExactDivideIntervals -/
def laws_FnExactDivideIntervals.f (k : Nat) (a0_0 : Int) (a0_1 : Int) (a0_2 : Int) (a0_3 : Int) (a1_0 : Int) (a1_1 : Int) (a1_2 : Int) (a1_3 : Int) : Option (Bool) := (laws_toInterval.f a0_0 a0_1 a0_2 a0_3).bind fun bt1219 => ((laws_toInterval.f a1_0 a1_1 a1_2 a1_3).bind fun bt1223 => ((spec_DivideIntervals.f k bt1219.1 bt1219.2.1 bt1219.2.2.1 bt1219.2.2.2 bt1223.1 bt1223.2.1 bt1223.2.2.1 bt1223.2.2.2).bind fun bt1227 => ((laws_toInterval.f a0_0 a0_1 a0_2 a0_3).bind fun bt1233 => ((laws_toInterval.f a1_0 a1_1 a1_2 a1_3).bind fun bt1237 => ((impl_DivideIntervals.f k bt1233.1 bt1233.2.1 bt1233.2.2.1 bt1233.2.2.2 bt1237.1 bt1237.2.1 bt1237.2.2.1 bt1237.2.2.2).bind fun bt1241 => ((laws_eqInterval.f bt1241.1 bt1241.2.1 bt1241.2.2.1 bt1241.2.2.2.1 bt1227.1 bt1227.2.1 bt1227.2.2.1 bt1227.2.2.2.1).bind fun t1247 => (if t1247 = true then (if (bt1241.2.2.2.2 != bt1227.2.2.2.2) = true then (none) else (some true)) else (none))))))))
end Go.Proofs.Ytinpcalgdiigiaa.PD
