-- By wip/mk/drv.py
import Derived.Test.YtinpcalgdiigiaaQPowealPDx0
namespace Go.Proofs.Ytinpcalgdiigiaa.PD
open Go.RowKit Go.Proofs.YtinpcalgdiigiaaW.PrintWords Go.Proofs.YtinpcalgdiigiaaW.PrintLast Go.Proofs.YtinpcalgdiigiaaW.PrintMore
attribute [local go_sem] max2_int min2_int max_two min_two max_three min_three max_four min_four
set_option linter.unusedVariables false
set_option linter.unusedSimpArgs false
/-! spec_l1In -/
def spec_l1In.f (a0 : Int) (a1 : Int) (a2 : Int) : Option (Bool) := if a0 ≥ a1 then (some (decide (a0 ≤ a2))) else (some false)
/-! spec_dyGood -/
def spec_dyGood.f (a0_0 : Int) (a0_1 : Int) : Option (Bool) := (spec_l1In.f a0_1 0 24).bind fun t102 => (if t102 = true then ((spec_l1In.f a0_0 (-1099511627776) 1099511627776).bind fun t103 => (if t103 = true then (if a0_1 = 0 then (some true) else (some ((Int.tmod a0_0 2) != 0))) else (some false))) else (some false))
/-! spec_l1Sign -/
def spec_l1Sign.f (a0 : Int) : Option (Int) := if a0 > 0 then (some 1) else (if a0 < 0 then (some (-1)) else (some 0))
/-! spec_dyPower -/
def spec_dyPower.f (a0 : Int) : Option (Int) := if 0 ≤ (IntKind.u64.wrap (a0)) then (some (shl .i64 1 (IntKind.u64.wrap (a0)))) else (none)
/-! spec_dyDown -/
def spec_dyDown.f (a0 : Int) (a1 : Int) : Option (Int) := if a1 = 0 then (none) else (if (Int.tmod a0 a1) < 0 then (some (wrap64 ((wrap64 (Int.tdiv a0 a1)) - 1))) else (some (wrap64 (Int.tdiv a0 a1))))
/-! spec_dyFloor -/
def spec_dyFloor.f (a0_0 : Int) (a0_1 : Int) : Option (Int) := (spec_dyPower.f a0_1).bind fun t105 => ((spec_dyDown.f a0_0 t105).bind fun t106 => (some t106))
/-! spec_dyAt -/
def spec_dyAt.l0 : Nat → Int → Int → Int → Int → Option (Int × Bool)
  | 0, _, _, _, _ => none
  | k + 1, x1, x6, x108000, x108001 => if x6 < x1 then ((spec_dyPower.f 60).bind fun t108 => ((spec_l1In.f x108000 (wrap64 (-t108)) t108).bind fun t109 => (if t109 = true then (spec_dyAt.l0 k x1 (wrap64 (x6 + 1)) (wrap64 (x108000 * 2)) x108001) else (some (0, false))))) else (some (x108000, true))
def spec_dyAt.f (k : Nat) (a0_0 : Int) (a0_1 : Int) (a1 : Int) : Option (Int × Bool) := if a0_0 = 0 then (some (0, true)) else (spec_dyAt.l0 k a1 a0_1 a0_0 a0_1)
/-! spec_dyCmp -/
def spec_dyCmp.f (k : Nat) (a0_0 : Int) (a0_1 : Int) (a1_0 : Int) (a1_1 : Int) : Option (Int) := (spec_dyFloor.f a0_0 a0_1).bind fun t112 => ((spec_dyFloor.f a1_0 a1_1).bind fun t113 => (if t112 = t113 then ((spec_dyPower.f a0_1).bind fun t115 => ((spec_dyAt.f k (wrap64 (a0_0 - (wrap64 (t112 * t115)))) a0_1 24).bind fun bt116 => ((spec_dyPower.f a1_1).bind fun t118 => ((spec_dyAt.f k (wrap64 (a1_0 - (wrap64 (t113 * t118)))) a1_1 24).bind fun bt119 => ((spec_l1Sign.f (wrap64 (bt116.1 - bt119.1))).bind fun t121 => (some t121)))))) else ((spec_l1Sign.f (wrap64 (t112 - t113))).bind fun t114 => (some t114))))
/-! spec_ivGood -/
def spec_ivGood.f (k : Nat) (a0_0 : Int) (a0_1 : Int) (a0_2 : Int) (a0_3 : Int) : Option (Bool) := (spec_dyGood.f a0_0 a0_1).bind fun t123 => (if t123 = true then ((spec_dyGood.f a0_2 a0_3).bind fun t124 => (if t124 = true then ((spec_dyCmp.f k a0_0 a0_1 a0_2 a0_3).bind fun t125 => (some (decide (t125 ≤ 0)))) else (some false))) else (some false))
/-! spec_IsInterval -/
/-! laws_toDyadic -/
def laws_toDyadic.f (a0_0 : Int) (a0_1 : Int) : Option (Int × Int) := some (a0_0, a0_1)
/-! laws_toInterval -/
def laws_toInterval.f (a0_0 : Int) (a0_1 : Int) (a0_2 : Int) (a0_3 : Int) : Option (Int × Int × Int × Int) := (laws_toDyadic.f a0_0 a0_1).bind fun bt134 => ((laws_toDyadic.f a0_2 a0_3).bind fun bt136 => (some (bt134.1, bt134.2, bt136.1, bt136.2)))
/-! impl_wide_isZero -/
def impl_wide_isZero.f (a0_0 : Bool) (a0_1 : Int) (a0_2 : Int) : Option (Bool) := if a0_1 = 0 then (some (a0_2 == 0)) else (some false)
/-! cmp_Or_int -/
def cmp_Or_int.l0 : Nat → Int → List Int → Int → Int → Option (Int)
  | 0, _, _, _, _ => none
  | k + 1, x3, x6, x7, x8 => if x8 < x7 then (if 0 ≤ x8 then (if x8 < (x6.length : Int) then (if (rd x6 x8) = x3 then (cmp_Or_int.l0 k x3 x6 x7 (wrap64 (x8 + 1))) else (some (rd x6 x8))) else (none)) else (none)) else (some x3)
def cmp_Or_int.f (k : Nat) (l0 : List Int) : Option (Int) := cmp_Or_int.l0 k 0 l0 (l0.length : Int) 0
/-! cmp_isNaN_uint64 -/
def cmp_isNaN_uint64.f (a0 : Int) : Option (Bool) := some (a0 != a0)
/-! cmp_Compare_uint64 -/
def cmp_Compare_uint64.f (a0 : Int) (a1 : Int) : Option (Int) := (cmp_isNaN_uint64.f a0).bind fun t140 => ((cmp_isNaN_uint64.f a1).bind fun t141 => (if t140 = true then (if t141 = true then (some 0) else (some (-1))) else (if t141 = true then (some 1) else (if a0 < a1 then (some (-1)) else (if a0 > a1 then (some 1) else (some 0))))))
/-! impl_compareSizes -/
def impl_compareSizes.f (k : Nat) (a0_0 : Bool) (a0_1 : Int) (a0_2 : Int) (a1_0 : Bool) (a1_1 : Int) (a1_2 : Int) : Option (Int) := (cmp_Compare_uint64.f a0_1 a1_1).bind fun t144 => ((cmp_Compare_uint64.f a0_2 a1_2).bind fun t145 => ((cmp_Or_int.f k (([t144, t145] : List Int))).bind fun t149 => (some t149)))
/-! impl_compareWide -/
def impl_compareWide.j0 : Nat → Bool → Bool → Int → Int → Bool → Int → Int → Option (Int)
  | 0, _, _, _, _, _, _, _ => none
  | k + 1, x5, x151000, x151001, x151002, x152000, x152001, x152002 => if x5 = true then (some 0) else (if (x151000 != x152000) = true then (if x151000 = true then (some (-1)) else (some 1)) else (if x151000 = true then ((impl_compareSizes.f k x152000 x152001 x152002 x151000 x151001 x151002).bind fun t154 => (some t154)) else ((impl_compareSizes.f k x151000 x151001 x151002 x152000 x152001 x152002).bind fun t155 => (some t155))))
def impl_compareWide.f (k : Nat) (a0_0 : Bool) (a0_1 : Int) (a0_2 : Int) (a1_0 : Bool) (a1_1 : Int) (a1_2 : Int) : Option (Int) := (impl_wide_isZero.f a0_0 a0_1 a0_2).bind fun t152 => (if t152 = true then ((impl_wide_isZero.f a1_0 a1_1 a1_2).bind fun t153 => (impl_compareWide.j0 k t153 a0_0 a0_1 a0_2 a1_0 a1_1 a1_2)) else (impl_compareWide.j0 k false a0_0 a0_1 a0_2 a1_0 a1_1 a1_2))
/-! impl_size -/
def impl_size.f (a0 : Int) : Option (Int) := if a0 < 0 then (some (IntKind.u64.wrap (wrap64 (-a0)))) else (some (IntKind.u64.wrap (a0)))
/-! impl_wideOf -/
def impl_wideOf.f (a0 : Int) : Option (Bool × Int × Int) := (impl_size.f a0).bind fun t157 => (some (decide (a0 < 0), 0, t157))
/-! impl_wide_shift -/
def impl_wide_shift.f (a0_0 : Bool) (a0_1 : Int) (a0_2 : Int) (a1 : Int) : Option (Bool × Int × Int) := if a1 ≥ 0 then (if a1 ≥ 64 then (if 0 ≤ (wrap64 (a1 - 64)) then (some (a0_0, shl .u64 a0_2 (wrap64 (a1 - 64)), 0)) else (none)) else (if 0 ≤ a1 then (if 0 ≤ (wrap64 (64 - a1)) then (some (a0_0, Go.bits .or .u64 (shl .u64 a0_1 a1) (shr .u64 a0_2 (wrap64 (64 - a1))), shl .u64 a0_2 a1)) else (none)) else (none))) else (if (wrap64 (-a1)) ≥ 64 then (if 0 ≤ (wrap64 ((wrap64 (-a1)) - 64)) then (some (a0_0, 0, shr .u64 a0_1 (wrap64 ((wrap64 (-a1)) - 64)))) else (none)) else (if 0 ≤ (wrap64 (-a1)) then (if 0 ≤ (wrap64 (64 - (wrap64 (-a1)))) then (some (a0_0, shr .u64 a0_1 (wrap64 (-a1)), Go.bits .or .u64 (shr .u64 a0_2 (wrap64 (-a1))) (shl .u64 a0_1 (wrap64 (64 - (wrap64 (-a1))))))) else (none)) else (none)))
/-! impl_compareD -/
def impl_compareD.f (k : Nat) (a0_0 : Int) (a0_1 : Int) (a1_0 : Int) (a1_1 : Int) : Option (Int) := (impl_wideOf.f a0_0).bind fun bt162 => ((impl_wide_shift.f bt162.1 bt162.2.1 bt162.2.2 (wrap64 ((mx a0_1 a1_1) - a0_1))).bind fun bt165 => ((impl_wideOf.f a1_0).bind fun bt168 => ((impl_wide_shift.f bt168.1 bt168.2.1 bt168.2.2 (wrap64 ((mx a0_1 a1_1) - a1_1))).bind fun bt171 => ((impl_compareWide.f k bt165.1 bt165.2.1 bt165.2.2 bt171.1 bt171.2.1 bt171.2.2).bind fun t174 => (some t174)))))
/-! impl_inside -/
def impl_inside.f (a0 : Int) (a1 : Int) (a2 : Int) : Option (Bool) := if a0 ≥ a1 then (some (decide (a0 ≤ a2))) else (some false)
/-! impl_isPlaces -/
def impl_isPlaces.f (a0 : Int) : Option (Bool) := (impl_inside.f a0 0 24).bind fun t175 => (some t175)
/-! impl_isDyadic -/
def impl_isDyadic.f (a0_0 : Int) (a0_1 : Int) : Option (Bool) := (impl_isPlaces.f a0_1).bind fun t177 => (if t177 = true then ((impl_inside.f a0_0 (-1099511627776) 1099511627776).bind fun t178 => (if t178 = true then (if a0_1 = 0 then (some true) else (some ((Int.tmod a0_0 2) != 0))) else (some false))) else (some false))
/-! impl_isInterval -/
def impl_isInterval.f (k : Nat) (a0_0 : Int) (a0_1 : Int) (a0_2 : Int) (a0_3 : Int) : Option (Bool) := (impl_isDyadic.f a0_0 a0_1).bind fun t180 => (if t180 = true then ((impl_isDyadic.f a0_2 a0_3).bind fun t181 => (if t181 = true then ((impl_compareD.f k a0_0 a0_1 a0_2 a0_3).bind fun t182 => (some (decide (t182 ≤ 0)))) else (some false))) else (some false))
/-! impl_IsInterval -/
/-! laws_FnExactIsInterval -/
/-! spec_ivTwo -/
/-! spec_ivInside -/
/-! spec_IsWithin -/
/-! impl_IsWithin -/
/-! laws_FnExactIsWithin -/
/-! spec_ivZero -/
def spec_ivZero.f (a0_0 : Int) (a0_1 : Int) (a0_2 : Int) (a0_3 : Int) : Option (Bool) := if a0_0 ≤ 0 then (some (decide (a0_2 ≥ 0))) else (some false)
/-! spec_ivSign -/
/-! spec_SignOf -/
/-! impl_signOf -/
def impl_signOf.f (a0_0 : Int) (a0_1 : Int) (a0_2 : Int) (a0_3 : Int) : Option (Int) := if a0_0 > 0 then (some 1) else (if a0_2 < 0 then (some (-1)) else (some 0))
/-! impl_SignOf -/
/-! laws_FnExactSignOf -/
/-! spec_ivEnds -/
def spec_ivEnds.l0 : Nat → List (S27) → Int → Int → Int → Int → Int → Int → Option (Int × Int × Int × Int)
  | 0, _, _, _, _, _, _, _ => none
  | k + 1, x13, x14, x15, x264000, x264001, x264002, x264003 => if x15 < x14 then (if 0 ≤ x15 then (if x15 < (x13.length : Int) then ((spec_dyCmp.f k ((rd_T27 x13 x15).f0) ((rd_T27 x13 x15).f1) x264000 x264001).bind fun t266 => (if t266 < 0 then ((spec_dyCmp.f k x264002 x264003 ((rd_T27 x13 x15).f0) ((rd_T27 x13 x15).f1)).bind fun t267 => (if t267 < 0 then (spec_ivEnds.l0 k x13 x14 (wrap64 (x15 + 1)) ((rd_T27 x13 x15).f0) ((rd_T27 x13 x15).f1) ((rd_T27 x13 x15).f0) ((rd_T27 x13 x15).f1)) else (spec_ivEnds.l0 k x13 x14 (wrap64 (x15 + 1)) ((rd_T27 x13 x15).f0) ((rd_T27 x13 x15).f1) x264002 x264003))) else ((spec_dyCmp.f k x264002 x264003 ((rd_T27 x13 x15).f0) ((rd_T27 x13 x15).f1)).bind fun t268 => (if t268 < 0 then (spec_ivEnds.l0 k x13 x14 (wrap64 (x15 + 1)) x264000 x264001 ((rd_T27 x13 x15).f0) ((rd_T27 x13 x15).f1)) else (spec_ivEnds.l0 k x13 x14 (wrap64 (x15 + 1)) x264000 x264001 x264002 x264003))))) else (none)) else (none)) else (some (x264000, x264001, x264002, x264003))
def spec_ivEnds.f (k : Nat) (l0 : List (S27)) : Option (Int × Int × Int × Int) := if 0 < (l0.length : Int) then (spec_ivEnds.l0 k l0 (l0.length : Int) 0 ((rd_T27 l0 0).f0) ((rd_T27 l0 0).f1) ((rd_T27 l0 0).f0) ((rd_T27 l0 0).f1)) else (none)
/-! spec_ivHull -/
/-! spec_HullOf -/
/-! impl_lesser -/
def impl_lesser.f (k : Nat) (a0_0 : Int) (a0_1 : Int) (a1_0 : Int) (a1_1 : Int) : Option (Int × Int) := (impl_compareD.f k a1_0 a1_1 a0_0 a0_1).bind fun t290 => (if t290 < 0 then (some (a1_0, a1_1)) else (some (a0_0, a0_1)))
/-! impl_greater -/
def impl_greater.f (k : Nat) (a0_0 : Int) (a0_1 : Int) (a1_0 : Int) (a1_1 : Int) : Option (Int × Int) := (impl_compareD.f k a1_0 a1_1 a0_0 a0_1).bind fun t294 => (if t294 > 0 then (some (a1_0, a1_1)) else (some (a0_0, a0_1)))
/-! impl_HullOf -/
/-! laws_eqDyadic -/
def laws_eqDyadic.f (a0_0 : Int) (a0_1 : Int) (a1_0 : Int) (a1_1 : Int) : Option (Bool) := if a0_0 = a1_0 then (if a0_1 = a1_1 then (some true) else (some false)) else (some false)
/-! laws_eqInterval -/
def laws_eqInterval.f (a0_0 : Int) (a0_1 : Int) (a0_2 : Int) (a0_3 : Int) (a1_0 : Int) (a1_1 : Int) (a1_2 : Int) (a1_3 : Int) : Option (Bool) := (laws_eqDyadic.f a0_0 a0_1 a1_0 a1_1).bind fun t308 => (if t308 = true then ((laws_eqDyadic.f a0_2 a0_3 a1_2 a1_3).bind fun t309 => (if t309 = true then (some true) else (some false))) else (some false))
/-! laws_FnExactHullOf -/
/-! spec_ivCommon -/
/-! spec_CommonPart -/
/-! impl_commonPart -/
/-! impl_CommonPart -/
/-! laws_FnExactCommonPart -/
/-! spec_dyMake -/
mutual
def spec_dyMake.j0 : Nat → Int → Int → Bool → Option (Int × Int × Bool)
  | 0, _, _, _ => none
  | k + 1, x0, x1, x12 => if x12 = true then (spec_dyMake.j1 k x0 0) else (spec_dyMake.j1 k x0 x1)
def spec_dyMake.j1 : Nat → Int → Int → Option (Int × Int × Bool)
  | 0, _, _ => none
  | k + 1, x0, x1 => spec_dyMake.l0 k x0 x1
def spec_dyMake.l0 : Nat → Int → Int → Option (Int × Int × Bool)
  | 0, _, _ => none
  | k + 1, x0, x1 => if x1 > 0 then (if (Int.tmod x0 2) = 0 then (spec_dyMake.l0 k (wrap64 (Int.tdiv x0 2)) (wrap64 (x1 - 1))) else ((spec_dyGood.f x0 x1).bind fun t421 => (if t421 = true then (some (x0, x1, true)) else (some (0, 0, false))))) else ((spec_dyGood.f x0 x1).bind fun t423 => (if t423 = true then (some (x0, x1, true)) else (some (0, 0, false))))
end
def spec_dyMake.f (k : Nat) (a0 : Int) (a1 : Int) : Option (Int × Int × Bool) := if a0 = 0 then (spec_dyMake.j0 k a0 a1 (decide (a1 > 0))) else (spec_dyMake.j0 k a0 a1 false)
/-! spec_dyRound -/
def spec_dyRound.f (k : Nat) (a0_0 : Int) (a0_1 : Int) (a1 : Int) : Option (Int × Int) := if a0_1 ≤ a1 then (some (a0_0, a0_1)) else ((spec_dyPower.f (wrap64 (a0_1 - a1))).bind fun t426 => ((spec_dyDown.f a0_0 t426).bind fun t427 => ((spec_dyMake.f k t427 a1).bind fun bt428 => (some (bt428.1, bt428.2.1)))))
/-! spec_dyMinus -/
def spec_dyMinus.f (a0_0 : Int) (a0_1 : Int) : Option (Int × Int) := some (wrap64 (-a0_0), a0_1)
/-! spec_ivUp -/
def spec_ivUp.f (k : Nat) (a0_0 : Int) (a0_1 : Int) (a1 : Int) : Option (Int × Int) := (spec_dyMinus.f a0_0 a0_1).bind fun bt436 => ((spec_dyRound.f k bt436.1 bt436.2 a1).bind fun bt438 => ((spec_dyMinus.f bt438.1 bt438.2).bind fun bt440 => (some (bt440.1, bt440.2))))
/-! spec_ivRound -/
def spec_ivRound.f (k : Nat) (a0_0 : Int) (a0_1 : Int) (a0_2 : Int) (a0_3 : Int) (a1 : Int) : Option (Int × Int × Int × Int) := (spec_dyRound.f k a0_0 a0_1 a1).bind fun bt444 => ((spec_ivUp.f k a0_2 a0_3 a1).bind fun bt446 => (some (bt444.1, bt444.2, bt446.1, bt446.2)))
/-! spec_RoundOut -/
/-! impl_minus -/
def impl_minus.f (a0_0 : Int) (a0_1 : Int) : Option (Int × Int) := some (wrap64 (-a0_0), a0_1)
/-! impl_wide_fit -/
mutual
def impl_wide_fit.j1 : Nat → Int → Bool → Int → Int → Option (Int × Int × Bool)
  | 0, _, _, _, _ => none
  | k + 1, x1, x459000, x459001, x459002 => if x1 > 24 then (impl_wide_fit.j2 k x1 true x459000 x459001 x459002) else (if x459001 > 0 then (impl_wide_fit.j2 k x1 true x459000 x459001 x459002) else (impl_wide_fit.j2 k x1 (decide (x459002 > 1099511627776)) x459000 x459001 x459002))
def impl_wide_fit.j2 : Nat → Int → Bool → Bool → Int → Int → Option (Int × Int × Bool)
  | 0, _, _, _, _, _ => none
  | k + 1, x1, x33, x459000, x459001, x459002 => if x33 = true then (some (0, 0, false)) else (if x459000 = true then (some (wrap64 (-(wrap64 (x459002))), x1, true)) else (some (wrap64 (x459002), x1, true)))
def impl_wide_fit.l0 : Nat → Int → Bool → Int → Int → Option (Int × Int × Bool)
  | 0, _, _, _, _ => none
  | k + 1, x1, x459000, x459001, x459002 => if x1 > 0 then (if (Int.tmod x459002 2) = 0 then ((impl_wide_shift.f x459000 x459001 x459002 (-1)).bind fun bt461 => (impl_wide_fit.l0 k (wrap64 (x1 - 1)) bt461.1 bt461.2.1 bt461.2.2)) else (impl_wide_fit.j1 k x1 x459000 x459001 x459002)) else (impl_wide_fit.j1 k x1 x459000 x459001 x459002)
end
def impl_wide_fit.f (k : Nat) (a0_0 : Bool) (a0_1 : Int) (a0_2 : Int) (a1 : Int) : Option (Int × Int × Bool) := (impl_wide_isZero.f a0_0 a0_1 a0_2).bind fun t460 => (if t460 = true then (some (0, 0, true)) else (impl_wide_fit.l0 k a1 a0_0 a0_1 a0_2))
/-! impl_roundDown -/
def impl_roundDown.f (k : Nat) (a0_0 : Int) (a0_1 : Int) (a1 : Int) : Option (Int × Int) := if a0_1 ≤ a1 then (some (a0_0, a0_1)) else (if 0 ≤ (wrap64 (a0_1 - a1)) then ((impl_wideOf.f (shr .i64 a0_0 (wrap64 (a0_1 - a1)))).bind fun bt466 => ((impl_wide_fit.f k bt466.1 bt466.2.1 bt466.2.2 a1).bind fun bt469 => (some (bt469.1, bt469.2.1)))) else (none))
/-! impl_roundOut -/
def impl_roundOut.f (k : Nat) (a0_0 : Int) (a0_1 : Int) (a0_2 : Int) (a0_3 : Int) (a1 : Int) : Option (Int × Int × Int × Int) := (impl_roundDown.f k a0_0 a0_1 a1).bind fun bt475 => ((impl_minus.f a0_2 a0_3).bind fun bt477 => ((impl_roundDown.f k bt477.1 bt477.2 a1).bind fun bt479 => ((impl_minus.f bt479.1 bt479.2).bind fun bt481 => (some (bt475.1, bt475.2, bt481.1, bt481.2)))))
/-! impl_RoundOut -/
/-! laws_FnExactRoundOut -/
/-! spec_l1Most -/
def spec_l1Most.f (a0 : Int) (a1 : Int) : Option (Int) := if a0 > a1 then (some a0) else (some a1)
/-! spec_dyAdd -/
/-! spec_dySub -/
/-! spec_WidthOf -/
/-! bits_Add64 -/
-- HAND rounds=0 making=0 extern
/-! bits_Sub64 -/
-- HAND rounds=0 making=0 extern
/-! impl_wide_add -/
/-! impl_sumOf -/
/-! impl_WidthOf -/
/-! laws_FnExactWidthOf -/
/-! spec_ivBoth -/
/-! spec_ivAdd -/
/-! spec_AddIntervals -/
/-! impl_reckoner_result -/
def impl_reckoner_result.f (s0_0 : Bool) (a1_0 : Int) (a1_1 : Int) (a1_2 : Int) (a1_3 : Int) : Option (Int × Int × Int × Int × Bool × Bool) := if s0_0 = true then (some (a1_0, a1_1, a1_2, a1_3, true, s0_0)) else (some (0, 0, 0, 0, false, s0_0))
/-! impl_reckoner_keep -/
def impl_reckoner_keep.f (s0_0 : Bool) (a1_0 : Int) (a1_1 : Int) (a2 : Bool) : Option (Int × Int × Bool) := if s0_0 = true then (if a2 = true then (some (a1_0, a1_1, a2)) else (some (0, 0, a2))) else (some (0, 0, false))
/-! impl_reckoner_sum -/
/-! impl_reckoner_add -/
/-! impl_AddIntervals -/
/-! laws_FnExactAddIntervals -/
/-! spec_ivMinus -/
/-! spec_ivSub -/
/-! spec_SubtractIntervals -/
/-! impl_reckoner_subtract -/
/-! impl_SubtractIntervals -/
/-! laws_FnExactSubtractIntervals -/
/-! spec_l1Abs -/
def spec_l1Abs.f (a0 : Int) : Option (Int) := (spec_l1Most.f a0 (wrap64 (-a0))).bind fun t787 => (some t787)
/-! spec_dyMul -/
mutual
def spec_dyMul.j0 : Nat → Bool → Int → Int → Int → Int → Option (Int × Int × Bool)
  | 0, _, _, _, _, _ => none
  | k + 1, x14, x789000, x789001, x790000, x790001 => if x14 = true then (some (0, 0, true)) else (spec_dyMul.l0 k (wrap64 (x789001 + x790001)) x789000 x789001 x790000 x790001)
def spec_dyMul.j2 : Nat → Int → Int → Int → Int → Int → Option (Int × Int × Bool)
  | 0, _, _, _, _, _ => none
  | k + 1, x6, x789000, x789001, x790000, x790001 => spec_dyMul.l1 k x6 x789000 x789001 x790000 x790001
def spec_dyMul.j4 : Nat → Int → Int → Int → Int → Int → Option (Int × Int × Bool)
  | 0, _, _, _, _, _ => none
  | k + 1, x6, x789000, x789001, x790000, x790001 => (spec_l1Abs.f x789000).bind fun t791 => ((spec_l1Abs.f x790000).bind fun t792 => (if t792 = 0 then (none) else (if t791 > (wrap64 (Int.tdiv (1099511627776 : Int) t792)) then (some (0, 0, false)) else ((spec_dyMake.f k (wrap64 (x789000 * x790000)) x6).bind fun bt793 => (some (bt793.1, bt793.2.1, bt793.2.2))))))
def spec_dyMul.l1 : Nat → Int → Int → Int → Int → Int → Option (Int × Int × Bool)
  | 0, _, _, _, _, _ => none
  | k + 1, x6, x789000, x789001, x790000, x790001 => if x6 > 0 then (if (Int.tmod x790000 2) = 0 then (spec_dyMul.l1 k (wrap64 (x6 - 1)) x789000 x789001 (wrap64 (Int.tdiv x790000 2)) x790001) else (spec_dyMul.j4 k x6 x789000 x789001 x790000 x790001)) else (spec_dyMul.j4 k x6 x789000 x789001 x790000 x790001)
def spec_dyMul.l0 : Nat → Int → Int → Int → Int → Int → Option (Int × Int × Bool)
  | 0, _, _, _, _, _ => none
  | k + 1, x6, x789000, x789001, x790000, x790001 => if x6 > 0 then (if (Int.tmod x789000 2) = 0 then (spec_dyMul.l0 k (wrap64 (x6 - 1)) (wrap64 (Int.tdiv x789000 2)) x789001 x790000 x790001) else (spec_dyMul.j2 k x6 x789000 x789001 x790000 x790001)) else (spec_dyMul.j2 k x6 x789000 x789001 x790000 x790001)
end
def spec_dyMul.f (k : Nat) (a0_0 : Int) (a0_1 : Int) (a1_0 : Int) (a1_1 : Int) : Option (Int × Int × Bool) := if a0_0 = 0 then (spec_dyMul.j0 k true a0_0 a0_1 a1_0 a1_1) else (spec_dyMul.j0 k (a1_0 == 0) a0_0 a0_1 a1_0 a1_1)
/-! spec_ivMul -/
/-! spec_MultiplyIntervals -/
/-! bits_Mul64 -/
def bits_Mul64.f (a0 : Int) (a1 : Int) : Option (Int × Int) := some (IntKind.u64.wrap ((IntKind.u64.wrap ((IntKind.u64.wrap ((a0 / 4294967296) * (a1 / 4294967296))) + ((IntKind.u64.wrap ((IntKind.u64.wrap ((a0 / 4294967296) * (Go.bits .and .u64 a1 4294967295))) + ((IntKind.u64.wrap ((Go.bits .and .u64 a0 4294967295) * (Go.bits .and .u64 a1 4294967295))) / 4294967296))) / 4294967296))) + ((IntKind.u64.wrap ((Go.bits .and .u64 (IntKind.u64.wrap ((IntKind.u64.wrap ((a0 / 4294967296) * (Go.bits .and .u64 a1 4294967295))) + ((IntKind.u64.wrap ((Go.bits .and .u64 a0 4294967295) * (Go.bits .and .u64 a1 4294967295))) / 4294967296))) 4294967295) + (IntKind.u64.wrap ((Go.bits .and .u64 a0 4294967295) * (a1 / 4294967296))))) / 4294967296)), IntKind.u64.wrap (a0 * a1))
/-! impl_timesWide -/
def impl_timesWide.f (a0 : Int) (a1 : Int) : Option (Bool × Int × Int) := (impl_size.f a0).bind fun t834 => ((impl_size.f a1).bind fun t835 => ((bits_Mul64.f t834 t835).bind fun bt836 => (some (((decide (a0 < 0)) != (decide (a1 < 0))), bt836.1, bt836.2))))
/-! impl_productOf -/
def impl_productOf.f (k : Nat) (a0_0 : Int) (a0_1 : Int) (a1_0 : Int) (a1_1 : Int) : Option (Int × Int × Bool) := (impl_timesWide.f a0_0 a1_0).bind fun bt841 => ((impl_wide_fit.f k bt841.1 bt841.2.1 bt841.2.2 (wrap64 (a0_1 + a1_1))).bind fun bt844 => (some (bt844.1, bt844.2.1, bt844.2.2)))
/-! impl_reckoner_product -/
def impl_reckoner_product.f (k : Nat) (s0_0 : Bool) (a1_0 : Int) (a1_1 : Int) (a2_0 : Int) (a2_1 : Int) : Option (Int × Int × Bool) := (impl_productOf.f k a1_0 a1_1 a2_0 a2_1).bind fun bt850 => ((impl_reckoner_keep.f s0_0 bt850.1 bt850.2.1 bt850.2.2).bind fun bt853 => (some (bt853.1, bt853.2.1, bt853.2.2)))
/-! impl_reckoner_multiply -/
/-! impl_MultiplyIntervals -/
/-! laws_FnExactMultiplyIntervals -/
/-! spec_dyInt -/
def spec_dyInt.f (a0 : Int) : Option (Int × Int) := some (a0, 0)
/-! spec_ivRaise -/
def spec_ivRaise.l0 : Nat → Int → Int → Int → Int → Int → Option (Int × Int × Bool)
  | 0, _, _, _, _, _ => none
  | k + 1, x1, x941000, x941001, x945000, x945001 => if x1 > 0 then ((spec_dyMul.f k x945000 x945001 x941000 x941001).bind fun bt945 => (if bt945.2.2 = true then (spec_ivRaise.l0 k (wrap64 (x1 - 1)) x941000 x941001 bt945.1 bt945.2.1) else (some (0, 0, false)))) else (some (x945000, x945001, true))
def spec_ivRaise.f (k : Nat) (a0_0 : Int) (a0_1 : Int) (a1 : Int) : Option (Int × Int × Bool) := (spec_dyInt.f 1).bind fun bt942 => (spec_ivRaise.l0 k a1 a0_0 a0_1 bt942.1 bt942.2)
/-! spec_ivPower -/
mutual
def spec_ivPower.j0 : Nat → Int → Bool → Int → Int → Int → Int → Int → Int → Int → Int → Option (Int × Int × Int × Int × Bool)
  | 0, _, _, _, _, _, _, _, _, _, _ => none
  | k + 1, x1, x30, x950000, x950001, x950002, x950003, x955000, x955001, x959000, x959001 => if x30 = true then (some (0, 0, 0, 0, false)) else ((some (([(⟨x955000, x955001⟩ : S27), (⟨x959000, x959001⟩ : S27)] : List (S27)) : List (S27))).bind fun y959 => (if x1 > 0 then (if (Int.tmod x1 2) = 0 then ((spec_ivZero.f x950000 x950001 x950002 x950003).bind fun t962 => (spec_ivPower.j1 k y959 t962)) else (spec_ivPower.j1 k y959 false)) else (spec_ivPower.j1 k y959 false)))
def spec_ivPower.j1 : Nat → List (S27) → Bool → Option (Int × Int × Int × Int × Bool)
  | 0, _, _ => none
  | k + 1, x10, x45 => if x45 = true then ((spec_dyInt.f 0).bind fun bt963 => (if x10.length < 8796093022208 then ((spec_ivEnds.f k (x10 ++ [(⟨bt963.1, bt963.2⟩ : S27)])).bind fun bt968 => ((spec_ivRound.f k bt968.1 bt968.2.1 bt968.2.2.1 bt968.2.2.2 16).bind fun bt972 => (some (bt972.1, bt972.2.1, bt972.2.2.1, bt972.2.2.2, true)))) else (none))) else ((spec_ivEnds.f k x10).bind fun bt976 => ((spec_ivRound.f k bt976.1 bt976.2.1 bt976.2.2.1 bt976.2.2.2 16).bind fun bt980 => (some (bt980.1, bt980.2.1, bt980.2.2.1, bt980.2.2.2, true))))
end
def spec_ivPower.f (k : Nat) (a0_0 : Int) (a0_1 : Int) (a0_2 : Int) (a0_3 : Int) (a1 : Int) : Option (Int × Int × Int × Int × Bool) := (spec_ivRaise.f k a0_0 a0_1 a1).bind fun bt951 => ((spec_ivRaise.f k a0_2 a0_3 a1).bind fun bt955 => (if bt951.2.2 = true then (spec_ivPower.j0 k a1 (!bt955.2.2) a0_0 a0_1 a0_2 a0_3 bt951.1 bt951.2.1 bt955.1 bt955.2.1) else (spec_ivPower.j0 k a1 true a0_0 a0_1 a0_2 a0_3 bt951.1 bt951.2.1 bt955.1 bt955.2.1)))
/-! spec_PowerOfInterval -/
def spec_PowerOfInterval.f (k : Nat) (a0_0 : Int) (a0_1 : Int) (a0_2 : Int) (a0_3 : Int) (a1 : Int) : Option (Int × Int × Int × Int × Bool) := (spec_ivGood.f k a0_0 a0_1 a0_2 a0_3).bind fun t986 => (if t986 = true then ((spec_l1In.f a1 0 4).bind fun t987 => (if t987 = true then ((spec_ivPower.f k a0_0 a0_1 a0_2 a0_3 a1).bind fun bt988 => (some (bt988.1, bt988.2.1, bt988.2.2.1, bt988.2.2.2.1, bt988.2.2.2.2))) else (some (0, 0, 0, 0, false)))) else (some (0, 0, 0, 0, false)))
/-! impl_single -/
def impl_single.f (a0_0 : Int) (a0_1 : Int) : Option (Int × Int × Int × Int) := some (a0_0, a0_1, a0_0, a0_1)
/-! impl_integer -/
def impl_integer.f (a0 : Int) : Option (Int × Int) := some (a0, 0)
/-! impl_reckoner_power -/
def impl_reckoner_power.l0 : Nat → Int → Int → Int → Bool → Int → Int → Int → Int → Int → Int → Int → Int → Option (Int × Int × Int × Int × Bool)
  | 0, _, _, _, _, _, _, _, _, _, _, _, _ => none
  | k + 1, x2, x18, x19, x1000, x997000, x997001, x997002, x997003, x1005000, x1005001, x1006000, x1006001 => if x19 < x18 then ((impl_reckoner_product.f k x1000 x1005000 x1005001 x997000 x997001).bind fun bt1006 => ((impl_reckoner_product.f k bt1006.2.2 x1006000 x1006001 x997002 x997003).bind fun bt1009 => (impl_reckoner_power.l0 k x2 x18 (wrap64 (x19 + 1)) bt1009.2.2 x997000 x997001 x997002 x997003 bt1006.1 bt1006.2.1 bt1009.1 bt1009.2.1))) else (if (Int.tmod x2 2) = 0 then ((impl_lesser.f k x1005000 x1005001 x1006000 x1006001).bind fun bt1012 => ((impl_greater.f k x1005000 x1005001 x1006000 x1006001).bind fun bt1014 => ((impl_signOf.f x997000 x997001 x997002 x997003).bind fun t1016 => (if t1016 = 0 then ((impl_integer.f 0).bind fun bt1017 => ((impl_roundOut.f k bt1017.1 bt1017.2 bt1014.1 bt1014.2 16).bind fun bt1019 => (some (bt1019.1, bt1019.2.1, bt1019.2.2.1, bt1019.2.2.2, x1000)))) else ((impl_roundOut.f k bt1012.1 bt1012.2 bt1014.1 bt1014.2 16).bind fun bt1023 => (some (bt1023.1, bt1023.2.1, bt1023.2.2.1, bt1023.2.2.2, x1000))))))) else ((impl_roundOut.f k x1005000 x1005001 x1006000 x1006001 16).bind fun bt1027 => (some (bt1027.1, bt1027.2.1, bt1027.2.2.1, bt1027.2.2.2, x1000))))
def impl_reckoner_power.f (k : Nat) (s0_0 : Bool) (a1_0 : Int) (a1_1 : Int) (a1_2 : Int) (a1_3 : Int) (a2 : Int) : Option (Int × Int × Int × Int × Bool) := if a2 = 0 then ((impl_integer.f 1).bind fun bt998 => ((impl_single.f bt998.1 bt998.2).bind fun bt1000 => (some (bt1000.1, bt1000.2.1, bt1000.2.2.1, bt1000.2.2.2, s0_0)))) else (impl_reckoner_power.l0 k a2 (wrap64 (a2 - 1)) 0 s0_0 a1_0 a1_1 a1_2 a1_3 a1_0 a1_1 a1_2 a1_3)
/-! impl_PowerOfInterval -/
def impl_PowerOfInterval.j0 : Nat → Int → Bool → Int → Int → Int → Int → Option (Int × Int × Int × Int × Bool)
  | 0, _, _, _, _, _, _ => none
  | k + 1, x1, x14, x1032000, x1032001, x1032002, x1032003 => if x14 = true then (some (0, 0, 0, 0, false)) else ((impl_reckoner_power.f k true x1032000 x1032001 x1032002 x1032003 x1).bind fun bt1036 => ((impl_reckoner_result.f bt1036.2.2.2.2 bt1036.1 bt1036.2.1 bt1036.2.2.1 bt1036.2.2.2.1).bind fun bt1041 => (some (bt1041.1, bt1041.2.1, bt1041.2.2.1, bt1041.2.2.2.1, bt1041.2.2.2.2.1))))
def impl_PowerOfInterval.f (k : Nat) (a0_0 : Int) (a0_1 : Int) (a0_2 : Int) (a0_3 : Int) (a1 : Int) : Option (Int × Int × Int × Int × Bool) := (impl_isInterval.f k a0_0 a0_1 a0_2 a0_3).bind fun t1033 => (if t1033 = true then ((impl_inside.f a1 0 4).bind fun t1034 => (impl_PowerOfInterval.j0 k a1 (!t1034) a0_0 a0_1 a0_2 a0_3)) else (impl_PowerOfInterval.j0 k a1 true a0_0 a0_1 a0_2 a0_3))
/-! laws_FnExactPowerOfInterval -/
def laws_FnExactPowerOfInterval.f (k : Nat) (a0_0 : Int) (a0_1 : Int) (a0_2 : Int) (a0_3 : Int) (a1 : Int) : Option (Bool) := (laws_toInterval.f a0_0 a0_1 a0_2 a0_3).bind fun bt1048 => ((spec_PowerOfInterval.f k bt1048.1 bt1048.2.1 bt1048.2.2.1 bt1048.2.2.2 a1).bind fun bt1052 => ((laws_toInterval.f a0_0 a0_1 a0_2 a0_3).bind fun bt1058 => ((impl_PowerOfInterval.f k bt1058.1 bt1058.2.1 bt1058.2.2.1 bt1058.2.2.2 a1).bind fun bt1062 => ((laws_eqInterval.f bt1062.1 bt1062.2.1 bt1062.2.2.1 bt1062.2.2.2.1 bt1052.1 bt1052.2.1 bt1052.2.2.1 bt1052.2.2.2.1).bind fun t1068 => (if t1068 = true then (if (bt1062.2.2.2.2 != bt1052.2.2.2.2) = true then (none) else (some true)) else (none))))))
/-! spec_dyDigits -/
/-! spec_dyDivide -/
/-! spec_ivDiv -/
/-! spec_DivideIntervals -/
/-! bits_Len64 -/
/-! bits_LeadingZeros64 -/
/-! bits_Div64 -/
/-! impl_quotientDown -/
/-! impl_leastQuotient -/
/-! impl_DivideIntervals -/
/-! laws_FnExactDivideIntervals -/
end Go.Proofs.Ytinpcalgdiigiaa.PD
