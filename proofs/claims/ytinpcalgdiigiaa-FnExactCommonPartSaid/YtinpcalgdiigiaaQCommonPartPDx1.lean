-- Written by a program of this session (wip/mk/drv.py) out of the seat's translation; Lean checks it.
import Derived.Test.YtinpcalgdiigiaaQCommonPartPDx0
namespace Go.Proofs.Ytinpcalgdiigiaa.PD
open Go.RowKit Go.Proofs.YtinpcalgdiigiaaW.PrintWords Go.Proofs.YtinpcalgdiigiaaW.PrintLast Go.Proofs.YtinpcalgdiigiaaW.PrintMore
attribute [local go_sem] max2_int min2_int max_two min_two max_three min_three max_four min_four   -- for this text's walks alone
set_option linter.unusedVariables false
set_option linter.unusedSimpArgs false
/-! spec_l1In -/
def spec_l1In.f (a0 : Int) (a1 : Int) (a2 : Int) : Option (Bool) := if a0 ≥ a1 then (some (decide (a0 ≤ a2))) else (some false)
/-! spec_dyGood -/
def spec_dyGood.f (a0_0 : Int) (a0_1 : Int) : Option (Bool) := (spec_l1In.f a0_1 0 24).bind fun t102 => (if t102 = true then ((spec_l1In.f a0_0 (-1099511627776) 1099511627776).bind fun t103 => (if t103 = true then (if a0_1 = 0 then (some true) else (some ((Int.tmod a0_0 2) != 0))) else (some false))) else (some false))
/-! spec_l1Sign -/
def spec_l1Sign.f (a0 : Int) : Option (Int) := if a0 > 0 then (some 1) else (if a0 < 0 then (some (-1)) else (some 0))
/-! spec_dyPower -/
def spec_dyPower.f (a0 : Int) : Option (Int) := if 0 ≤ (IntKind.u64.wrap (a0)) then (some (shl .i64 1 (IntKind.u64.wrap (a0)))) else (none)
/-! spec_dyDown -/
def spec_dyDown.f (a0 : Int) (a1 : Int) : Option (Int) := if a1 = 0 then (none) else (if (Int.tmod a0 a1) < 0 then (some (wrap64 ((wrap64 (Int.tdiv a0 a1)) - 1))) else (some (wrap64 (Int.tdiv a0 a1))))
/-! spec_dyFloor -/
def spec_dyFloor.f (a0_0 : Int) (a0_1 : Int) : Option (Int) := (spec_dyPower.f a0_1).bind fun t105 => ((spec_dyDown.f a0_0 t105).bind fun t106 => (some t106))
/-! spec_dyAt -/
def spec_dyAt.l0 : Nat → Int → Int → Int → Int → Option (Int × Bool)
  | 0, _, _, _, _ => none
  | k + 1, x1, x6, x108000, x108001 => if x6 < x1 then ((spec_dyPower.f 60).bind fun t108 => ((spec_l1In.f x108000 (wrap64 (-t108)) t108).bind fun t109 => (if t109 = true then (spec_dyAt.l0 k x1 (wrap64 (x6 + 1)) (wrap64 (x108000 * 2)) x108001) else (some (0, false))))) else (some (x108000, true))
def spec_dyAt.f (k : Nat) (a0_0 : Int) (a0_1 : Int) (a1 : Int) : Option (Int × Bool) := if a0_0 = 0 then (some (0, true)) else (spec_dyAt.l0 k a1 a0_1 a0_0 a0_1)
/-! spec_dyCmp -/
def spec_dyCmp.f (k : Nat) (a0_0 : Int) (a0_1 : Int) (a1_0 : Int) (a1_1 : Int) : Option (Int) := (spec_dyFloor.f a0_0 a0_1).bind fun t112 => ((spec_dyFloor.f a1_0 a1_1).bind fun t113 => (if t112 = t113 then ((spec_dyPower.f a0_1).bind fun t115 => ((spec_dyAt.f k (wrap64 (a0_0 - (wrap64 (t112 * t115)))) a0_1 24).bind fun bt116 => ((spec_dyPower.f a1_1).bind fun t118 => ((spec_dyAt.f k (wrap64 (a1_0 - (wrap64 (t113 * t118)))) a1_1 24).bind fun bt119 => ((spec_l1Sign.f (wrap64 (bt116.1 - bt119.1))).bind fun t121 => (some t121)))))) else ((spec_l1Sign.f (wrap64 (t112 - t113))).bind fun t114 => (some t114))))
/-! spec_ivGood -/
def spec_ivGood.f (k : Nat) (a0_0 : Int) (a0_1 : Int) (a0_2 : Int) (a0_3 : Int) : Option (Bool) := (spec_dyGood.f a0_0 a0_1).bind fun t123 => (if t123 = true then ((spec_dyGood.f a0_2 a0_3).bind fun t124 => (if t124 = true then ((spec_dyCmp.f k a0_0 a0_1 a0_2 a0_3).bind fun t125 => (some (decide (t125 ≤ 0)))) else (some false))) else (some false))
/-! spec_IsInterval -/
/-! laws_toDyadic -/
def laws_toDyadic.f (a0_0 : Int) (a0_1 : Int) : Option (Int × Int) := some (a0_0, a0_1)
/-! laws_toInterval -/
def laws_toInterval.f (a0_0 : Int) (a0_1 : Int) (a0_2 : Int) (a0_3 : Int) : Option (Int × Int × Int × Int) := (laws_toDyadic.f a0_0 a0_1).bind fun bt134 => ((laws_toDyadic.f a0_2 a0_3).bind fun bt136 => (some (bt134.1, bt134.2, bt136.1, bt136.2)))
/-! impl_wide_isZero -/
def impl_wide_isZero.f (a0_0 : Bool) (a0_1 : Int) (a0_2 : Int) : Option (Bool) := if a0_1 = 0 then (some (a0_2 == 0)) else (some false)
/-! cmp_Or_int -/
def cmp_Or_int.l0 : Nat → Int → List Int → Int → Int → Option (Int)
  | 0, _, _, _, _ => none
  | k + 1, x3, x6, x7, x8 => if x8 < x7 then (if 0 ≤ x8 then (if x8 < (x6.length : Int) then (if (rd x6 x8) = x3 then (cmp_Or_int.l0 k x3 x6 x7 (wrap64 (x8 + 1))) else (some (rd x6 x8))) else (none)) else (none)) else (some x3)
def cmp_Or_int.f (k : Nat) (l0 : List Int) : Option (Int) := cmp_Or_int.l0 k 0 l0 (l0.length : Int) 0
/-! cmp_isNaN_uint64 -/
def cmp_isNaN_uint64.f (a0 : Int) : Option (Bool) := some (a0 != a0)
/-! cmp_Compare_uint64 -/
def cmp_Compare_uint64.f (a0 : Int) (a1 : Int) : Option (Int) := (cmp_isNaN_uint64.f a0).bind fun t140 => ((cmp_isNaN_uint64.f a1).bind fun t141 => (if t140 = true then (if t141 = true then (some 0) else (some (-1))) else (if t141 = true then (some 1) else (if a0 < a1 then (some (-1)) else (if a0 > a1 then (some 1) else (some 0))))))
/-! impl_compareSizes -/
def impl_compareSizes.f (k : Nat) (a0_0 : Bool) (a0_1 : Int) (a0_2 : Int) (a1_0 : Bool) (a1_1 : Int) (a1_2 : Int) : Option (Int) := (cmp_Compare_uint64.f a0_1 a1_1).bind fun t144 => ((cmp_Compare_uint64.f a0_2 a1_2).bind fun t145 => ((cmp_Or_int.f k (([t144, t145] : List Int))).bind fun t149 => (some t149)))
/-! impl_compareWide -/
def impl_compareWide.j0 : Nat → Bool → Bool → Int → Int → Bool → Int → Int → Option (Int)
  | 0, _, _, _, _, _, _, _ => none
  | k + 1, x5, x151000, x151001, x151002, x152000, x152001, x152002 => if x5 = true then (some 0) else (if (x151000 != x152000) = true then (if x151000 = true then (some (-1)) else (some 1)) else (if x151000 = true then ((impl_compareSizes.f k x152000 x152001 x152002 x151000 x151001 x151002).bind fun t154 => (some t154)) else ((impl_compareSizes.f k x151000 x151001 x151002 x152000 x152001 x152002).bind fun t155 => (some t155))))
def impl_compareWide.f (k : Nat) (a0_0 : Bool) (a0_1 : Int) (a0_2 : Int) (a1_0 : Bool) (a1_1 : Int) (a1_2 : Int) : Option (Int) := (impl_wide_isZero.f a0_0 a0_1 a0_2).bind fun t152 => (if t152 = true then ((impl_wide_isZero.f a1_0 a1_1 a1_2).bind fun t153 => (impl_compareWide.j0 k t153 a0_0 a0_1 a0_2 a1_0 a1_1 a1_2)) else (impl_compareWide.j0 k false a0_0 a0_1 a0_2 a1_0 a1_1 a1_2))
/-! impl_size -/
def impl_size.f (a0 : Int) : Option (Int) := if a0 < 0 then (some (IntKind.u64.wrap (wrap64 (-a0)))) else (some (IntKind.u64.wrap (a0)))
/-! impl_wideOf -/
def impl_wideOf.f (a0 : Int) : Option (Bool × Int × Int) := (impl_size.f a0).bind fun t157 => (some (decide (a0 < 0), 0, t157))
/-! impl_wide_shift -/
def impl_wide_shift.f (a0_0 : Bool) (a0_1 : Int) (a0_2 : Int) (a1 : Int) : Option (Bool × Int × Int) := if a1 ≥ 0 then (if a1 ≥ 64 then (if 0 ≤ (wrap64 (a1 - 64)) then (some (a0_0, shl .u64 a0_2 (wrap64 (a1 - 64)), 0)) else (none)) else (if 0 ≤ a1 then (if 0 ≤ (wrap64 (64 - a1)) then (some (a0_0, Go.bits .or .u64 (shl .u64 a0_1 a1) (shr .u64 a0_2 (wrap64 (64 - a1))), shl .u64 a0_2 a1)) else (none)) else (none))) else (if (wrap64 (-a1)) ≥ 64 then (if 0 ≤ (wrap64 ((wrap64 (-a1)) - 64)) then (some (a0_0, 0, shr .u64 a0_1 (wrap64 ((wrap64 (-a1)) - 64)))) else (none)) else (if 0 ≤ (wrap64 (-a1)) then (if 0 ≤ (wrap64 (64 - (wrap64 (-a1)))) then (some (a0_0, shr .u64 a0_1 (wrap64 (-a1)), Go.bits .or .u64 (shr .u64 a0_2 (wrap64 (-a1))) (shl .u64 a0_1 (wrap64 (64 - (wrap64 (-a1))))))) else (none)) else (none)))
/-! impl_compareD -/
def impl_compareD.f (k : Nat) (a0_0 : Int) (a0_1 : Int) (a1_0 : Int) (a1_1 : Int) : Option (Int) := (impl_wideOf.f a0_0).bind fun bt162 => ((impl_wide_shift.f bt162.1 bt162.2.1 bt162.2.2 (wrap64 ((mx a0_1 a1_1) - a0_1))).bind fun bt165 => ((impl_wideOf.f a1_0).bind fun bt168 => ((impl_wide_shift.f bt168.1 bt168.2.1 bt168.2.2 (wrap64 ((mx a0_1 a1_1) - a1_1))).bind fun bt171 => ((impl_compareWide.f k bt165.1 bt165.2.1 bt165.2.2 bt171.1 bt171.2.1 bt171.2.2).bind fun t174 => (some t174)))))
/-! impl_inside -/
def impl_inside.f (a0 : Int) (a1 : Int) (a2 : Int) : Option (Bool) := if a0 ≥ a1 then (some (decide (a0 ≤ a2))) else (some false)
/-! impl_isPlaces -/
def impl_isPlaces.f (a0 : Int) : Option (Bool) := (impl_inside.f a0 0 24).bind fun t175 => (some t175)
/-! impl_isDyadic -/
def impl_isDyadic.f (a0_0 : Int) (a0_1 : Int) : Option (Bool) := (impl_isPlaces.f a0_1).bind fun t177 => (if t177 = true then ((impl_inside.f a0_0 (-1099511627776) 1099511627776).bind fun t178 => (if t178 = true then (if a0_1 = 0 then (some true) else (some ((Int.tmod a0_0 2) != 0))) else (some false))) else (some false))
/-! impl_isInterval -/
def impl_isInterval.f (k : Nat) (a0_0 : Int) (a0_1 : Int) (a0_2 : Int) (a0_3 : Int) : Option (Bool) := (impl_isDyadic.f a0_0 a0_1).bind fun t180 => (if t180 = true then ((impl_isDyadic.f a0_2 a0_3).bind fun t181 => (if t181 = true then ((impl_compareD.f k a0_0 a0_1 a0_2 a0_3).bind fun t182 => (some (decide (t182 ≤ 0)))) else (some false))) else (some false))
/-! impl_IsInterval -/
/-! laws_FnExactIsInterval -/
/-! spec_ivTwo -/
def spec_ivTwo.f (k : Nat) (a0_0 : Int) (a0_1 : Int) (a0_2 : Int) (a0_3 : Int) (a1_0 : Int) (a1_1 : Int) (a1_2 : Int) (a1_3 : Int) : Option (Bool) := (spec_ivGood.f k a0_0 a0_1 a0_2 a0_3).bind fun t198 => (if t198 = true then ((spec_ivGood.f k a1_0 a1_1 a1_2 a1_3).bind fun t199 => (some t199)) else (some false))
/-! spec_ivInside -/
/-! spec_IsWithin -/
/-! impl_IsWithin -/
/-! laws_FnExactIsWithin -/
/-! spec_ivZero -/
/-! spec_ivSign -/
/-! spec_SignOf -/
/-! impl_signOf -/
/-! impl_SignOf -/
/-! laws_FnExactSignOf -/
/-! spec_ivEnds -/
def spec_ivEnds.l0 : Nat → List (S27) → Int → Int → Int → Int → Int → Int → Option (Int × Int × Int × Int)
  | 0, _, _, _, _, _, _, _ => none
  | k + 1, x13, x14, x15, x264000, x264001, x264002, x264003 => if x15 < x14 then (if 0 ≤ x15 then (if x15 < (x13.length : Int) then ((spec_dyCmp.f k ((rd_T27 x13 x15).f0) ((rd_T27 x13 x15).f1) x264000 x264001).bind fun t266 => (if t266 < 0 then ((spec_dyCmp.f k x264002 x264003 ((rd_T27 x13 x15).f0) ((rd_T27 x13 x15).f1)).bind fun t267 => (if t267 < 0 then (spec_ivEnds.l0 k x13 x14 (wrap64 (x15 + 1)) ((rd_T27 x13 x15).f0) ((rd_T27 x13 x15).f1) ((rd_T27 x13 x15).f0) ((rd_T27 x13 x15).f1)) else (spec_ivEnds.l0 k x13 x14 (wrap64 (x15 + 1)) ((rd_T27 x13 x15).f0) ((rd_T27 x13 x15).f1) x264002 x264003))) else ((spec_dyCmp.f k x264002 x264003 ((rd_T27 x13 x15).f0) ((rd_T27 x13 x15).f1)).bind fun t268 => (if t268 < 0 then (spec_ivEnds.l0 k x13 x14 (wrap64 (x15 + 1)) x264000 x264001 ((rd_T27 x13 x15).f0) ((rd_T27 x13 x15).f1)) else (spec_ivEnds.l0 k x13 x14 (wrap64 (x15 + 1)) x264000 x264001 x264002 x264003))))) else (none)) else (none)) else (some (x264000, x264001, x264002, x264003))
def spec_ivEnds.f (k : Nat) (l0 : List (S27)) : Option (Int × Int × Int × Int) := if 0 < (l0.length : Int) then (spec_ivEnds.l0 k l0 (l0.length : Int) 0 ((rd_T27 l0 0).f0) ((rd_T27 l0 0).f1) ((rd_T27 l0 0).f0) ((rd_T27 l0 0).f1)) else (none)
/-! spec_ivHull -/
/-! spec_HullOf -/
/-! impl_lesser -/
def impl_lesser.f (k : Nat) (a0_0 : Int) (a0_1 : Int) (a1_0 : Int) (a1_1 : Int) : Option (Int × Int) := (impl_compareD.f k a1_0 a1_1 a0_0 a0_1).bind fun t290 => (if t290 < 0 then (some (a1_0, a1_1)) else (some (a0_0, a0_1)))
/-! impl_greater -/
def impl_greater.f (k : Nat) (a0_0 : Int) (a0_1 : Int) (a1_0 : Int) (a1_1 : Int) : Option (Int × Int) := (impl_compareD.f k a1_0 a1_1 a0_0 a0_1).bind fun t294 => (if t294 > 0 then (some (a1_0, a1_1)) else (some (a0_0, a0_1)))
/-! impl_HullOf -/
/-! laws_eqDyadic -/
def laws_eqDyadic.f (a0_0 : Int) (a0_1 : Int) (a1_0 : Int) (a1_1 : Int) : Option (Bool) := if a0_0 = a1_0 then (if a0_1 = a1_1 then (some true) else (some false)) else (some false)
/-! laws_eqInterval -/
def laws_eqInterval.f (a0_0 : Int) (a0_1 : Int) (a0_2 : Int) (a0_3 : Int) (a1_0 : Int) (a1_1 : Int) (a1_2 : Int) (a1_3 : Int) : Option (Bool) := (laws_eqDyadic.f a0_0 a0_1 a1_0 a1_1).bind fun t308 => (if t308 = true then ((laws_eqDyadic.f a0_2 a0_3 a1_2 a1_3).bind fun t309 => (if t309 = true then (some true) else (some false))) else (some false))
/-! laws_FnExactHullOf -/
/-! spec_ivCommon -/
def spec_ivCommon.f (k : Nat) (a0_0 : Int) (a0_1 : Int) (a0_2 : Int) (a0_3 : Int) (a1_0 : Int) (a1_1 : Int) (a1_2 : Int) (a1_3 : Int) : Option (Int × Int × Int × Int × Bool) := (spec_ivEnds.f k (([(⟨a0_0, a0_1⟩ : S27), (⟨a1_0, a1_1⟩ : S27)] : List (S27)))).bind fun bt347 => ((spec_ivEnds.f k (([(⟨a0_2, a0_3⟩ : S27), (⟨a1_2, a1_3⟩ : S27)] : List (S27)))).bind fun bt354 => ((spec_dyCmp.f k bt347.2.2.1 bt347.2.2.2 bt354.1 bt354.2.1).bind fun t359 => (if t359 > 0 then (some (0, 0, 0, 0, false)) else (some (bt347.2.2.1, bt347.2.2.2, bt354.1, bt354.2.1, true)))))
/-! spec_CommonPart -/
def spec_CommonPart.f (k : Nat) (a0_0 : Int) (a0_1 : Int) (a0_2 : Int) (a0_3 : Int) (a1_0 : Int) (a1_1 : Int) (a1_2 : Int) (a1_3 : Int) : Option (Int × Int × Int × Int × Bool) := (spec_ivTwo.f k a0_0 a0_1 a0_2 a0_3 a1_0 a1_1 a1_2 a1_3).bind fun t363 => (if t363 = true then ((spec_ivCommon.f k a0_0 a0_1 a0_2 a0_3 a1_0 a1_1 a1_2 a1_3).bind fun bt364 => (some (bt364.1, bt364.2.1, bt364.2.2.1, bt364.2.2.2.1, bt364.2.2.2.2))) else (some (0, 0, 0, 0, false)))
/-! impl_commonPart -/
def impl_commonPart.f (k : Nat) (a0_0 : Int) (a0_1 : Int) (a0_2 : Int) (a0_3 : Int) (a1_0 : Int) (a1_1 : Int) (a1_2 : Int) (a1_3 : Int) : Option (Int × Int × Int × Int × Bool) := (impl_greater.f k a0_0 a0_1 a1_0 a1_1).bind fun bt372 => ((impl_lesser.f k a0_2 a0_3 a1_2 a1_3).bind fun bt374 => ((impl_compareD.f k bt372.1 bt372.2 bt374.1 bt374.2).bind fun t377 => (if t377 > 0 then (some (0, 0, 0, 0, false)) else (some (bt372.1, bt372.2, bt374.1, bt374.2, true)))))
/-! impl_CommonPart -/
def impl_CommonPart.f (k : Nat) (a0_0 : Int) (a0_1 : Int) (a0_2 : Int) (a0_3 : Int) (a1_0 : Int) (a1_1 : Int) (a1_2 : Int) (a1_3 : Int) : Option (Int × Int × Int × Int × Bool) := (impl_isInterval.f k a0_0 a0_1 a0_2 a0_3).bind fun t381 => (if t381 = true then ((impl_isInterval.f k a1_0 a1_1 a1_2 a1_3).bind fun t382 => (if t382 = true then ((impl_commonPart.f k a0_0 a0_1 a0_2 a0_3 a1_0 a1_1 a1_2 a1_3).bind fun bt383 => (some (bt383.1, bt383.2.1, bt383.2.2.1, bt383.2.2.2.1, bt383.2.2.2.2))) else (some (0, 0, 0, 0, false)))) else (some (0, 0, 0, 0, false)))
/-! laws_FnExactCommonPart -/
def laws_FnExactCommonPart.f (k : Nat) (a0_0 : Int) (a0_1 : Int) (a0_2 : Int) (a0_3 : Int) (a1_0 : Int) (a1_1 : Int) (a1_2 : Int) (a1_3 : Int) : Option (Bool) := (laws_toInterval.f a0_0 a0_1 a0_2 a0_3).bind fun bt390 => ((laws_toInterval.f a1_0 a1_1 a1_2 a1_3).bind fun bt394 => ((spec_CommonPart.f k bt390.1 bt390.2.1 bt390.2.2.1 bt390.2.2.2 bt394.1 bt394.2.1 bt394.2.2.1 bt394.2.2.2).bind fun bt398 => ((laws_toInterval.f a0_0 a0_1 a0_2 a0_3).bind fun bt404 => ((laws_toInterval.f a1_0 a1_1 a1_2 a1_3).bind fun bt408 => ((impl_CommonPart.f k bt404.1 bt404.2.1 bt404.2.2.1 bt404.2.2.2 bt408.1 bt408.2.1 bt408.2.2.1 bt408.2.2.2).bind fun bt412 => ((laws_eqInterval.f bt412.1 bt412.2.1 bt412.2.2.1 bt412.2.2.2.1 bt398.1 bt398.2.1 bt398.2.2.1 bt398.2.2.2.1).bind fun t418 => (if t418 = true then (if (bt412.2.2.2.2 != bt398.2.2.2.2) = true then (none) else (some true)) else (none))))))))
/-! spec_dyMake -/
/-! spec_dyRound -/
/-! spec_dyMinus -/
/-! spec_ivUp -/
/-! spec_ivRound -/
/-! spec_RoundOut -/
/-! impl_minus -/
/-! impl_wide_fit -/
/-! impl_roundDown -/
/-! impl_roundOut -/
/-! impl_RoundOut -/
/-! laws_FnExactRoundOut -/
/-! spec_l1Most -/
/-! spec_dyAdd -/
/-! spec_dySub -/
/-! spec_WidthOf -/
/-! bits_Add64 -/
-- HAND rounds=0 making=0 extern
/-! bits_Sub64 -/
-- HAND rounds=0 making=0 extern
/-! impl_wide_add -/
/-! impl_sumOf -/
/-! impl_WidthOf -/
/-! laws_FnExactWidthOf -/
/-! spec_ivBoth -/
/-! spec_ivAdd -/
/-! spec_AddIntervals -/
/-! impl_reckoner_result -/
/-! impl_reckoner_keep -/
/-! impl_reckoner_sum -/
/-! impl_reckoner_add -/
/-! impl_AddIntervals -/
/-! laws_FnExactAddIntervals -/
/-! spec_ivMinus -/
/-! spec_ivSub -/
/-! spec_SubtractIntervals -/
/-! impl_reckoner_subtract -/
/-! impl_SubtractIntervals -/
/-! laws_FnExactSubtractIntervals -/
/-! spec_l1Abs -/
/-! spec_dyMul -/
/-! spec_ivMul -/
/-! spec_MultiplyIntervals -/
/-! bits_Mul64 -/
/-! impl_timesWide -/
/-! impl_productOf -/
/-! impl_reckoner_product -/
/-! impl_reckoner_multiply -/
/-! impl_MultiplyIntervals -/
/-! laws_FnExactMultiplyIntervals -/
/-! spec_dyInt -/
/-! spec_ivRaise -/
/-! spec_ivPower -/
/-! spec_PowerOfInterval -/
/-! impl_single -/
/-! impl_integer -/
/-! impl_reckoner_power -/
/-! impl_PowerOfInterval -/
/-! laws_FnExactPowerOfInterval -/
/-! spec_dyDigits -/
/-! spec_dyDivide -/
/-! spec_ivDiv -/
/-! spec_DivideIntervals -/
/-! bits_Len64 -/
/-! bits_LeadingZeros64 -/
/-! bits_Div64 -/
/-! impl_quotientDown -/
/-! impl_leastQuotient -/
/-! impl_DivideIntervals -/
/-! laws_FnExactDivideIntervals -/
end Go.Proofs.Ytinpcalgdiigiaa.PD
