-- Written by a program of this session (wip/mk/drv.py) out of the seat's translation; Lean checks it.
import Derived.Test.YthgalpfnfidcdaaQDivideDownPDx0
namespace Go.Proofs.Ythgalpfnfidcdaa.PD
open Go.RowKit Go.Proofs.YthgalpfnfidcdaaW.PrintWords Go.Proofs.YthgalpfnfidcdaaW.PrintLast Go.Proofs.YthgalpfnfidcdaaW.PrintMore
attribute [local go_sem] max2_int min2_int max_two min_two max_three min_three max_four min_four   -- for this text's walks alone
set_option linter.unusedVariables false
set_option linter.unusedSimpArgs false
/-! spec_l1In -/
def spec_l1In.f (a0 : Int) (a1 : Int) (a2 : Int) : Option (Bool) := if a0 ≥ a1 then (some (decide (a0 ≤ a2))) else (some false)
/-! spec_dyGood -/
def spec_dyGood.f (a0_0 : Int) (a0_1 : Int) : Option (Bool) := (spec_l1In.f a0_1 0 24).bind fun t102 => (if t102 = true then ((spec_l1In.f a0_0 (-1099511627776) 1099511627776).bind fun t103 => (if t103 = true then (if a0_1 = 0 then (some true) else (some ((Int.tmod a0_0 2) != 0))) else (some false))) else (some false))
/-! spec_IsDyadic -/
/-! laws_toDyadic -/
def laws_toDyadic.f (a0_0 : Int) (a0_1 : Int) : Option (Int × Int) := some (a0_0, a0_1)
/-! impl_inside -/
def impl_inside.f (a0 : Int) (a1 : Int) (a2 : Int) : Option (Bool) := if a0 ≥ a1 then (some (decide (a0 ≤ a2))) else (some false)
/-! impl_isPlaces -/
def impl_isPlaces.f (a0 : Int) : Option (Bool) := (impl_inside.f a0 0 24).bind fun t109 => (some t109)
/-! impl_isDyadic -/
def impl_isDyadic.f (a0_0 : Int) (a0_1 : Int) : Option (Bool) := (impl_isPlaces.f a0_1).bind fun t111 => (if t111 = true then ((impl_inside.f a0_0 (-1099511627776) 1099511627776).bind fun t112 => (if t112 = true then (if a0_1 = 0 then (some true) else (some ((Int.tmod a0_0 2) != 0))) else (some false))) else (some false))
/-! impl_IsDyadic -/
/-! laws_FnExactIsDyadic -/
/-! spec_dyMake -/
mutual
def spec_dyMake.j0 : Nat → Int → Int → Bool → Option (Int × Int × Bool)
  | 0, _, _, _ => none
  | k + 1, x0, x1, x12 => if x12 = true then (spec_dyMake.j1 k x0 0) else (spec_dyMake.j1 k x0 x1)
def spec_dyMake.j1 : Nat → Int → Int → Option (Int × Int × Bool)
  | 0, _, _ => none
  | k + 1, x0, x1 => spec_dyMake.l0 k x0 x1
def spec_dyMake.l0 : Nat → Int → Int → Option (Int × Int × Bool)
  | 0, _, _ => none
  | k + 1, x0, x1 => if x1 > 0 then (if (Int.tmod x0 2) = 0 then (spec_dyMake.l0 k (wrap64 (Int.tdiv x0 2)) (wrap64 (x1 - 1))) else ((spec_dyGood.f x0 x1).bind fun t124 => (if t124 = true then (some (x0, x1, true)) else (some (0, 0, false))))) else ((spec_dyGood.f x0 x1).bind fun t126 => (if t126 = true then (some (x0, x1, true)) else (some (0, 0, false))))
end
def spec_dyMake.f (k : Nat) (a0 : Int) (a1 : Int) : Option (Int × Int × Bool) := if a0 = 0 then (spec_dyMake.j0 k a0 a1 (decide (a1 > 0))) else (spec_dyMake.j0 k a0 a1 false)
/-! spec_DyadicOf -/
/-! impl_size -/
def impl_size.f (a0 : Int) : Option (Int) := if a0 < 0 then (some (IntKind.u64.wrap (wrap64 (-a0)))) else (some (IntKind.u64.wrap (a0)))
/-! impl_wideOf -/
def impl_wideOf.f (a0 : Int) : Option (Bool × Int × Int) := (impl_size.f a0).bind fun t134 => (some (decide (a0 < 0), 0, t134))
/-! impl_wide_shift -/
def impl_wide_shift.f (a0_0 : Bool) (a0_1 : Int) (a0_2 : Int) (a1 : Int) : Option (Bool × Int × Int) := if a1 ≥ 0 then (if a1 ≥ 64 then (if 0 ≤ (wrap64 (a1 - 64)) then (some (a0_0, shl .u64 a0_2 (wrap64 (a1 - 64)), 0)) else (none)) else (if 0 ≤ a1 then (if 0 ≤ (wrap64 (64 - a1)) then (some (a0_0, Go.bits .or .u64 (shl .u64 a0_1 a1) (shr .u64 a0_2 (wrap64 (64 - a1))), shl .u64 a0_2 a1)) else (none)) else (none))) else (if (wrap64 (-a1)) ≥ 64 then (if 0 ≤ (wrap64 ((wrap64 (-a1)) - 64)) then (some (a0_0, 0, shr .u64 a0_1 (wrap64 ((wrap64 (-a1)) - 64)))) else (none)) else (if 0 ≤ (wrap64 (-a1)) then (if 0 ≤ (wrap64 (64 - (wrap64 (-a1)))) then (some (a0_0, shr .u64 a0_1 (wrap64 (-a1)), Go.bits .or .u64 (shr .u64 a0_2 (wrap64 (-a1))) (shl .u64 a0_1 (wrap64 (64 - (wrap64 (-a1))))))) else (none)) else (none)))
/-! impl_wide_isZero -/
def impl_wide_isZero.f (a0_0 : Bool) (a0_1 : Int) (a0_2 : Int) : Option (Bool) := if a0_1 = 0 then (some (a0_2 == 0)) else (some false)
/-! impl_wide_fit -/
mutual
def impl_wide_fit.j1 : Nat → Int → Bool → Int → Int → Option (Int × Int × Bool)
  | 0, _, _, _, _ => none
  | k + 1, x1, x139000, x139001, x139002 => if x1 > 24 then (impl_wide_fit.j2 k x1 true x139000 x139001 x139002) else (if x139001 > 0 then (impl_wide_fit.j2 k x1 true x139000 x139001 x139002) else (impl_wide_fit.j2 k x1 (decide (x139002 > 1099511627776)) x139000 x139001 x139002))
def impl_wide_fit.j2 : Nat → Int → Bool → Bool → Int → Int → Option (Int × Int × Bool)
  | 0, _, _, _, _, _ => none
  | k + 1, x1, x33, x139000, x139001, x139002 => if x33 = true then (some (0, 0, false)) else (if x139000 = true then (some (wrap64 (-(wrap64 (x139002))), x1, true)) else (some (wrap64 (x139002), x1, true)))
def impl_wide_fit.l0 : Nat → Int → Bool → Int → Int → Option (Int × Int × Bool)
  | 0, _, _, _, _ => none
  | k + 1, x1, x139000, x139001, x139002 => if x1 > 0 then (if (Int.tmod x139002 2) = 0 then ((impl_wide_shift.f x139000 x139001 x139002 (-1)).bind fun bt141 => (impl_wide_fit.l0 k (wrap64 (x1 - 1)) bt141.1 bt141.2.1 bt141.2.2)) else (impl_wide_fit.j1 k x1 x139000 x139001 x139002)) else (impl_wide_fit.j1 k x1 x139000 x139001 x139002)
end
def impl_wide_fit.f (k : Nat) (a0_0 : Bool) (a0_1 : Int) (a0_2 : Int) (a1 : Int) : Option (Int × Int × Bool) := (impl_wide_isZero.f a0_0 a0_1 a0_2).bind fun t140 => (if t140 = true then (some (0, 0, true)) else (impl_wide_fit.l0 k a1 a0_0 a0_1 a0_2))
/-! impl_DyadicOf -/
/-! laws_eqDyadic -/
def laws_eqDyadic.f (a0_0 : Int) (a0_1 : Int) (a1_0 : Int) (a1_1 : Int) : Option (Bool) := if a0_0 = a1_0 then (if a0_1 = a1_1 then (some true) else (some false)) else (some false)
/-! laws_FnExactDyadicOf -/
/-! spec_dyPlaces -/
/-! spec_dyDown -/
def spec_dyDown.f (a0 : Int) (a1 : Int) : Option (Int) := if a1 = 0 then (none) else (if (Int.tmod a0 a1) < 0 then (some (wrap64 ((wrap64 (Int.tdiv a0 a1)) - 1))) else (some (wrap64 (Int.tdiv a0 a1))))
/-! spec_dyPower -/
def spec_dyPower.f (a0 : Int) : Option (Int) := if 0 ≤ (IntKind.u64.wrap (a0)) then (some (shl .i64 1 (IntKind.u64.wrap (a0)))) else (none)
/-! spec_dyRound -/
/-! spec_RoundDown -/
/-! impl_roundDown -/
/-! impl_RoundDown -/
/-! laws_FnExactRoundDown -/
/-! spec_dyMinus -/
def spec_dyMinus.f (a0_0 : Int) (a0_1 : Int) : Option (Int × Int) := some (wrap64 (-a0_0), a0_1)
/-! spec_RoundUp -/
/-! impl_minus -/
/-! impl_RoundUp -/
/-! laws_FnExactRoundUp -/
/-! spec_dyTwo -/
def spec_dyTwo.f (a0_0 : Int) (a0_1 : Int) (a1_0 : Int) (a1_1 : Int) : Option (Bool) := (spec_dyGood.f a0_0 a0_1).bind fun t248 => (if t248 = true then ((spec_dyGood.f a1_0 a1_1).bind fun t249 => (some t249)) else (some false))
/-! spec_l1Most -/
def spec_l1Most.f (a0 : Int) (a1 : Int) : Option (Int) := if a0 > a1 then (some a0) else (some a1)
/-! spec_l1Abs -/
def spec_l1Abs.f (a0 : Int) : Option (Int) := (spec_l1Most.f a0 (wrap64 (-a0))).bind fun t250 => (some t250)
/-! spec_dyMul -/
/-! spec_MultiplyDyadic -/
/-! bits_Mul64 -/
/-! impl_timesWide -/
/-! impl_productOf -/
/-! impl_MultiplyDyadic -/
/-! laws_FnExactMultiplyDyadic -/
/-! spec_dyFloor -/
/-! spec_l1Sign -/
/-! spec_dyAt -/
/-! spec_dyCmp -/
/-! spec_CompareDyadic -/
/-! cmp_Or_int -/
def cmp_Or_int.l0 : Nat → Int → List Int → Int → Int → Option (Int)
  | 0, _, _, _, _ => none
  | k + 1, x3, x6, x7, x8 => if x8 < x7 then (if 0 ≤ x8 then (if x8 < (x6.length : Int) then (if (rd x6 x8) = x3 then (cmp_Or_int.l0 k x3 x6 x7 (wrap64 (x8 + 1))) else (some (rd x6 x8))) else (none)) else (none)) else (some x3)
def cmp_Or_int.f (k : Nat) (l0 : List Int) : Option (Int) := cmp_Or_int.l0 k 0 l0 (l0.length : Int) 0
/-! cmp_isNaN_uint64 -/
def cmp_isNaN_uint64.f (a0 : Int) : Option (Bool) := some (a0 != a0)
/-! cmp_Compare_uint64 -/
def cmp_Compare_uint64.f (a0 : Int) (a1 : Int) : Option (Int) := (cmp_isNaN_uint64.f a0).bind fun t330 => ((cmp_isNaN_uint64.f a1).bind fun t331 => (if t330 = true then (if t331 = true then (some 0) else (some (-1))) else (if t331 = true then (some 1) else (if a0 < a1 then (some (-1)) else (if a0 > a1 then (some 1) else (some 0))))))
/-! impl_compareSizes -/
def impl_compareSizes.f (k : Nat) (a0_0 : Bool) (a0_1 : Int) (a0_2 : Int) (a1_0 : Bool) (a1_1 : Int) (a1_2 : Int) : Option (Int) := (cmp_Compare_uint64.f a0_1 a1_1).bind fun t334 => ((cmp_Compare_uint64.f a0_2 a1_2).bind fun t335 => ((cmp_Or_int.f k (([t334, t335] : List Int))).bind fun t339 => (some t339)))
/-! impl_compareWide -/
/-! impl_compareD -/
/-! impl_CompareDyadic -/
/-! laws_FnExactCompareDyadic -/
/-! spec_dyHalf -/
/-! spec_MiddleOf -/
/-! bits_Add64 -/
-- HAND rounds=0 making=0 extern
/-- The model's stand-in for bits.Add64, as a function of numbers. -/
def bits_Add64.f (a0 : Int) (a1 : Int) (a2 : Int) : Option (Int × Int) := if a2 = 0 then some ((((a0.toNat + a1.toNat) % 18446744073709551616 : Nat) : Int), (((a0.toNat + a1.toNat) / 18446744073709551616 : Nat) : Int)) else if a2 = 1 then some ((((a0.toNat + a1.toNat + 1) % 18446744073709551616 : Nat) : Int), (((a0.toNat + a1.toNat + 1) / 18446744073709551616 : Nat) : Int)) else none
/-! bits_Sub64 -/
-- HAND rounds=0 making=0 extern
/-- The model's stand-in for bits.Sub64, as a function of numbers. -/
def bits_Sub64.f (a0 : Int) (a1 : Int) (a2 : Int) : Option (Int × Int) := if a2 = 0 then some ((((a0.toNat + 18446744073709551616 - a1.toNat - 0) % 18446744073709551616 : Nat) : Int), ((if a0.toNat < a1.toNat + 0 then 1 else 0 : Nat) : Int)) else if a2 = 1 then some ((((a0.toNat + 18446744073709551616 - a1.toNat - 1) % 18446744073709551616 : Nat) : Int), ((if a0.toNat < a1.toNat + 1 then 1 else 0 : Nat) : Int)) else none
/-! impl_wide_add -/
def impl_wide_add.f (k : Nat) (a0_0 : Bool) (a0_1 : Int) (a0_2 : Int) (a1_0 : Bool) (a1_1 : Int) (a1_2 : Int) : Option (Bool × Int × Int) := if (a0_0 == a1_0) = true then ((bits_Add64.f a0_2 a1_2 0).bind fun bt401 => ((bits_Add64.f a0_1 a1_1 bt401.2).bind fun bt403 => (some (a0_0, bt403.1, bt401.1)))) else ((impl_compareSizes.f k a0_0 a0_1 a0_2 a1_0 a1_1 a1_2).bind fun t405 => (if t405 < 0 then ((bits_Sub64.f a1_2 a0_2 0).bind fun bt406 => ((bits_Sub64.f a1_1 a0_1 bt406.2).bind fun bt408 => (some (a1_0, bt408.1, bt406.1)))) else ((bits_Sub64.f a0_2 a1_2 0).bind fun bt410 => ((bits_Sub64.f a0_1 a1_1 bt410.2).bind fun bt412 => (some (a0_0, bt412.1, bt410.1))))))
/-! impl_middleOf -/
/-! impl_MiddleOf -/
/-! laws_FnExactMiddleOf -/
/-! spec_dyAdd -/
/-! spec_AddDyadic -/
/-! impl_sumOf -/
/-! impl_AddDyadic -/
/-! laws_FnExactAddDyadic -/
/-! spec_dySub -/
/-! spec_SubtractDyadic -/
/-! impl_SubtractDyadic -/
/-! laws_FnExactSubtractDyadic -/
/-! spec_dyDigits -/
mutual
def spec_dyDigits.l0 : Nat → Int → Int → Int → Int → Int → Int → Int → Option (Int × Int × Bool)
  | 0, _, _, _, _, _, _, _ => none
  | k + 1, x0, x1, x2, x3, x4, x12, x13 => if x13 < x3 then (if (wrap64 (x1 * 2)) ≥ x2 then (spec_dyDigits.l0 k x0 (wrap64 ((wrap64 (x1 * 2)) - x2)) x2 x3 x4 (wrap64 ((wrap64 (x12 * 2)) + 1)) (wrap64 (x13 + 1))) else (spec_dyDigits.l0 k x0 (wrap64 (x1 * 2)) x2 x3 x4 (wrap64 (x12 * 2)) (wrap64 (x13 + 1)))) else (spec_dyDigits.l1 k x0 x3 x4 x12)
def spec_dyDigits.j2 : Nat → Int → Int → Int → Int → Option (Int × Int × Bool)
  | 0, _, _, _, _ => none
  | k + 1, x0, x3, x4, x12 => (spec_l1Abs.f x0).bind fun t573 => ((spec_dyPower.f (wrap64 (62 - x3))).bind fun t574 => (if t573 > t574 then (some (0, 0, false)) else ((spec_dyPower.f x3).bind fun t575 => ((spec_dyMake.f k (wrap64 ((wrap64 (x0 * t575)) + x12)) x4).bind fun bt576 => (some (bt576.1, bt576.2.1, bt576.2.2))))))
def spec_dyDigits.l1 : Nat → Int → Int → Int → Int → Option (Int × Int × Bool)
  | 0, _, _, _, _ => none
  | k + 1, x0, x3, x4, x12 => if x4 > 0 then (if x3 > 0 then (if (Int.tmod x12 2) = 0 then (spec_dyDigits.l1 k x0 (wrap64 (x3 - 1)) (wrap64 (x4 - 1)) (wrap64 (Int.tdiv x12 2))) else (spec_dyDigits.j2 k x0 x3 x4 x12)) else (spec_dyDigits.j2 k x0 x3 x4 x12)) else (spec_dyDigits.j2 k x0 x3 x4 x12)
end
def spec_dyDigits.f (k : Nat) (a0 : Int) (a1 : Int) (a2 : Int) (a3 : Int) (a4 : Int) : Option (Int × Int × Bool) := spec_dyDigits.l0 k a0 a1 a2 a3 a4 0 0
/-! spec_dyDivide -/
def spec_dyDivide.j0 : Nat → Int → Int → Int → Int → Int → Option (Int × Int × Bool)
  | 0, _, _, _, _, _ => none
  | k + 1, x2, x580000, x580001, x581000, x581001 => (spec_dyDown.f x580000 x581000).bind fun t586 => (if (wrap64 ((wrap64 (x581001 + x2)) - x580001)) < 0 then ((spec_dyPower.f (wrap64 (-(wrap64 ((wrap64 (x581001 + x2)) - x580001))))).bind fun t587 => ((spec_dyDown.f t586 t587).bind fun t588 => ((spec_dyMake.f k t588 x2).bind fun bt589 => (some (bt589.1, bt589.2.1, bt589.2.2))))) else ((spec_dyDigits.f k t586 (wrap64 (x580000 - (wrap64 (t586 * x581000)))) x581000 (wrap64 ((wrap64 (x581001 + x2)) - x580001)) x2).bind fun bt592 => (some (bt592.1, bt592.2.1, bt592.2.2))))
def spec_dyDivide.f (k : Nat) (a0_0 : Int) (a0_1 : Int) (a1_0 : Int) (a1_1 : Int) (a2 : Int) : Option (Int × Int × Bool) := if a1_0 = 0 then (some (0, 0, false)) else (if a1_0 < 0 then ((spec_dyMinus.f a0_0 a0_1).bind fun bt582 => ((spec_dyMinus.f a1_0 a1_1).bind fun bt584 => (spec_dyDivide.j0 k a2 bt582.1 bt582.2 bt584.1 bt584.2))) else (spec_dyDivide.j0 k a2 a0_0 a0_1 a1_0 a1_1))
/-! spec_DivideDown -/
def spec_DivideDown.f (k : Nat) (a0_0 : Int) (a0_1 : Int) (a1_0 : Int) (a1_1 : Int) (a2 : Int) : Option (Int × Int × Bool) := (spec_dyTwo.f a0_0 a0_1 a1_0 a1_1).bind fun t598 => (if t598 = true then ((spec_l1In.f a2 0 24).bind fun t599 => (if t599 = true then ((spec_dyDivide.f k a0_0 a0_1 a1_0 a1_1 a2).bind fun bt600 => (some (bt600.1, bt600.2.1, bt600.2.2))) else (some (0, 0, false)))) else (some (0, 0, false)))
/-! bits_Len64 -/
def bits_Len64.j0 : Nat → Int → Int → Option (Int)
  | 0, _, _ => none
  | k + 1, x0, x2 => if x0 ≥ 65536 then (if (x0 / 65536) ≥ 256 then (if 0 ≤ (((x0 / 65536) / 256) % 256) then (if (((x0 / 65536) / 256) % 256) < 256 then (some (wrap64 ((wrap64 ((wrap64 (x2 + 16)) + 8)) + (wrap64 (bt (⟨#[0, 1, 2, 2, 3, 3, 3, 3, 4, 4, 4, 4, 4, 4, 4, 4, 5, 5, 5, 5, 5, 5, 5, 5, 5, 5, 5, 5, 5, 5, 5, 5, 6, 6, 6, 6, 6, 6, 6, 6, 6, 6, 6, 6, 6, 6, 6, 6, 6, 6, 6, 6, 6, 6, 6, 6, 6, 6, 6, 6, 6, 6, 6, 6, 7, 7, 7, 7, 7, 7, 7, 7, 7, 7, 7, 7, 7, 7, 7, 7, 7, 7, 7, 7, 7, 7, 7, 7, 7, 7, 7, 7, 7, 7, 7, 7, 7, 7, 7, 7, 7, 7, 7, 7, 7, 7, 7, 7, 7, 7, 7, 7, 7, 7, 7, 7, 7, 7, 7, 7, 7, 7, 7, 7, 7, 7, 7, 7, 8, 8, 8, 8, 8, 8, 8, 8, 8, 8, 8, 8, 8, 8, 8, 8, 8, 8, 8, 8, 8, 8, 8, 8, 8, 8, 8, 8, 8, 8, 8, 8, 8, 8, 8, 8, 8, 8, 8, 8, 8, 8, 8, 8, 8, 8, 8, 8, 8, 8, 8, 8, 8, 8, 8, 8, 8, 8, 8, 8, 8, 8, 8, 8, 8, 8, 8, 8, 8, 8, 8, 8, 8, 8, 8, 8, 8, 8, 8, 8, 8, 8, 8, 8, 8, 8, 8, 8, 8, 8, 8, 8, 8, 8, 8, 8, 8, 8, 8, 8, 8, 8, 8, 8, 8, 8, 8, 8, 8, 8, 8, 8, 8, 8, 8, 8, 8, 8, 8, 8, 8, 8, 8, 8, 8, 8, 8, 8]⟩ : ByteArray) (((x0 / 65536) / 256) % 256)))))) else (none)) else (none)) else (if 0 ≤ ((x0 / 65536) % 256) then (if ((x0 / 65536) % 256) < 256 then (some (wrap64 ((wrap64 (x2 + 16)) + (wrap64 (bt (⟨#[0, 1, 2, 2, 3, 3, 3, 3, 4, 4, 4, 4, 4, 4, 4, 4, 5, 5, 5, 5, 5, 5, 5, 5, 5, 5, 5, 5, 5, 5, 5, 5, 6, 6, 6, 6, 6, 6, 6, 6, 6, 6, 6, 6, 6, 6, 6, 6, 6, 6, 6, 6, 6, 6, 6, 6, 6, 6, 6, 6, 6, 6, 6, 6, 7, 7, 7, 7, 7, 7, 7, 7, 7, 7, 7, 7, 7, 7, 7, 7, 7, 7, 7, 7, 7, 7, 7, 7, 7, 7, 7, 7, 7, 7, 7, 7, 7, 7, 7, 7, 7, 7, 7, 7, 7, 7, 7, 7, 7, 7, 7, 7, 7, 7, 7, 7, 7, 7, 7, 7, 7, 7, 7, 7, 7, 7, 7, 7, 8, 8, 8, 8, 8, 8, 8, 8, 8, 8, 8, 8, 8, 8, 8, 8, 8, 8, 8, 8, 8, 8, 8, 8, 8, 8, 8, 8, 8, 8, 8, 8, 8, 8, 8, 8, 8, 8, 8, 8, 8, 8, 8, 8, 8, 8, 8, 8, 8, 8, 8, 8, 8, 8, 8, 8, 8, 8, 8, 8, 8, 8, 8, 8, 8, 8, 8, 8, 8, 8, 8, 8, 8, 8, 8, 8, 8, 8, 8, 8, 8, 8, 8, 8, 8, 8, 8, 8, 8, 8, 8, 8, 8, 8, 8, 8, 8, 8, 8, 8, 8, 8, 8, 8, 8, 8, 8, 8, 8, 8, 8, 8, 8, 8, 8, 8, 8, 8, 8, 8, 8, 8, 8, 8, 8, 8, 8, 8]⟩ : ByteArray) ((x0 / 65536) % 256)))))) else (none)) else (none))) else (if x0 ≥ 256 then (if 0 ≤ ((x0 / 256) % 256) then (if ((x0 / 256) % 256) < 256 then (some (wrap64 ((wrap64 (x2 + 8)) + (wrap64 (bt (⟨#[0, 1, 2, 2, 3, 3, 3, 3, 4, 4, 4, 4, 4, 4, 4, 4, 5, 5, 5, 5, 5, 5, 5, 5, 5, 5, 5, 5, 5, 5, 5, 5, 6, 6, 6, 6, 6, 6, 6, 6, 6, 6, 6, 6, 6, 6, 6, 6, 6, 6, 6, 6, 6, 6, 6, 6, 6, 6, 6, 6, 6, 6, 6, 6, 7, 7, 7, 7, 7, 7, 7, 7, 7, 7, 7, 7, 7, 7, 7, 7, 7, 7, 7, 7, 7, 7, 7, 7, 7, 7, 7, 7, 7, 7, 7, 7, 7, 7, 7, 7, 7, 7, 7, 7, 7, 7, 7, 7, 7, 7, 7, 7, 7, 7, 7, 7, 7, 7, 7, 7, 7, 7, 7, 7, 7, 7, 7, 7, 8, 8, 8, 8, 8, 8, 8, 8, 8, 8, 8, 8, 8, 8, 8, 8, 8, 8, 8, 8, 8, 8, 8, 8, 8, 8, 8, 8, 8, 8, 8, 8, 8, 8, 8, 8, 8, 8, 8, 8, 8, 8, 8, 8, 8, 8, 8, 8, 8, 8, 8, 8, 8, 8, 8, 8, 8, 8, 8, 8, 8, 8, 8, 8, 8, 8, 8, 8, 8, 8, 8, 8, 8, 8, 8, 8, 8, 8, 8, 8, 8, 8, 8, 8, 8, 8, 8, 8, 8, 8, 8, 8, 8, 8, 8, 8, 8, 8, 8, 8, 8, 8, 8, 8, 8, 8, 8, 8, 8, 8, 8, 8, 8, 8, 8, 8, 8, 8, 8, 8, 8, 8, 8, 8, 8, 8, 8, 8]⟩ : ByteArray) ((x0 / 256) % 256)))))) else (none)) else (none)) else (if 0 ≤ ((x0) % 256) then (if ((x0) % 256) < 256 then (some (wrap64 (x2 + (wrap64 (bt (⟨#[0, 1, 2, 2, 3, 3, 3, 3, 4, 4, 4, 4, 4, 4, 4, 4, 5, 5, 5, 5, 5, 5, 5, 5, 5, 5, 5, 5, 5, 5, 5, 5, 6, 6, 6, 6, 6, 6, 6, 6, 6, 6, 6, 6, 6, 6, 6, 6, 6, 6, 6, 6, 6, 6, 6, 6, 6, 6, 6, 6, 6, 6, 6, 6, 7, 7, 7, 7, 7, 7, 7, 7, 7, 7, 7, 7, 7, 7, 7, 7, 7, 7, 7, 7, 7, 7, 7, 7, 7, 7, 7, 7, 7, 7, 7, 7, 7, 7, 7, 7, 7, 7, 7, 7, 7, 7, 7, 7, 7, 7, 7, 7, 7, 7, 7, 7, 7, 7, 7, 7, 7, 7, 7, 7, 7, 7, 7, 7, 8, 8, 8, 8, 8, 8, 8, 8, 8, 8, 8, 8, 8, 8, 8, 8, 8, 8, 8, 8, 8, 8, 8, 8, 8, 8, 8, 8, 8, 8, 8, 8, 8, 8, 8, 8, 8, 8, 8, 8, 8, 8, 8, 8, 8, 8, 8, 8, 8, 8, 8, 8, 8, 8, 8, 8, 8, 8, 8, 8, 8, 8, 8, 8, 8, 8, 8, 8, 8, 8, 8, 8, 8, 8, 8, 8, 8, 8, 8, 8, 8, 8, 8, 8, 8, 8, 8, 8, 8, 8, 8, 8, 8, 8, 8, 8, 8, 8, 8, 8, 8, 8, 8, 8, 8, 8, 8, 8, 8, 8, 8, 8, 8, 8, 8, 8, 8, 8, 8, 8, 8, 8, 8, 8, 8, 8, 8, 8]⟩ : ByteArray) ((x0) % 256)))))) else (none)) else (none)))
def bits_Len64.f (k : Nat) (a0 : Int) : Option (Int) := if a0 ≥ 4294967296 then (bits_Len64.j0 k (a0 / 4294967296) 32) else (bits_Len64.j0 k a0 0)
/-! bits_LeadingZeros64 -/
def bits_LeadingZeros64.f (k : Nat) (a0 : Int) : Option (Int) := (bits_Len64.f k a0).bind fun t603 => (some (wrap64 (64 - t603)))
/-! bits_Div64 -/
mutual
def bits_Div64.j2 : Nat → Int → Int → Int → Int → Int → Int → Int → Int → Option (Int × Int)
  | 0, _, _, _, _, _, _, _, _ => none
  | k + 1, x2, x8, x9, x10, x11, x13, x14, x15 => if x9 = 0 then (none) else (bits_Div64.l1 k x2 x8 x9 x10 x14 x15 (IntKind.u64.wrap ((IntKind.u64.wrap ((IntKind.u64.wrap ((IntKind.u64.wrap (x11 * 4294967296)) + x13)) - (IntKind.u64.wrap (x15 * x2)))) - (IntKind.u64.wrap ((IntKind.u64.wrap (Int.tdiv (IntKind.u64.wrap ((IntKind.u64.wrap ((IntKind.u64.wrap (x11 * 4294967296)) + x13)) - (IntKind.u64.wrap (x15 * x2)))) x9)) * x9)))) (IntKind.u64.wrap ((IntKind.u64.wrap ((IntKind.u64.wrap (x11 * 4294967296)) + x13)) - (IntKind.u64.wrap (x15 * x2)))) (IntKind.u64.wrap (Int.tdiv (IntKind.u64.wrap ((IntKind.u64.wrap ((IntKind.u64.wrap (x11 * 4294967296)) + x13)) - (IntKind.u64.wrap (x15 * x2)))) x9)))
def bits_Div64.l1 : Nat → Int → Int → Int → Int → Int → Int → Int → Int → Int → Option (Int × Int)
  | 0, _, _, _, _, _, _, _, _, _ => none
  | k + 1, x2, x8, x9, x10, x14, x15, x16, x17, x18 => if x18 ≥ 4294967296 then (bits_Div64.j4 k x2 x8 x9 x10 x14 x15 x16 x17 x18 true) else (bits_Div64.j4 k x2 x8 x9 x10 x14 x15 x16 x17 x18 (decide ((IntKind.u64.wrap (x18 * x10)) > (IntKind.u64.wrap ((IntKind.u64.wrap (4294967296 * x16)) + x14)))))
def bits_Div64.j4 : Nat → Int → Int → Int → Int → Int → Int → Int → Int → Int → Bool → Option (Int × Int)
  | 0, _, _, _, _, _, _, _, _, _, _ => none
  | k + 1, x2, x8, x9, x10, x14, x15, x16, x17, x18, x113 => if x113 = true then (if (IntKind.u64.wrap (x16 + x9)) ≥ 4294967296 then (if 0 ≤ x8 then (some (IntKind.u64.wrap ((IntKind.u64.wrap (x15 * 4294967296)) + (IntKind.u64.wrap (x18 - 1))), shr .u64 (IntKind.u64.wrap ((IntKind.u64.wrap ((IntKind.u64.wrap (x17 * 4294967296)) + x14)) - (IntKind.u64.wrap ((IntKind.u64.wrap (x18 - 1)) * x2)))) x8)) else (none)) else (bits_Div64.l1 k x2 x8 x9 x10 x14 x15 (IntKind.u64.wrap (x16 + x9)) x17 (IntKind.u64.wrap (x18 - 1)))) else (if 0 ≤ x8 then (some (IntKind.u64.wrap ((IntKind.u64.wrap (x15 * 4294967296)) + x18), shr .u64 (IntKind.u64.wrap ((IntKind.u64.wrap ((IntKind.u64.wrap (x17 * 4294967296)) + x14)) - (IntKind.u64.wrap (x18 * x2)))) x8)) else (none))
def bits_Div64.l0 : Nat → Int → Int → Int → Int → Int → Int → Int → Int → Int → Option (Int × Int)
  | 0, _, _, _, _, _, _, _, _, _ => none
  | k + 1, x2, x8, x9, x10, x11, x13, x14, x15, x16 => if x15 ≥ 4294967296 then (bits_Div64.j1 k x2 x8 x9 x10 x11 x13 x14 x15 x16 true) else (bits_Div64.j1 k x2 x8 x9 x10 x11 x13 x14 x15 x16 (decide ((IntKind.u64.wrap (x15 * x10)) > (IntKind.u64.wrap ((IntKind.u64.wrap (4294967296 * x16)) + x13)))))
def bits_Div64.j1 : Nat → Int → Int → Int → Int → Int → Int → Int → Int → Int → Bool → Option (Int × Int)
  | 0, _, _, _, _, _, _, _, _, _, _ => none
  | k + 1, x2, x8, x9, x10, x11, x13, x14, x15, x16, x78 => if x78 = true then (if (IntKind.u64.wrap (x16 + x9)) ≥ 4294967296 then (bits_Div64.j2 k x2 x8 x9 x10 x11 x13 x14 (IntKind.u64.wrap (x15 - 1))) else (bits_Div64.l0 k x2 x8 x9 x10 x11 x13 x14 (IntKind.u64.wrap (x15 - 1)) (IntKind.u64.wrap (x16 + x9)))) else (bits_Div64.j2 k x2 x8 x9 x10 x11 x13 x14 x15)
end
def bits_Div64.f (k : Nat) (a0 : Int) (a1 : Int) (a2 : Int) : Option (Int × Int) := if a2 = 0 then (none) else (if a2 ≤ a0 then (none) else (if a0 = 0 then (some (IntKind.u64.wrap (Int.tdiv a1 a2), Int.tmod a1 a2)) else ((bits_LeadingZeros64.f k a2).bind fun t604 => (if 0 ≤ (IntKind.u64.wrap (t604)) then (if 0 ≤ (IntKind.u64.wrap (64 - (IntKind.u64.wrap (t604)))) then (if ((shl .u64 a2 (IntKind.u64.wrap (t604))) / 4294967296) = 0 then (none) else (bits_Div64.l0 k (shl .u64 a2 (IntKind.u64.wrap (t604))) (IntKind.u64.wrap (t604)) ((shl .u64 a2 (IntKind.u64.wrap (t604))) / 4294967296) (Go.bits .and .u64 (shl .u64 a2 (IntKind.u64.wrap (t604))) 4294967295) (Go.bits .or .u64 (shl .u64 a0 (IntKind.u64.wrap (t604))) (shr .u64 a1 (IntKind.u64.wrap (64 - (IntKind.u64.wrap (t604)))))) ((shl .u64 a1 (IntKind.u64.wrap (t604))) / 4294967296) (Go.bits .and .u64 (shl .u64 a1 (IntKind.u64.wrap (t604))) 4294967295) (IntKind.u64.wrap (Int.tdiv (Go.bits .or .u64 (shl .u64 a0 (IntKind.u64.wrap (t604))) (shr .u64 a1 (IntKind.u64.wrap (64 - (IntKind.u64.wrap (t604)))))) ((shl .u64 a2 (IntKind.u64.wrap (t604))) / 4294967296))) (IntKind.u64.wrap ((Go.bits .or .u64 (shl .u64 a0 (IntKind.u64.wrap (t604))) (shr .u64 a1 (IntKind.u64.wrap (64 - (IntKind.u64.wrap (t604)))))) - (IntKind.u64.wrap ((IntKind.u64.wrap (Int.tdiv (Go.bits .or .u64 (shl .u64 a0 (IntKind.u64.wrap (t604))) (shr .u64 a1 (IntKind.u64.wrap (64 - (IntKind.u64.wrap (t604)))))) ((shl .u64 a2 (IntKind.u64.wrap (t604))) / 4294967296))) * ((shl .u64 a2 (IntKind.u64.wrap (t604))) / 4294967296))))))) else (none)) else (none)))))
/-! impl_quotientDown -/
mutual
def impl_quotientDown.j0 : Nat → Int → Bool → Bool → Int → Int → Bool → Int → Int → Option (Int × Int × Bool)
  | 0, _, _, _, _, _, _, _, _ => none
  | k + 1, x3, x17, x613000, x613001, x613002, x624000, x624001, x624002 => if x613000 = true then (impl_quotientDown.j1 k x3 (!x17) x624000 x624001 x624002) else (impl_quotientDown.j1 k x3 false x624000 x624001 x624002)
def impl_quotientDown.j1 : Nat → Int → Bool → Bool → Int → Int → Option (Int × Int × Bool)
  | 0, _, _, _, _, _ => none
  | k + 1, x3, x78, x624000, x624001, x624002 => if x78 = true then ((impl_wideOf.f (-1)).bind fun bt628 => ((impl_wide_add.f k x624000 x624001 x624002 bt628.1 bt628.2.1 bt628.2.2).bind fun bt631 => ((impl_wide_fit.f k true bt631.2.1 bt631.2.2 x3).bind fun bt634 => (some (bt634.1, bt634.2.1, bt634.2.2))))) else ((impl_wide_fit.f k x624000 x624001 x624002 x3).bind fun bt637 => (some (bt637.1, bt637.2.1, bt637.2.2)))
end
def impl_quotientDown.f (k : Nat) (a0 : Int) (a1 : Int) (a2 : Int) (a3 : Int) : Option (Int × Int × Bool) := (impl_wideOf.f a0).bind fun bt606 => ((impl_wide_shift.f bt606.1 bt606.2.1 bt606.2.2 (mx (wrap64 (a1 + a3)) 0)).bind fun bt609 => ((impl_size.f a2).bind fun t613 => ((bits_Div64.f k 0 bt609.2.1 t613).bind fun bt614 => ((impl_size.f a2).bind fun t616 => ((bits_Div64.f k bt614.2 bt609.2.2 t616).bind fun bt617 => ((impl_wide_shift.f (!(decide (a0 < 0)) == (decide (a2 < 0))) bt614.1 bt617.1 (mn (wrap64 (a1 + a3)) 0)).bind fun bt620 => (if bt617.2 = 0 then ((impl_wide_shift.f bt620.1 bt620.2.1 bt620.2.2 (mx (wrap64 ((wrap64 (-a1)) - a3)) 0)).bind fun bt624 => ((impl_compareSizes.f k bt624.1 bt624.2.1 bt624.2.2 (!(decide (a0 < 0)) == (decide (a2 < 0))) bt614.1 bt617.1).bind fun t627 => (impl_quotientDown.j0 k a3 (t627 == 0) (!(decide (a0 < 0)) == (decide (a2 < 0))) bt609.2.1 bt609.2.2 bt620.1 bt620.2.1 bt620.2.2))) else (impl_quotientDown.j0 k a3 false (!(decide (a0 < 0)) == (decide (a2 < 0))) bt609.2.1 bt609.2.2 bt620.1 bt620.2.1 bt620.2.2))))))))
/-! impl_DivideDown -/
def impl_DivideDown.f (k : Nat) (a0_0 : Int) (a0_1 : Int) (a1_0 : Int) (a1_1 : Int) (a2 : Int) : Option (Int × Int × Bool) := (impl_isDyadic.f a0_0 a0_1).bind fun t643 => (if t643 = true then ((impl_isDyadic.f a1_0 a1_1).bind fun t644 => (if t644 = true then (if a1_0 = 0 then (some (0, 0, false)) else ((impl_isPlaces.f a2).bind fun t645 => (if t645 = true then ((impl_quotientDown.f k a0_0 (wrap64 (a1_1 - a0_1)) a1_0 a2).bind fun bt646 => (some (bt646.1, bt646.2.1, bt646.2.2))) else (some (0, 0, false))))) else (some (0, 0, false)))) else (some (0, 0, false)))
/-! laws_FnExactDivideDown -/
def laws_FnExactDivideDown.f (k : Nat) (a0_0 : Int) (a0_1 : Int) (a1_0 : Int) (a1_1 : Int) (a2 : Int) : Option (Bool) := (laws_toDyadic.f a0_0 a0_1).bind fun bt651 => ((laws_toDyadic.f a1_0 a1_1).bind fun bt653 => ((spec_DivideDown.f k bt651.1 bt651.2 bt653.1 bt653.2 a2).bind fun bt655 => ((laws_toDyadic.f a0_0 a0_1).bind fun bt659 => ((laws_toDyadic.f a1_0 a1_1).bind fun bt661 => ((impl_DivideDown.f k bt659.1 bt659.2 bt661.1 bt661.2 a2).bind fun bt663 => ((laws_eqDyadic.f bt663.1 bt663.2.1 bt655.1 bt655.2.1).bind fun t667 => (if t667 = true then (if (bt663.2.2 != bt655.2.2) = true then (none) else (some true)) else (none))))))))
/-! spec_dySquareIn -/
/-! spec_dyRoot -/
/-! spec_RootDown -/
/-! impl_RootDown -/
/-! laws_FnExactRootDown -/
end Go.Proofs.Ythgalpfnfidcdaa.PD
