-- By wip/mk/drv.py
import Derived.Test.YtlhojnbllfmmoaaDoorQIntextPDx0
namespace Go.Proofs.YtlhojnbllfmmoaaDoor.PD
open Go.RowKit Go.Proofs.YtlhojnbllfmmoaaDoorW.PrintWords Go.Proofs.YtlhojnbllfmmoaaDoorW.PrintLast Go.Proofs.YtlhojnbllfmmoaaDoorW.PrintMore
attribute [local go_sem] max2_int min2_int max_two min_two max_three min_three max_four min_four
set_option linter.unusedVariables false
set_option linter.unusedSimpArgs false
/-! spec_l1In -/
def spec_l1In.f (a0 : Int) (a1 : Int) (a2 : Int) : Option (Bool) := if a0 ≥ a1 then (some (decide (a0 ≤ a2))) else (some false)
/-! spec_dyGood -/
def spec_dyGood.f (a0_0 : Int) (a0_1 : Int) : Option (Bool) := (spec_l1In.f a0_1 0 24).bind fun t102 => (if t102 = true then ((spec_l1In.f a0_0 (-1099511627776) 1099511627776).bind fun t103 => (if t103 = true then (if a0_1 = 0 then (some true) else (some ((Int.tmod a0_0 2) != 0))) else (some false))) else (some false))
/-! spec_l1Num -/
def spec_l1Num.f : Nat → Int → Option (ByteArray)
  | 0, _ => none
  | k + 1, a0 => if a0 < 10 then (some (strOfNums (([(wrap64 (48 + a0)) % 256] : List Int)))) else ((spec_l1Num.f k (wrap64 (Int.tdiv a0 10))).bind fun t107 => ((some (([(wrap64 (48 + (Int.tmod a0 10))) % 256] : List Int) : List Int)).bind fun y108 => (if t107.size + (strOfNums y108).size ≤ 9223372036854775807 then (some (t107 ++ (strOfNums y108))) else (none))))
/-! spec_l1Int -/
def spec_l1Int.f (k : Nat) (a0 : Int) : Option (ByteArray) := if a0 < 0 then ((spec_l1Num.f k (wrap64 (-a0))).bind fun t111 => (if 1 + t111.size ≤ 9223372036854775807 then (some ((⟨#[45]⟩ : ByteArray) ++ t111)) else (none))) else ((spec_l1Num.f k a0).bind fun t112 => (some t112))
/-! spec_dyText -/
def spec_dyText.f (k : Nat) (a0_0 : Int) (a0_1 : Int) : Option (ByteArray) := if a0_1 = 0 then ((spec_l1Int.f k a0_0).bind fun t114 => (some t114)) else ((spec_l1Int.f k a0_0).bind fun t115 => (if t115.size + 3 ≤ 9223372036854775807 then ((spec_l1Num.f k a0_1).bind fun t116 => (if (t115 ++ (⟨#[47, 50, 94]⟩ : ByteArray)).size + t116.size ≤ 9223372036854775807 then (some ((t115 ++ (⟨#[47, 50, 94]⟩ : ByteArray)) ++ t116)) else (none))) else (none)))
/-! spec_DyadicText -/
/-! laws_toDyadic -/
def laws_toDyadic.f (a0_0 : Int) (a0_1 : Int) : Option (Int × Int) := some (a0_0, a0_1)
/-! impl_inside -/
def impl_inside.f (a0 : Int) (a1 : Int) (a2 : Int) : Option (Bool) := if a0 ≥ a1 then (some (decide (a0 ≤ a2))) else (some false)
/-! impl_isPlaces -/
def impl_isPlaces.f (a0 : Int) : Option (Bool) := (impl_inside.f a0 0 24).bind fun t123 => (some t123)
/-! impl_isDyadic -/
def impl_isDyadic.f (a0_0 : Int) (a0_1 : Int) : Option (Bool) := (impl_isPlaces.f a0_1).bind fun t125 => (if t125 = true then ((impl_inside.f a0_0 (-1099511627776) 1099511627776).bind fun t126 => (if t126 = true then (if a0_1 = 0 then (some true) else (some ((Int.tmod a0_0 2) != 0))) else (some false))) else (some false))
/-! strconv_small -/
/-! strconv_log10Pow2 -/
/-! bits_Len64 -/
/-! strconv_bool2_int -/
/-! strconv_isPowerOfTwo -/
/-! strconv_Itoa_24 -/
-- HAND rounds=0 making=1
/-- A whole number in decimal digits. -/
def strconv_Itoa_24.f (a0 : Int) : Option ByteArray := if -9223372036854775808 ≤ a0 ∧ a0 ≤ 9223372036854775807 then some ⟨(Lib.itoa a0).toArray⟩ else none
/-! impl_dyadicText -/
def impl_dyadicText.f (a0_0 : Int) (a0_1 : Int) : Option (ByteArray) := if a0_1 = 0 then ((strconv_Itoa_24.f a0_0).bind fun t147 => (some t147)) else ((strconv_Itoa_24.f a0_0).bind fun t148 => (if t148.size + 3 ≤ 9223372036854775807 then ((strconv_Itoa_24.f a0_1).bind fun t149 => (if (t148 ++ (⟨#[47, 50, 94]⟩ : ByteArray)).size + t149.size ≤ 9223372036854775807 then (some ((t148 ++ (⟨#[47, 50, 94]⟩ : ByteArray)) ++ t149)) else (none))) else (none)))
/-! impl_DyadicText -/
/-! laws_FnExactDyadicText -/
/-! spec_dyPower -/
def spec_dyPower.f (a0 : Int) : Option (Int) := if 0 ≤ (IntKind.u64.wrap (a0)) then (some (shl .i64 1 (IntKind.u64.wrap (a0)))) else (none)
/-! spec_dyDown -/
def spec_dyDown.f (a0 : Int) (a1 : Int) : Option (Int) := if a1 = 0 then (none) else (if (Int.tmod a0 a1) < 0 then (some (wrap64 ((wrap64 (Int.tdiv a0 a1)) - 1))) else (some (wrap64 (Int.tdiv a0 a1))))
/-! spec_dyFloor -/
def spec_dyFloor.f (a0_0 : Int) (a0_1 : Int) : Option (Int) := (spec_dyPower.f a0_1).bind fun t163 => ((spec_dyDown.f a0_0 t163).bind fun t164 => (some t164))
/-! spec_l1Sign -/
def spec_l1Sign.f (a0 : Int) : Option (Int) := if a0 > 0 then (some 1) else (if a0 < 0 then (some (-1)) else (some 0))
/-! spec_dyAt -/
def spec_dyAt.l0 : Nat → Int → Int → Int → Int → Option (Int × Bool)
  | 0, _, _, _, _ => none
  | k + 1, x1, x6, x166000, x166001 => if x6 < x1 then ((spec_dyPower.f 60).bind fun t166 => ((spec_l1In.f x166000 (wrap64 (-t166)) t166).bind fun t167 => (if t167 = true then (spec_dyAt.l0 k x1 (wrap64 (x6 + 1)) (wrap64 (x166000 * 2)) x166001) else (some (0, false))))) else (some (x166000, true))
def spec_dyAt.f (k : Nat) (a0_0 : Int) (a0_1 : Int) (a1 : Int) : Option (Int × Bool) := if a0_0 = 0 then (some (0, true)) else (spec_dyAt.l0 k a1 a0_1 a0_0 a0_1)
/-! spec_dyCmp -/
def spec_dyCmp.f (k : Nat) (a0_0 : Int) (a0_1 : Int) (a1_0 : Int) (a1_1 : Int) : Option (Int) := (spec_dyFloor.f a0_0 a0_1).bind fun t170 => ((spec_dyFloor.f a1_0 a1_1).bind fun t171 => (if t170 = t171 then ((spec_dyPower.f a0_1).bind fun t173 => ((spec_dyAt.f k (wrap64 (a0_0 - (wrap64 (t170 * t173)))) a0_1 24).bind fun bt174 => ((spec_dyPower.f a1_1).bind fun t176 => ((spec_dyAt.f k (wrap64 (a1_0 - (wrap64 (t171 * t176)))) a1_1 24).bind fun bt177 => ((spec_l1Sign.f (wrap64 (bt174.1 - bt177.1))).bind fun t179 => (some t179)))))) else ((spec_l1Sign.f (wrap64 (t170 - t171))).bind fun t172 => (some t172))))
/-! spec_ivGood -/
def spec_ivGood.f (k : Nat) (a0_0 : Int) (a0_1 : Int) (a0_2 : Int) (a0_3 : Int) : Option (Bool) := (spec_dyGood.f a0_0 a0_1).bind fun t181 => (if t181 = true then ((spec_dyGood.f a0_2 a0_3).bind fun t182 => (if t182 = true then ((spec_dyCmp.f k a0_0 a0_1 a0_2 a0_3).bind fun t183 => (some (decide (t183 ≤ 0)))) else (some false))) else (some false))
/-! spec_ivText -/
def spec_ivText.f (k : Nat) (a0_0 : Int) (a0_1 : Int) (a0_2 : Int) (a0_3 : Int) : Option (ByteArray) := (spec_dyText.f k a0_0 a0_1).bind fun t185 => (if 1 + t185.size ≤ 9223372036854775807 then (if ((⟨#[91]⟩ : ByteArray) ++ t185).size + 1 ≤ 9223372036854775807 then ((spec_dyText.f k a0_2 a0_3).bind fun t186 => (if (((⟨#[91]⟩ : ByteArray) ++ t185) ++ (⟨#[44]⟩ : ByteArray)).size + t186.size ≤ 9223372036854775807 then (if ((((⟨#[91]⟩ : ByteArray) ++ t185) ++ (⟨#[44]⟩ : ByteArray)) ++ t186).size + 1 ≤ 9223372036854775807 then (some (((((⟨#[91]⟩ : ByteArray) ++ t185) ++ (⟨#[44]⟩ : ByteArray)) ++ t186) ++ (⟨#[93]⟩ : ByteArray))) else (none)) else (none))) else (none)) else (none))
/-! spec_IntervalText -/
def spec_IntervalText.f (k : Nat) (a0_0 : Int) (a0_1 : Int) (a0_2 : Int) (a0_3 : Int) : Option (ByteArray × Bool) := (spec_ivGood.f k a0_0 a0_1 a0_2 a0_3).bind fun t188 => (if t188 = true then ((spec_ivText.f k a0_0 a0_1 a0_2 a0_3).bind fun t189 => (some (t189, true))) else (some ((⟨#[]⟩ : ByteArray), false)))
/-! laws_toInterval -/
def laws_toInterval.f (a0_0 : Int) (a0_1 : Int) (a0_2 : Int) (a0_3 : Int) : Option (Int × Int × Int × Int) := (laws_toDyadic.f a0_0 a0_1).bind fun bt193 => ((laws_toDyadic.f a0_2 a0_3).bind fun bt195 => (some (bt193.1, bt193.2, bt195.1, bt195.2)))
/-! impl_wide_isZero -/
def impl_wide_isZero.f (a0_0 : Bool) (a0_1 : Int) (a0_2 : Int) : Option (Bool) := if a0_1 = 0 then (some (a0_2 == 0)) else (some false)
/-! cmp_Or_int -/
def cmp_Or_int.l0 : Nat → Int → List Int → Int → Int → Option (Int)
  | 0, _, _, _, _ => none
  | k + 1, x3, x6, x7, x8 => if x8 < x7 then (if 0 ≤ x8 then (if x8 < (x6.length : Int) then (if (rd x6 x8) = x3 then (cmp_Or_int.l0 k x3 x6 x7 (wrap64 (x8 + 1))) else (some (rd x6 x8))) else (none)) else (none)) else (some x3)
def cmp_Or_int.f (k : Nat) (l0 : List Int) : Option (Int) := cmp_Or_int.l0 k 0 l0 (l0.length : Int) 0
/-! cmp_isNaN_uint64 -/
def cmp_isNaN_uint64.f (a0 : Int) : Option (Bool) := some (a0 != a0)
/-! cmp_Compare_uint64 -/
def cmp_Compare_uint64.f (a0 : Int) (a1 : Int) : Option (Int) := (cmp_isNaN_uint64.f a0).bind fun t199 => ((cmp_isNaN_uint64.f a1).bind fun t200 => (if t199 = true then (if t200 = true then (some 0) else (some (-1))) else (if t200 = true then (some 1) else (if a0 < a1 then (some (-1)) else (if a0 > a1 then (some 1) else (some 0))))))
/-! impl_compareSizes -/
def impl_compareSizes.f (k : Nat) (a0_0 : Bool) (a0_1 : Int) (a0_2 : Int) (a1_0 : Bool) (a1_1 : Int) (a1_2 : Int) : Option (Int) := (cmp_Compare_uint64.f a0_1 a1_1).bind fun t203 => ((cmp_Compare_uint64.f a0_2 a1_2).bind fun t204 => ((cmp_Or_int.f k (([t203, t204] : List Int))).bind fun t208 => (some t208)))
/-! impl_compareWide -/
def impl_compareWide.j0 : Nat → Bool → Bool → Int → Int → Bool → Int → Int → Option (Int)
  | 0, _, _, _, _, _, _, _ => none
  | k + 1, x5, x210000, x210001, x210002, x211000, x211001, x211002 => if x5 = true then (some 0) else (if (x210000 != x211000) = true then (if x210000 = true then (some (-1)) else (some 1)) else (if x210000 = true then ((impl_compareSizes.f k x211000 x211001 x211002 x210000 x210001 x210002).bind fun t213 => (some t213)) else ((impl_compareSizes.f k x210000 x210001 x210002 x211000 x211001 x211002).bind fun t214 => (some t214))))
def impl_compareWide.f (k : Nat) (a0_0 : Bool) (a0_1 : Int) (a0_2 : Int) (a1_0 : Bool) (a1_1 : Int) (a1_2 : Int) : Option (Int) := (impl_wide_isZero.f a0_0 a0_1 a0_2).bind fun t211 => (if t211 = true then ((impl_wide_isZero.f a1_0 a1_1 a1_2).bind fun t212 => (impl_compareWide.j0 k t212 a0_0 a0_1 a0_2 a1_0 a1_1 a1_2)) else (impl_compareWide.j0 k false a0_0 a0_1 a0_2 a1_0 a1_1 a1_2))
/-! impl_size -/
def impl_size.f (a0 : Int) : Option (Int) := if a0 < 0 then (some (IntKind.u64.wrap (wrap64 (-a0)))) else (some (IntKind.u64.wrap (a0)))
/-! impl_wideOf -/
def impl_wideOf.f (a0 : Int) : Option (Bool × Int × Int) := (impl_size.f a0).bind fun t216 => (some (decide (a0 < 0), 0, t216))
/-! impl_wide_shift -/
def impl_wide_shift.f (a0_0 : Bool) (a0_1 : Int) (a0_2 : Int) (a1 : Int) : Option (Bool × Int × Int) := if a1 ≥ 0 then (if a1 ≥ 64 then (if 0 ≤ (wrap64 (a1 - 64)) then (some (a0_0, shl .u64 a0_2 (wrap64 (a1 - 64)), 0)) else (none)) else (if 0 ≤ a1 then (if 0 ≤ (wrap64 (64 - a1)) then (some (a0_0, Go.bits .or .u64 (shl .u64 a0_1 a1) (shr .u64 a0_2 (wrap64 (64 - a1))), shl .u64 a0_2 a1)) else (none)) else (none))) else (if (wrap64 (-a1)) ≥ 64 then (if 0 ≤ (wrap64 ((wrap64 (-a1)) - 64)) then (some (a0_0, 0, shr .u64 a0_1 (wrap64 ((wrap64 (-a1)) - 64)))) else (none)) else (if 0 ≤ (wrap64 (-a1)) then (if 0 ≤ (wrap64 (64 - (wrap64 (-a1)))) then (some (a0_0, shr .u64 a0_1 (wrap64 (-a1)), Go.bits .or .u64 (shr .u64 a0_2 (wrap64 (-a1))) (shl .u64 a0_1 (wrap64 (64 - (wrap64 (-a1))))))) else (none)) else (none)))
/-! impl_compareD -/
def impl_compareD.f (k : Nat) (a0_0 : Int) (a0_1 : Int) (a1_0 : Int) (a1_1 : Int) : Option (Int) := (impl_wideOf.f a0_0).bind fun bt221 => ((impl_wide_shift.f bt221.1 bt221.2.1 bt221.2.2 (wrap64 ((mx a0_1 a1_1) - a0_1))).bind fun bt224 => ((impl_wideOf.f a1_0).bind fun bt227 => ((impl_wide_shift.f bt227.1 bt227.2.1 bt227.2.2 (wrap64 ((mx a0_1 a1_1) - a1_1))).bind fun bt230 => ((impl_compareWide.f k bt224.1 bt224.2.1 bt224.2.2 bt230.1 bt230.2.1 bt230.2.2).bind fun t233 => (some t233)))))
/-! impl_isInterval -/
def impl_isInterval.f (k : Nat) (a0_0 : Int) (a0_1 : Int) (a0_2 : Int) (a0_3 : Int) : Option (Bool) := (impl_isDyadic.f a0_0 a0_1).bind fun t235 => (if t235 = true then ((impl_isDyadic.f a0_2 a0_3).bind fun t236 => (if t236 = true then ((impl_compareD.f k a0_0 a0_1 a0_2 a0_3).bind fun t237 => (some (decide (t237 ≤ 0)))) else (some false))) else (some false))
/-! impl_intervalText -/
def impl_intervalText.f (a0_0 : Int) (a0_1 : Int) (a0_2 : Int) (a0_3 : Int) : Option (ByteArray) := (impl_dyadicText.f a0_0 a0_1).bind fun t239 => (if 1 + t239.size ≤ 9223372036854775807 then (if ((⟨#[91]⟩ : ByteArray) ++ t239).size + 1 ≤ 9223372036854775807 then ((impl_dyadicText.f a0_2 a0_3).bind fun t240 => (if (((⟨#[91]⟩ : ByteArray) ++ t239) ++ (⟨#[44]⟩ : ByteArray)).size + t240.size ≤ 9223372036854775807 then (if ((((⟨#[91]⟩ : ByteArray) ++ t239) ++ (⟨#[44]⟩ : ByteArray)) ++ t240).size + 1 ≤ 9223372036854775807 then (some (((((⟨#[91]⟩ : ByteArray) ++ t239) ++ (⟨#[44]⟩ : ByteArray)) ++ t240) ++ (⟨#[93]⟩ : ByteArray))) else (none)) else (none))) else (none)) else (none))
/-! impl_IntervalText -/
def impl_IntervalText.f (k : Nat) (a0_0 : Int) (a0_1 : Int) (a0_2 : Int) (a0_3 : Int) : Option (ByteArray × Bool) := (impl_isInterval.f k a0_0 a0_1 a0_2 a0_3).bind fun t242 => (if t242 = true then ((impl_intervalText.f a0_0 a0_1 a0_2 a0_3).bind fun t243 => (some (t243, true))) else (some ((⟨#[]⟩ : ByteArray), false)))
/-! laws_FnExactIntervalText -/
def laws_FnExactIntervalText.f (k : Nat) (a0_0 : Int) (a0_1 : Int) (a0_2 : Int) (a0_3 : Int) : Option (Bool) := (laws_toInterval.f a0_0 a0_1 a0_2 a0_3).bind fun bt245 => ((spec_IntervalText.f k bt245.1 bt245.2.1 bt245.2.2.1 bt245.2.2.2).bind fun bt249 => ((laws_toInterval.f a0_0 a0_1 a0_2 a0_3).bind fun bt251 => ((impl_IntervalText.f k bt251.1 bt251.2.1 bt251.2.2.1 bt251.2.2.2).bind fun bt255 => (if bt255.1.toList = bt249.1.toList then (if (bt255.2 != bt249.2) = true then (none) else (some true)) else (none)))))
end Go.Proofs.YtlhojnbllfmmoaaDoor.PD
