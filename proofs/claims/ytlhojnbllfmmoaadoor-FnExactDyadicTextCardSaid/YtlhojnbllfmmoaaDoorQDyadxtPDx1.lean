-- By wip/mk/drv.py
import Derived.Test.YtlhojnbllfmmoaaDoorQDyadxtPDx0
namespace Go.Proofs.YtlhojnbllfmmoaaDoor.PD
open Go.RowKit Go.Proofs.YtlhojnbllfmmoaaDoorW.PrintWords Go.Proofs.YtlhojnbllfmmoaaDoorW.PrintLast Go.Proofs.YtlhojnbllfmmoaaDoorW.PrintMore
attribute [local go_sem] max2_int min2_int max_two min_two max_three min_three max_four min_four
set_option linter.unusedVariables false
set_option linter.unusedSimpArgs false
/-! spec_l1In -/
def spec_l1In.f (a0 : Int) (a1 : Int) (a2 : Int) : Option (Bool) := if a0 ≥ a1 then (some (decide (a0 ≤ a2))) else (some false)
/-! spec_dyGood -/
def spec_dyGood.f (a0_0 : Int) (a0_1 : Int) : Option (Bool) := (spec_l1In.f a0_1 0 24).bind fun t102 => (if t102 = true then ((spec_l1In.f a0_0 (-1099511627776) 1099511627776).bind fun t103 => (if t103 = true then (if a0_1 = 0 then (some true) else (some ((Int.tmod a0_0 2) != 0))) else (some false))) else (some false))
/-! spec_l1Num -/
def spec_l1Num.f : Nat → Int → Option (ByteArray)
  | 0, _ => none
  | k + 1, a0 => if a0 < 10 then (some (strOfNums (([(wrap64 (48 + a0)) % 256] : List Int)))) else ((spec_l1Num.f k (wrap64 (Int.tdiv a0 10))).bind fun t107 => ((some (([(wrap64 (48 + (Int.tmod a0 10))) % 256] : List Int) : List Int)).bind fun y108 => (if t107.size + (strOfNums y108).size ≤ 9223372036854775807 then (some (t107 ++ (strOfNums y108))) else (none))))
/-! spec_l1Int -/
def spec_l1Int.f (k : Nat) (a0 : Int) : Option (ByteArray) := if a0 < 0 then ((spec_l1Num.f k (wrap64 (-a0))).bind fun t111 => (if 1 + t111.size ≤ 9223372036854775807 then (some ((⟨#[45]⟩ : ByteArray) ++ t111)) else (none))) else ((spec_l1Num.f k a0).bind fun t112 => (some t112))
/-! spec_dyText -/
def spec_dyText.f (k : Nat) (a0_0 : Int) (a0_1 : Int) : Option (ByteArray) := if a0_1 = 0 then ((spec_l1Int.f k a0_0).bind fun t114 => (some t114)) else ((spec_l1Int.f k a0_0).bind fun t115 => (if t115.size + 3 ≤ 9223372036854775807 then ((spec_l1Num.f k a0_1).bind fun t116 => (if (t115 ++ (⟨#[47, 50, 94]⟩ : ByteArray)).size + t116.size ≤ 9223372036854775807 then (some ((t115 ++ (⟨#[47, 50, 94]⟩ : ByteArray)) ++ t116)) else (none))) else (none)))
/-! spec_DyadicText -/
def spec_DyadicText.f (k : Nat) (a0_0 : Int) (a0_1 : Int) : Option (ByteArray × Bool) := (spec_dyGood.f a0_0 a0_1).bind fun t118 => (if t118 = true then ((spec_dyText.f k a0_0 a0_1).bind fun t119 => (some (t119, true))) else (some ((⟨#[]⟩ : ByteArray), false)))
/-! laws_toDyadic -/
def laws_toDyadic.f (a0_0 : Int) (a0_1 : Int) : Option (Int × Int) := some (a0_0, a0_1)
/-! impl_inside -/
def impl_inside.f (a0 : Int) (a1 : Int) (a2 : Int) : Option (Bool) := if a0 ≥ a1 then (some (decide (a0 ≤ a2))) else (some false)
/-! impl_isPlaces -/
def impl_isPlaces.f (a0 : Int) : Option (Bool) := (impl_inside.f a0 0 24).bind fun t123 => (some t123)
/-! impl_isDyadic -/
def impl_isDyadic.f (a0_0 : Int) (a0_1 : Int) : Option (Bool) := (impl_isPlaces.f a0_1).bind fun t125 => (if t125 = true then ((impl_inside.f a0_0 (-1099511627776) 1099511627776).bind fun t126 => (if t126 = true then (if a0_1 = 0 then (some true) else (some ((Int.tmod a0_0 2) != 0))) else (some false))) else (some false))
/-! strconv_small -/
/-! strconv_log10Pow2 -/
/-! bits_Len64 -/
/-! strconv_bool2_int -/
/-! strconv_isPowerOfTwo -/
/-! strconv_Itoa_24 -/
-- HAND rounds=0 making=1
/-- A whole number in decimal digits. -/
def strconv_Itoa_24.f (a0 : Int) : Option ByteArray := if -9223372036854775808 ≤ a0 ∧ a0 ≤ 9223372036854775807 then some ⟨(Lib.itoa a0).toArray⟩ else none
/-! impl_dyadicText -/
def impl_dyadicText.f (a0_0 : Int) (a0_1 : Int) : Option (ByteArray) := if a0_1 = 0 then ((strconv_Itoa_24.f a0_0).bind fun t147 => (some t147)) else ((strconv_Itoa_24.f a0_0).bind fun t148 => (if t148.size + 3 ≤ 9223372036854775807 then ((strconv_Itoa_24.f a0_1).bind fun t149 => (if (t148 ++ (⟨#[47, 50, 94]⟩ : ByteArray)).size + t149.size ≤ 9223372036854775807 then (some ((t148 ++ (⟨#[47, 50, 94]⟩ : ByteArray)) ++ t149)) else (none))) else (none)))
/-! impl_DyadicText -/
def impl_DyadicText.f (a0_0 : Int) (a0_1 : Int) : Option (ByteArray × Bool) := (impl_isDyadic.f a0_0 a0_1).bind fun t151 => (if t151 = true then ((impl_dyadicText.f a0_0 a0_1).bind fun t152 => (some (t152, true))) else (some ((⟨#[]⟩ : ByteArray), false)))
/-! laws_FnExactDyadicText -/
def laws_FnExactDyadicText.f (k : Nat) (a0_0 : Int) (a0_1 : Int) : Option (Bool) := (laws_toDyadic.f a0_0 a0_1).bind fun bt154 => ((spec_DyadicText.f k bt154.1 bt154.2).bind fun bt156 => ((laws_toDyadic.f a0_0 a0_1).bind fun bt158 => ((impl_DyadicText.f bt158.1 bt158.2).bind fun bt160 => (if bt160.1.toList = bt156.1.toList then (if (bt160.2 != bt156.2) = true then (none) else (some true)) else (none)))))
/-! spec_dyPower -/
/-! spec_dyDown -/
/-! spec_dyFloor -/
/-! spec_l1Sign -/
/-! spec_dyAt -/
/-! spec_dyCmp -/
/-! spec_ivGood -/
/-! spec_ivText -/
/-! spec_IntervalText -/
/-! laws_toInterval -/
/-! impl_wide_isZero -/
/-! cmp_Or_int -/
/-! cmp_isNaN_uint64 -/
/-! cmp_Compare_uint64 -/
/-! impl_compareSizes -/
/-! impl_compareWide -/
/-! impl_size -/
/-! impl_wideOf -/
/-! impl_wide_shift -/
/-! impl_compareD -/
/-! impl_isInterval -/
/-! impl_intervalText -/
/-! impl_IntervalText -/
/-! laws_FnExactIntervalText -/
end Go.Proofs.YtlhojnbllfmmoaaDoor.PD
