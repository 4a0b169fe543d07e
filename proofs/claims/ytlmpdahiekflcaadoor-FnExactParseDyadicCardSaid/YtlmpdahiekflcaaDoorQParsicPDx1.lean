-- By wip/mk/drv.py
import Derived.Test.YtlmpdahiekflcaaDoorQParsicPDx0
namespace Go.Proofs.YtlmpdahiekflcaaDoor.PD
open Go.RowKit Go.Proofs.YtlmpdahiekflcaaDoorW.PrintWords Go.Proofs.YtlmpdahiekflcaaDoorW.PrintLast Go.Proofs.YtlmpdahiekflcaaDoorW.PrintMore
attribute [local go_sem] max2_int min2_int max_two min_two max_three min_three max_four min_four
set_option linter.unusedVariables false
set_option linter.unusedSimpArgs false
/-! spec_l1Split -/
def spec_l1Split.l0 : Nat → ByteArray → Int → List ByteArray → Int → Int → Option (List ByteArray)
  | 0, _, _, _, _, _ => none
  | k + 1, x0, x1, x5, x6, x7 => if x7 < (x0.size : Int) then (if 0 ≤ x7 then (if (bt x0 x7) = x1 then (if 0 ≤ x6 then (if x6 ≤ x7 then (if x7 ≤ (x0.size : Int) then (if x5.length < 8796093022208 then (spec_l1Split.l0 k x0 x1 (x5 ++ [x0.extract (x6 : Int).toNat (x7 : Int).toNat]) (wrap64 (x7 + 1)) (wrap64 (x7 + 1))) else (none)) else (none)) else (none)) else (none)) else (spec_l1Split.l0 k x0 x1 x5 x6 (wrap64 (x7 + 1)))) else (none)) else (if 0 ≤ x6 then (if x6 ≤ (x0.size : Int) then (if x5.length < 8796093022208 then (some (x5 ++ [x0.extract (x6 : Int).toNat x0.size])) else (none)) else (none)) else (none))
def spec_l1Split.f (k : Nat) (a0 : ByteArray) (a1 : Int) : Option (List ByteArray) := spec_l1Split.l0 k a0 a1 ([] : List ByteArray) 0 0
/-! spec_dyRead -/
mutual
def spec_dyRead.j0 : Nat → ByteArray → Int → Bool → Option (Int)
  | 0, _, _, _ => none
  | k + 1, x0, x3, x13 => if x13 = true then (if 1 ≤ (x0.size : Int) then (spec_dyRead.j1 k (x0.extract 1 x0.size) (-1)) else (none)) else (spec_dyRead.j1 k x0 x3)
def spec_dyRead.j1 : Nat → ByteArray → Int → Option (Int)
  | 0, _, _ => none
  | k + 1, x0, x3 => spec_dyRead.l0 k x0 x3 0 0
def spec_dyRead.l0 : Nat → ByteArray → Int → Int → Int → Option (Int)
  | 0, _, _, _, _ => none
  | k + 1, x0, x3, x4, x5 => if x5 < (x0.size : Int) then (if 0 ≤ x5 then (if (bt x0 x5) < 48 then (some 2199023255552) else (if (bt x0 x5) > 57 then (some 2199023255552) else (if x4 > 10995116277760 then (some 2199023255552) else (spec_dyRead.l0 k x0 x3 (wrap64 ((wrap64 (10 * x4)) + (((bt x0 x5) - 48) % 256))) (wrap64 (x5 + 1)))))) else (none)) else (some (wrap64 (x3 * x4)))
end
def spec_dyRead.f (k : Nat) (a0 : ByteArray) : Option (Int) := if (a0.size : Int) > 0 then (if 0 < (a0.size : Int) then (spec_dyRead.j0 k a0 1 ((bt a0 0) == 45)) else (none)) else (spec_dyRead.j0 k a0 1 false)
/-! spec_l1In -/
def spec_l1In.f (a0 : Int) (a1 : Int) (a2 : Int) : Option (Bool) := if a0 ≥ a1 then (some (decide (a0 ≤ a2))) else (some false)
/-! spec_l1Read -/
mutual
def spec_l1Read.j0 : Nat → ByteArray → Bool → Option (Int)
  | 0, _, _ => none
  | k + 1, x0, x18 => if x18 = true then (some (-1)) else (spec_l1Read.l0 k x0 0 0)
def spec_l1Read.l0 : Nat → ByteArray → Int → Int → Option (Int)
  | 0, _, _, _ => none
  | k + 1, x0, x3, x4 => if x4 < (x0.size : Int) then (if 0 ≤ x4 then (if (bt x0 x4) < 48 then (some (-1)) else (if (bt x0 x4) > 57 then (some (-1)) else (spec_l1Read.l0 k x0 (wrap64 ((wrap64 (10 * x3)) + (((bt x0 x4) - 48) % 256))) (wrap64 (x4 + 1))))) else (none)) else (some x3)
end
def spec_l1Read.f (k : Nat) (a0 : ByteArray) : Option (Int) := (spec_l1In.f (a0.size : Int) 1 6).bind fun t107 => (if t107 = true then (if 0 < (a0.size : Int) then (if (bt a0 0) = 48 then (spec_l1Read.j0 k a0 (decide ((a0.size : Int) > 1))) else (spec_l1Read.j0 k a0 false)) else (none)) else (spec_l1Read.j0 k a0 true))
/-! spec_dyGood -/
def spec_dyGood.f (a0_0 : Int) (a0_1 : Int) : Option (Bool) := (spec_l1In.f a0_1 0 24).bind fun t109 => (if t109 = true then ((spec_l1In.f a0_0 (-1099511627776) 1099511627776).bind fun t110 => (if t110 = true then (if a0_1 = 0 then (some true) else (some ((Int.tmod a0_0 2) != 0))) else (some false))) else (some false))
/-! spec_l1Num -/
def spec_l1Num.f : Nat → Int → Option (ByteArray)
  | 0, _ => none
  | k + 1, a0 => if a0 < 10 then (some (strOfNums (([(wrap64 (48 + a0)) % 256] : List Int)))) else ((spec_l1Num.f k (wrap64 (Int.tdiv a0 10))).bind fun t114 => ((some (([(wrap64 (48 + (Int.tmod a0 10))) % 256] : List Int) : List Int)).bind fun y115 => (if t114.size + (strOfNums y115).size ≤ 9223372036854775807 then (some (t114 ++ (strOfNums y115))) else (none))))
/-! spec_l1Int -/
def spec_l1Int.f (k : Nat) (a0 : Int) : Option (ByteArray) := if a0 < 0 then ((spec_l1Num.f k (wrap64 (-a0))).bind fun t118 => (if 1 + t118.size ≤ 9223372036854775807 then (some ((⟨#[45]⟩ : ByteArray) ++ t118)) else (none))) else ((spec_l1Num.f k a0).bind fun t119 => (some t119))
/-! spec_dyText -/
def spec_dyText.f (k : Nat) (a0_0 : Int) (a0_1 : Int) : Option (ByteArray) := if a0_1 = 0 then ((spec_l1Int.f k a0_0).bind fun t121 => (some t121)) else ((spec_l1Int.f k a0_0).bind fun t122 => (if t122.size + 3 ≤ 9223372036854775807 then ((spec_l1Num.f k a0_1).bind fun t123 => (if (t122 ++ (⟨#[47, 50, 94]⟩ : ByteArray)).size + t123.size ≤ 9223372036854775807 then (some ((t122 ++ (⟨#[47, 50, 94]⟩ : ByteArray)) ++ t123)) else (none))) else (none)))
/-! spec_dyParse -/
mutual
def spec_dyParse.j0 : Nat → ByteArray → List ByteArray → Bool → Option (Int × Int × Bool)
  | 0, _, _, _ => none
  | k + 1, x0, x4, x15 => if x15 = true then (some (0, 0, false)) else (if 0 < (x4.length : Int) then ((spec_dyRead.f k (rdOf ByteArray.empty x4 0)).bind fun t129 => (if (x4.length : Int) = 2 then (if 1 < (x4.length : Int) then (spec_dyParse.j1 k x0 x4 (decide (((rdOf ByteArray.empty x4 1).size : Int) > 2)) t129 0) else (none)) else (spec_dyParse.j1 k x0 x4 false t129 0))) else (none))
def spec_dyParse.j1 : Nat → ByteArray → List ByteArray → Bool → Int → Int → Option (Int × Int × Bool)
  | 0, _, _, _, _, _ => none
  | k + 1, x0, x4, x31, x131000, x131001 => if x31 = true then (if 1 < (x4.length : Int) then (if 2 ≤ ((rdOf ByteArray.empty x4 1).size : Int) then ((spec_l1Read.f k ((rdOf ByteArray.empty x4 1).extract 2 (rdOf ByteArray.empty x4 1).size)).bind fun t133 => (spec_dyParse.j2 k x0 x131000 t133)) else (none)) else (none)) else (spec_dyParse.j2 k x0 x131000 x131001)
def spec_dyParse.j2 : Nat → ByteArray → Int → Int → Option (Int × Int × Bool)
  | 0, _, _, _ => none
  | k + 1, x0, x131000, x131001 => (spec_dyGood.f x131000 x131001).bind fun t134 => (if t134 = true then ((spec_dyText.f k x131000 x131001).bind fun t135 => (if t135.toList = x0.toList then (some (x131000, x131001, true)) else (some (0, 0, false)))) else (some (0, 0, false)))
end
def spec_dyParse.f (k : Nat) (a0 : ByteArray) : Option (Int × Int × Bool) := (spec_l1Split.f k a0 47).bind fun t125 => (if (a0.size : Int) > 20 then (spec_dyParse.j0 k a0 t125 true) else (spec_dyParse.j0 k a0 t125 (decide ((t125.length : Int) > 2))))
/-! spec_ParseDyadic -/
def spec_ParseDyadic.f (k : Nat) (a0 : ByteArray) : Option (Int × Int × Bool) := (spec_dyParse.f k a0).bind fun bt137 => (some (bt137.1, bt137.2.1, bt137.2.2))
/-! bytealg_Cutover -/
/-! bytealg_hashStr_string -/
/-! bytealg_IndexRabinKarp_string -/
/-! strconv_lower -/
/-! strconv_underscoreOK -/
/-! strconv_small -/
/-! strconv_log10Pow2 -/
/-! bits_Len64 -/
/-! strconv_bool2_int -/
/-! strconv_isPowerOfTwo -/
/-! strconv_Itoa_22 -/
-- HAND rounds=0 making=1
/-- A whole number in decimal digits. -/
def strconv_Itoa_22.f (a0 : Int) : Option ByteArray := if -9223372036854775808 ≤ a0 ∧ a0 ≤ 9223372036854775807 then some ⟨(Lib.itoa a0).toArray⟩ else none
/-! impl_inside -/
def impl_inside.f (a0 : Int) (a1 : Int) (a2 : Int) : Option (Bool) := if a0 ≥ a1 then (some (decide (a0 ≤ a2))) else (some false)
/-! impl_isPlaces -/
def impl_isPlaces.f (a0 : Int) : Option (Bool) := (impl_inside.f a0 0 24).bind fun t176 => (some t176)
/-! impl_isDyadic -/
def impl_isDyadic.f (a0_0 : Int) (a0_1 : Int) : Option (Bool) := (impl_isPlaces.f a0_1).bind fun t178 => (if t178 = true then ((impl_inside.f a0_0 (-1099511627776) 1099511627776).bind fun t179 => (if t179 = true then (if a0_1 = 0 then (some true) else (some ((Int.tmod a0_0 2) != 0))) else (some false))) else (some false))
/-! impl_dyadicText -/
def impl_dyadicText.f (a0_0 : Int) (a0_1 : Int) : Option (ByteArray) := if a0_1 = 0 then ((strconv_Itoa_22.f a0_0).bind fun t181 => (some t181)) else ((strconv_Itoa_22.f a0_0).bind fun t182 => (if t182.size + 3 ≤ 9223372036854775807 then ((strconv_Itoa_22.f a0_1).bind fun t183 => (if (t182 ++ (⟨#[47, 50, 94]⟩ : ByteArray)).size + t183.size ≤ 9223372036854775807 then (some ((t182 ++ (⟨#[47, 50, 94]⟩ : ByteArray)) ++ t183)) else (none))) else (none)))
/-! impl_ParseDyadic -/
-- HAND rounds=0 making=1
def impl_ParseDyadic.cut (s : ByteArray) : List UInt8 × List UInt8 × Bool := Lib.cut s.data.toList [47, 50, 94]
def impl_ParseDyadic.n1 (s : ByteArray) : Lib.NumEnd Int := Lib.atoiAll (impl_ParseDyadic.cut s).1
def impl_ParseDyadic.n2 (s : ByteArray) : Lib.NumEnd Int := if (impl_ParseDyadic.cut s).2.2 = true then Lib.atoiAll (impl_ParseDyadic.cut s).2.1 else .ok 0
def impl_ParseDyadic.fin (s : ByteArray) (n k : Int) : Option (Int × Int × Bool) := (impl_isDyadic.f n k).bind fun g => (if g = true then ((impl_dyadicText.f n k).bind fun t => (if t.toList = s.toList then (some (n, k, true)) else (some (0, 0, false)))) else (some (0, 0, false)))
def impl_ParseDyadic.g (s : ByteArray) (a b : Lib.NumEnd Int) : Option (Int × Int × Bool) := match a, b with
  | .ok n, .ok k => impl_ParseDyadic.fin s n k
  | _, _ => some (0, 0, false)
def impl_ParseDyadic.f (a0 : ByteArray) : Option (Int × Int × Bool) := if a0.size ≤ 1000000 then impl_ParseDyadic.g a0 (impl_ParseDyadic.n1 a0) (impl_ParseDyadic.n2 a0) else none
/-! laws_eqDyadic -/
def laws_eqDyadic.f (a0_0 : Int) (a0_1 : Int) (a1_0 : Int) (a1_1 : Int) : Option (Bool) := if a0_0 = a1_0 then (if a0_1 = a1_1 then (some true) else (some false)) else (some false)
/-! laws_FnExactParseDyadic -/
def laws_FnExactParseDyadic.f (k : Nat) (a0 : ByteArray) : Option (Bool) := if (a0.size : Int) > 1000000 then (some true) else ((spec_ParseDyadic.f k a0).bind fun bt186 => ((impl_ParseDyadic.f a0).bind fun bt190 => ((laws_eqDyadic.f bt190.1 bt190.2.1 bt186.1 bt186.2.1).bind fun t194 => (if t194 = true then (if (bt190.2.2 != bt186.2.2) = true then (none) else (some true)) else (none)))))
end Go.Proofs.YtlmpdahiekflcaaDoor.PD
