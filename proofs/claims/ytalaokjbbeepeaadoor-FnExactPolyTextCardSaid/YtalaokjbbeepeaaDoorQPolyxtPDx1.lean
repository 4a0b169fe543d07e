-- By wip/mk/drv.py
import Derived.Test.YtalaokjbbeepeaaDoorQPolyxtPDx0
namespace Go.Proofs.YtalaokjbbeepeaaDoor.PD
open Go.RowKit Go.Proofs.YtalaokjbbeepeaaDoorW.PrintWords Go.Proofs.YtalaokjbbeepeaaDoorW.PrintLast Go.Proofs.YtalaokjbbeepeaaDoorW.PrintMore
attribute [local go_sem] max2_int min2_int max_two min_two max_three min_three max_four min_four
set_option linter.unusedVariables false
set_option linter.unusedSimpArgs false
/-! spec_l1In -/
def spec_l1In.f (a0 : Int) (a1 : Int) (a2 : Int) : Option (Bool) := if a0 ≥ a1 then (some (decide (a0 ≤ a2))) else (some false)
/-! spec_poTerm -/
def spec_poTerm.f (a0_0 : Int) (a0_1 : Int) (a0_2 : Int) (a0_3 : Int) : Option (Bool) := (spec_l1In.f a0_0 (-1000) 1000).bind fun t102 => (if t102 = true then ((spec_l1In.f a0_1 0 4).bind fun t103 => (if t103 = true then ((spec_l1In.f a0_2 0 4).bind fun t104 => (if t104 = true then ((spec_l1In.f a0_3 0 4).bind fun t105 => (if t105 = true then (some (decide ((wrap64 ((wrap64 (a0_1 + a0_2)) + a0_3)) ≤ 4))) else (some false))) else (some false))) else (some false))) else (some false))
/-! spec_poPower -/
def spec_poPower.f (a0_0 : Int) (a0_1 : Int) (a0_2 : Int) (a0_3 : Int) (a1 : Int) : Option (Int) := if a1 = 0 then (some a0_1) else (if a1 = 1 then (some a0_2) else (some a0_3))
/-! spec_l1Num -/
def spec_l1Num.f : Nat → Int → Option (ByteArray)
  | 0, _ => none
  | k + 1, a0 => if a0 < 10 then (some (strOfNums (([(wrap64 (48 + a0)) % 256] : List Int)))) else ((spec_l1Num.f k (wrap64 (Int.tdiv a0 10))).bind fun t110 => ((some (([(wrap64 (48 + (Int.tmod a0 10))) % 256] : List Int) : List Int)).bind fun y111 => (if t110.size + (strOfNums y111).size ≤ 9223372036854775807 then (some (t110 ++ (strOfNums y111))) else (none))))
/-! spec_l1Int -/
def spec_l1Int.f (k : Nat) (a0 : Int) : Option (ByteArray) := if a0 < 0 then ((spec_l1Num.f k (wrap64 (-a0))).bind fun t114 => (if 1 + t114.size ≤ 9223372036854775807 then (some ((⟨#[45]⟩ : ByteArray) ++ t114)) else (none))) else ((spec_l1Num.f k a0).bind fun t115 => (some t115))
/-! spec_txTerm -/
mutual
def spec_txTerm.l0 : Nat → ByteArray → Int → Int → Int → Int → Int → Option (ByteArray)
  | 0, _, _, _, _, _, _ => none
  | k + 1, x3, x4, x117000, x117001, x117002, x117003 => if x4 < 3 then ((spec_poPower.f x117000 x117001 x117002 x117003 x4).bind fun t117 => (if t117 = 0 then (spec_txTerm.l0 k x3 (wrap64 (x4 + 1)) x117000 x117001 x117002 x117003) else (if 0 ≤ x4 then (if x4 ≤ (wrap64 (x4 + 1)) then (if (wrap64 (x4 + 1)) ≤ 3 then (if 1 + ((⟨#[120, 121, 122]⟩ : ByteArray).extract (x4 : Int).toNat ((wrap64 (x4 + 1)) : Int).toNat).size ≤ 9223372036854775807 then (if x3.size + ((⟨#[42]⟩ : ByteArray) ++ ((⟨#[120, 121, 122]⟩ : ByteArray).extract (x4 : Int).toNat ((wrap64 (x4 + 1)) : Int).toNat)).size ≤ 9223372036854775807 then (if t117 > 1 then ((spec_l1Num.f k t117).bind fun t118 => (if 1 + t118.size ≤ 9223372036854775807 then (if (x3 ++ ((⟨#[42]⟩ : ByteArray) ++ ((⟨#[120, 121, 122]⟩ : ByteArray).extract (x4 : Int).toNat ((wrap64 (x4 + 1)) : Int).toNat))).size + ((⟨#[94]⟩ : ByteArray) ++ t118).size ≤ 9223372036854775807 then (spec_txTerm.l0 k ((x3 ++ ((⟨#[42]⟩ : ByteArray) ++ ((⟨#[120, 121, 122]⟩ : ByteArray).extract (x4 : Int).toNat ((wrap64 (x4 + 1)) : Int).toNat))) ++ ((⟨#[94]⟩ : ByteArray) ++ t118)) (wrap64 (x4 + 1)) x117000 x117001 x117002 x117003) else (none)) else (none))) else (spec_txTerm.l0 k (x3 ++ ((⟨#[42]⟩ : ByteArray) ++ ((⟨#[120, 121, 122]⟩ : ByteArray).extract (x4 : Int).toNat ((wrap64 (x4 + 1)) : Int).toNat))) (wrap64 (x4 + 1)) x117000 x117001 x117002 x117003)) else (none)) else (none)) else (none)) else (none)) else (none)))) else (if x3.toList = ([] : List UInt8) then (spec_txTerm.j1 k x3 false x117000 x117001 x117002 x117003) else (spec_txTerm.j1 k x3 (x117000 == 1) x117000 x117001 x117002 x117003))
def spec_txTerm.j1 : Nat → ByteArray → Bool → Int → Int → Int → Int → Option (ByteArray)
  | 0, _, _, _, _, _, _ => none
  | k + 1, x3, x29, x117000, x117001, x117002, x117003 => if x29 = true then (if 1 ≤ (x3.size : Int) then (some (x3.extract 1 x3.size)) else (none)) else (if x3.toList = ([] : List UInt8) then ((spec_l1Int.f k x117000).bind fun t119 => (if t119.size + x3.size ≤ 9223372036854775807 then (some (t119 ++ x3)) else (none))) else (if x117000 = (-1) then (if 1 ≤ (x3.size : Int) then (if 1 + (x3.extract 1 x3.size).size ≤ 9223372036854775807 then (some ((⟨#[45]⟩ : ByteArray) ++ (x3.extract 1 x3.size))) else (none)) else (none)) else ((spec_l1Int.f k x117000).bind fun t120 => (if t120.size + x3.size ≤ 9223372036854775807 then (some (t120 ++ x3)) else (none)))))
end
def spec_txTerm.f (k : Nat) (a0_0 : Int) (a0_1 : Int) (a0_2 : Int) (a0_3 : Int) : Option (ByteArray) := spec_txTerm.l0 k (⟨#[]⟩ : ByteArray) 0 a0_0 a0_1 a0_2 a0_3
/-! spec_TermText -/
/-! laws_toTerm -/
def laws_toTerm.f (a0_0 : Int) (a0_1 : Int) (a0_2 : Int) (a0_3 : Int) : Option (Int × Int × Int × Int) := some (a0_0, a0_1, a0_2, a0_3)
/-! impl_inside -/
def impl_inside.f (a0 : Int) (a1 : Int) (a2 : Int) : Option (Bool) := if a0 ≥ a1 then (some (decide (a0 ≤ a2))) else (some false)
/-! impl_Term_degree -/
def impl_Term_degree.f (a0_0 : Int) (a0_1 : Int) (a0_2 : Int) (a0_3 : Int) : Option (Int) := some (wrap64 ((wrap64 (a0_1 + a0_2)) + a0_3))
/-! impl_hasDegree -/
def impl_hasDegree.f (a0_0 : Int) (a0_1 : Int) (a0_2 : Int) (a0_3 : Int) : Option (Bool) := (impl_inside.f a0_1 0 4).bind fun t129 => (if t129 = true then ((impl_inside.f a0_2 0 4).bind fun t130 => (if t130 = true then ((impl_inside.f a0_3 0 4).bind fun t131 => (if t131 = true then ((impl_Term_degree.f a0_0 a0_1 a0_2 a0_3).bind fun t132 => (some (decide (t132 ≤ 4)))) else (some false))) else (some false))) else (some false))
/-! cmp_Or_int -/
def cmp_Or_int.l0 : Nat → Int → List Int → Int → Int → Option (Int)
  | 0, _, _, _, _ => none
  | k + 1, x3, x6, x7, x8 => if x8 < x7 then (if 0 ≤ x8 then (if x8 < (x6.length : Int) then (if (rd x6 x8) = x3 then (cmp_Or_int.l0 k x3 x6 x7 (wrap64 (x8 + 1))) else (some (rd x6 x8))) else (none)) else (none)) else (some x3)
def cmp_Or_int.f (k : Nat) (l0 : List Int) : Option (Int) := cmp_Or_int.l0 k 0 l0 (l0.length : Int) 0
/-! cmp_isNaN_int -/
def cmp_isNaN_int.f (a0 : Int) : Option (Bool) := some (a0 != a0)
/-! cmp_Compare_int -/
def cmp_Compare_int.f (a0 : Int) (a1 : Int) : Option (Int) := (cmp_isNaN_int.f a0).bind fun t134 => ((cmp_isNaN_int.f a1).bind fun t135 => (if t134 = true then (if t135 = true then (some 0) else (some (-1))) else (if t135 = true then (some 1) else (if a0 < a1 then (some (-1)) else (if a0 > a1 then (some 1) else (some 0))))))
/-! impl_compareTerms -/
def impl_compareTerms.f (k : Nat) (a0_0 : Int) (a0_1 : Int) (a0_2 : Int) (a0_3 : Int) (a1_0 : Int) (a1_1 : Int) (a1_2 : Int) (a1_3 : Int) : Option (Int) := (cmp_Compare_int.f a0_1 a1_1).bind fun t138 => ((cmp_Compare_int.f a0_2 a1_2).bind fun t139 => ((cmp_Compare_int.f a0_3 a1_3).bind fun t140 => ((cmp_Or_int.f k (([t138, t139, t140] : List Int))).bind fun t144 => (some t144))))
/-! impl_isPoly -/
def impl_isPoly.l0 : Nat → List (S26) → List (S26) → Int → Int → Option (Bool)
  | 0, _, _, _, _ => none
  | k + 1, x0, x5, x6, x7 => if x7 < x6 then (if 0 ≤ x7 then (if x7 < (x5.length : Int) then (if ((rd_T26 x5 x7).f0) = 0 then (some false) else ((impl_inside.f ((rd_T26 x5 x7).f0) (-1000) 1000).bind fun t147 => (if t147 = true then ((impl_hasDegree.f ((rd_T26 x5 x7).f0) ((rd_T26 x5 x7).f1) ((rd_T26 x5 x7).f2) ((rd_T26 x5 x7).f3)).bind fun t148 => (if t148 = true then (if x7 > 0 then (if 0 ≤ (wrap64 (x7 - 1)) then (if (wrap64 (x7 - 1)) < (x0.length : Int) then ((impl_compareTerms.f k ((rd_T26 x0 (wrap64 (x7 - 1))).f0) ((rd_T26 x0 (wrap64 (x7 - 1))).f1) ((rd_T26 x0 (wrap64 (x7 - 1))).f2) ((rd_T26 x0 (wrap64 (x7 - 1))).f3) ((rd_T26 x5 x7).f0) ((rd_T26 x5 x7).f1) ((rd_T26 x5 x7).f2) ((rd_T26 x5 x7).f3)).bind fun t150 => (if t150 ≥ 0 then (some false) else (impl_isPoly.l0 k x0 x5 x6 (wrap64 (x7 + 1))))) else (none)) else (none)) else (impl_isPoly.l0 k x0 x5 x6 (wrap64 (x7 + 1)))) else (some false))) else (some false)))) else (none)) else (none)) else (some (decide ((x0.length : Int) ≤ 20)))
def impl_isPoly.f (k : Nat) (l0 : List (S26)) : Option (Bool) := impl_isPoly.l0 k l0 l0 (l0.length : Int) 0
/-! strconv_small -/
/-! strconv_log10Pow2 -/
/-! bits_Len64 -/
/-! strconv_bool2_int -/
/-! strconv_isPowerOfTwo -/
/-! strconv_Itoa_31 -/
-- HAND rounds=0 making=1
/-- A whole number in decimal digits. -/
def strconv_Itoa_31.f (a0 : Int) : Option ByteArray := if -9223372036854775808 ≤ a0 ∧ a0 ≤ 9223372036854775807 then some ⟨(Lib.itoa a0).toArray⟩ else none
/-! impl_termText -/
-- HAND rounds=0 making=1
/-- What the list takes in of one unknown. -/
def impl_termText.pt (u : ByteArray) (e : Int) : Option (List ByteArray) := if e = 1 then some [u] else (if e > 1 then ((strconv_Itoa_31.f e).bind fun s => if (u ++ (⟨#[94]⟩ : ByteArray)).size + s.size ≤ 9223372036854775807 then some [u ++ (⟨#[94]⟩ : ByteArray) ++ s] else none) else some [])
/-- The pieces, joined. -/
def impl_termText.jn (xs : List ByteArray) : ByteArray := ⟨(Lib.join (xs.map (·.data.toList)) [42]).toArray⟩
def impl_termText.tl (c : Int) (a : ByteArray) : Option ByteArray := if a.toList = ([] : List UInt8) then strconv_Itoa_31.f c else (if c = 1 then some a else (if c = -1 then (if 1 + a.size ≤ 9223372036854775807 then some ((⟨#[45]⟩ : ByteArray) ++ a) else none) else ((strconv_Itoa_31.f c).bind fun s => if s.size + 1 ≤ 9223372036854775807 then (if (s ++ (⟨#[42]⟩ : ByteArray)).size + a.size ≤ 9223372036854775807 then some (s ++ (⟨#[42]⟩ : ByteArray) ++ a) else none) else none)))
def impl_termText.f (c x y z : Int) : Option ByteArray := (impl_termText.pt ((⟨#[120, 121, 122]⟩ : ByteArray).extract 0 1) x).bind fun p0 => (impl_termText.pt ((⟨#[120, 121, 122]⟩ : ByteArray).extract 1 2) y).bind fun p1 => (impl_termText.pt ((⟨#[120, 121, 122]⟩ : ByteArray).extract 2 3) z).bind fun p2 => if (Lib.join ((p0 ++ p1 ++ p2).map (·.data.toList)) [42]).length ≤ 140737488355328 then impl_termText.tl c (impl_termText.jn (p0 ++ p1 ++ p2)) else none
/-! impl_TermText -/
/-! laws_FnExactTermText -/
/-! laws_szTermS -/
def laws_szTermS.f (l0 : List (S23)) (a1 : Int) : Option (Int) := if (wrap64 (a1 - (l0.length : Int))) < 0 then (some (-1)) else (some (wrap64 (a1 - (l0.length : Int))))
/-! spec_l1Sign -/
def spec_l1Sign.f (a0 : Int) : Option (Int) := if a0 > 0 then (some 1) else (if a0 < 0 then (some (-1)) else (some 0))
/-! spec_poOrder -/
def spec_poOrder.f (a0_0 : Int) (a0_1 : Int) (a0_2 : Int) (a0_3 : Int) (a1_0 : Int) (a1_1 : Int) (a1_2 : Int) (a1_3 : Int) : Option (Int) := if a0_1 = a1_1 then (if a0_2 = a1_2 then ((spec_l1Sign.f (wrap64 (a0_3 - a1_3))).bind fun t193 => (some t193)) else ((spec_l1Sign.f (wrap64 (a0_2 - a1_2))).bind fun t194 => (some t194))) else ((spec_l1Sign.f (wrap64 (a0_1 - a1_1))).bind fun t195 => (some t195))
/-! spec_poGood -/
def spec_poGood.l0 : Nat → List (S26) → List (S26) → Int → Int → Option (Bool)
  | 0, _, _, _, _ => none
  | k + 1, x0, x5, x6, x7 => if x7 < x6 then (if 0 ≤ x7 then (if x7 < (x5.length : Int) then ((spec_poTerm.f ((rd_T26 x5 x7).f0) ((rd_T26 x5 x7).f1) ((rd_T26 x5 x7).f2) ((rd_T26 x5 x7).f3)).bind fun t198 => (if t198 = true then (if ((rd_T26 x5 x7).f0) = 0 then (some false) else (if x7 > 0 then (if 0 ≤ (wrap64 (x7 - 1)) then (if (wrap64 (x7 - 1)) < (x0.length : Int) then ((spec_poOrder.f ((rd_T26 x0 (wrap64 (x7 - 1))).f0) ((rd_T26 x0 (wrap64 (x7 - 1))).f1) ((rd_T26 x0 (wrap64 (x7 - 1))).f2) ((rd_T26 x0 (wrap64 (x7 - 1))).f3) ((rd_T26 x5 x7).f0) ((rd_T26 x5 x7).f1) ((rd_T26 x5 x7).f2) ((rd_T26 x5 x7).f3)).bind fun t200 => (if t200 ≥ 0 then (some false) else (spec_poGood.l0 k x0 x5 x6 (wrap64 (x7 + 1))))) else (none)) else (none)) else (spec_poGood.l0 k x0 x5 x6 (wrap64 (x7 + 1))))) else (some false))) else (none)) else (none)) else (some (decide ((x0.length : Int) ≤ 20)))
def spec_poGood.f (k : Nat) (l0 : List (S26)) : Option (Bool) := spec_poGood.l0 k l0 l0 (l0.length : Int) 0
/-! spec_txText -/
def spec_txText.l0 : Nat → List (S26) → ByteArray → Int → Option (ByteArray)
  | 0, _, _, _ => none
  | k + 1, x0, x3, x4 => if x4 ≥ 0 then (if 0 ≤ x4 then (if x4 < (x0.length : Int) then ((spec_txTerm.f k ((rd_T26 x0 x4).f0) ((rd_T26 x0 x4).f1) ((rd_T26 x0 x4).f2) ((rd_T26 x0 x4).f3)).bind fun t202 => (if x3.toList = ([] : List UInt8) then (if x3.size + t202.size ≤ 9223372036854775807 then (spec_txText.l0 k x0 (x3 ++ t202) (wrap64 (x4 - 1))) else (none)) else (if 0 < (t202.size : Int) then (if (bt t202 0) = 45 then (if x3.size + t202.size ≤ 9223372036854775807 then (spec_txText.l0 k x0 (x3 ++ t202) (wrap64 (x4 - 1))) else (none)) else (if x3.size + 1 ≤ 9223372036854775807 then (if (x3 ++ (⟨#[43]⟩ : ByteArray)).size + t202.size ≤ 9223372036854775807 then (spec_txText.l0 k x0 ((x3 ++ (⟨#[43]⟩ : ByteArray)) ++ t202) (wrap64 (x4 - 1))) else (none)) else (none))) else (none)))) else (none)) else (none)) else (some x3)
def spec_txText.f (k : Nat) (l0 : List (S26)) : Option (ByteArray) := if (l0.length : Int) = 0 then (some (⟨#[48]⟩ : ByteArray)) else (spec_txText.l0 k l0 (⟨#[]⟩ : ByteArray) (wrap64 ((l0.length : Int) - 1)))
/-! spec_PolyText -/
def spec_PolyText.f (k : Nat) (l0 : List (S26)) : Option (ByteArray × Bool) := (spec_poGood.f k l0).bind fun t203 => (if t203 = true then ((spec_txText.f k l0).bind fun t204 => (some (t204, true))) else (some ((⟨#[]⟩ : ByteArray), false)))
/-! laws_roomBehind -/
def laws_roomBehind.f (a0 : Int) : Option (Int) := if (Int.tmod a0 6) = 5 then (some 0) else (if (Int.tmod a0 3) = 0 then (some 1) else (some a0))
/-! laws_fillerTerm -/
def laws_fillerTerm.f  : Option (Int × Int × Int × Int) := some ((-7000000000000000101), (-7000000000000000101), (-7000000000000000101), (-7000000000000000101))
/-! laws_toTermS -/
mutual
def laws_toTermS.j0 : Nat → List (S23) → Bool → Option ((List (S26)))
  | 0, _, _ => none
  | k + 1, x0, x13 => if x13 = true then (some ([] : List (S26))) else ((laws_roomBehind.f (x0.length : Int)).bind fun t206 => (if 0 ≤ (wrap64 ((x0.length : Int) + t206)) then (if (wrap64 ((x0.length : Int) + t206) : Int).toNat ≤ 8796093022208 then (laws_toTermS.l0 k x0 (List.replicate (wrap64 ((x0.length : Int) + t206) : Int).toNat z26) 0) else (none)) else (none)))
def laws_toTermS.l0 : Nat → List (S23) → List (S26) → Int → Option ((List (S26)))
  | 0, _, _, _ => none
  | k + 1, x0, x5, x6 => if x6 < (x0.length : Int) then (if 0 ≤ x6 then ((laws_toTerm.f ((rd_T23 x0 x6).f0) ((rd_T23 x0 x6).f1) ((rd_T23 x0 x6).f2) ((rd_T23 x0 x6).f3)).bind fun bt211 => (if x6 < (x5.length : Int) then (laws_toTermS.l0 k x0 (x5.set (x6 : Int).toNat (⟨bt211.1, bt211.2.1, bt211.2.2.1, bt211.2.2.2⟩ : S26)) (wrap64 (x6 + 1))) else (none))) else (none)) else (laws_toTermS.l1 k x0 x5 (x0.length : Int))
def laws_toTermS.l1 : Nat → List (S23) → List (S26) → Int → Option ((List (S26)))
  | 0, _, _, _ => none
  | k + 1, x0, x5, x7 => if x7 < (x5.length : Int) then ((laws_fillerTerm.f).bind fun bt216 => (if 0 ≤ x7 then (laws_toTermS.l1 k x0 (x5.set (x7 : Int).toNat (⟨bt216.1, bt216.2.1, bt216.2.2.1, bt216.2.2.2⟩ : S26)) (wrap64 (x7 + 1))) else (none))) else (if 0 ≤ (x0.length : Int) then (if (x0.length : Int) ≤ (x5.length : Int) then (some (x5.take ((x0.length : Int) : Int).toNat)) else (none)) else (none))
end
def laws_toTermS.f (k : Nat) (l0 : List (S23)) (a1 : Bool) : Option ((List (S26))) := if a1 = true then (laws_toTermS.j0 k l0 ((l0.length : Int) == 0)) else (laws_toTermS.j0 k l0 false)
/-! impl_polyText -/
def impl_polyText.l0 : Nat → List (S26) → ByteArray → Int → Option (ByteArray)
  | 0, _, _, _ => none
  | k + 1, x0, x3, x4 => if x4 ≥ 0 then (if 0 ≤ x4 then (if x4 < (x0.length : Int) then ((impl_termText.f ((rd_T26 x0 x4).f0) ((rd_T26 x0 x4).f1) ((rd_T26 x0 x4).f2) ((rd_T26 x0 x4).f3)).bind fun t225 => (if x3.toList = ([] : List UInt8) then (if x3.size + t225.size ≤ 9223372036854775807 then (impl_polyText.l0 k x0 (x3 ++ t225) (wrap64 (x4 - 1))) else (none)) else (if 0 < (t225.size : Int) then (if (bt t225 0) = 45 then (if x3.size + t225.size ≤ 9223372036854775807 then (impl_polyText.l0 k x0 (x3 ++ t225) (wrap64 (x4 - 1))) else (none)) else (if x3.size + 1 ≤ 9223372036854775807 then (if (x3 ++ (⟨#[43]⟩ : ByteArray)).size + t225.size ≤ 9223372036854775807 then (impl_polyText.l0 k x0 ((x3 ++ (⟨#[43]⟩ : ByteArray)) ++ t225) (wrap64 (x4 - 1))) else (none)) else (none))) else (none)))) else (none)) else (none)) else (some x3)
def impl_polyText.f (k : Nat) (l0 : List (S26)) : Option (ByteArray) := if (l0.length : Int) = 0 then (some (⟨#[48]⟩ : ByteArray)) else (impl_polyText.l0 k l0 (⟨#[]⟩ : ByteArray) (wrap64 ((l0.length : Int) - 1)))
/-! impl_PolyText -/
def impl_PolyText.f (k : Nat) (l0 : List (S26)) : Option (ByteArray × Bool) := (impl_isPoly.f k l0).bind fun t226 => (if t226 = true then ((impl_polyText.f k l0).bind fun t227 => (some (t227, true))) else (some ((⟨#[]⟩ : ByteArray), false)))
/-! laws_eqTerm -/
def laws_eqTerm.f (a0_0 : Int) (a0_1 : Int) (a0_2 : Int) (a0_3 : Int) (a1_0 : Int) (a1_1 : Int) (a1_2 : Int) (a1_3 : Int) : Option (Bool) := if a0_0 = a1_0 then (if a0_1 = a1_1 then (if a0_2 = a1_2 then (if a0_3 = a1_3 then (some true) else (some false)) else (some false)) else (some false)) else (some false)
/-! laws_eqTermS -/
def laws_eqTermS.l0 : Nat → List (S26) → List (S26) → Int → Option (Bool)
  | 0, _, _, _ => none
  | k + 1, x0, x1, x5 => if x5 < (x0.length : Int) then (if 0 ≤ x5 then (if x5 < (x1.length : Int) then ((laws_eqTerm.f ((rd_T26 x0 x5).f0) ((rd_T26 x0 x5).f1) ((rd_T26 x0 x5).f2) ((rd_T26 x0 x5).f3) ((rd_T26 x1 x5).f0) ((rd_T26 x1 x5).f1) ((rd_T26 x1 x5).f2) ((rd_T26 x1 x5).f3)).bind fun t232 => (if t232 = true then (laws_eqTermS.l0 k x0 x1 (wrap64 (x5 + 1))) else (some false))) else (none)) else (none)) else (some true)
def laws_eqTermS.f (k : Nat) (l0 : List (S26)) (l1 : List (S26)) : Option (Bool) := if (l0.length : Int) = (l1.length : Int) then (laws_eqTermS.l0 k l0 l1 0) else (some false)
/-! laws_intactTermS -/
-- HAND rounds=0 making=1
/-- Whether two lists are one, their spare cells as toTermS lays them. -/
def laws_intactTermS.f (l0 : List S26) (l1 : List S26) : Option (Bool) := if l0 = l1 then some true else none
/-! laws_FnExactPolyText -/
def laws_FnExactPolyText.f (k : Nat) (l0 : List (S23)) : Option (Bool) := (laws_szTermS.f l0 1000000).bind fun t233 => (if t233 < 0 then (some true) else ((laws_toTermS.f k l0 false).bind fun t234 => ((spec_PolyText.f k t234).bind fun bt237 => ((laws_toTermS.f k l0 false).bind fun t239 => ((impl_PolyText.f k t239).bind fun bt242 => (if bt242.1.toList = bt237.1.toList then (if (bt242.2 != bt237.2) = true then (none) else ((laws_toTermS.f k l0 false).bind fun t244 => ((laws_intactTermS.f t239 t244).bind fun t247 => (if t247 = true then ((laws_toTermS.f k l0 true).bind fun t248 => ((impl_PolyText.f k t248).bind fun bt251 => (if bt251.1.toList = bt237.1.toList then (if (bt251.2 != bt237.2) = true then (none) else (some true)) else (none)))) else (none))))) else (none)))))))
end Go.Proofs.YtalaokjbbeepeaaDoor.PD
