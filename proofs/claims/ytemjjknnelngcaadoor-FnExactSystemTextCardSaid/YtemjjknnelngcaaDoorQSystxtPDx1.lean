-- By wip/mk/drv.py
import Derived.Test.YtemjjknnelngcaaDoorQSystxtPDx0
namespace Go.Proofs.YtemjjknnelngcaaDoor.PD
open Go.RowKit Go.Proofs.YtemjjknnelngcaaDoorW.PrintWords Go.Proofs.YtemjjknnelngcaaDoorW.PrintLast Go.Proofs.YtemjjknnelngcaaDoorW.PrintMore
attribute [local go_sem] max2_int min2_int max_two min_two max_three min_three max_four min_four
set_option linter.unusedVariables false
set_option linter.unusedSimpArgs false
/-! laws_szTermS -/
def laws_szTermS.f (l0 : List (S46)) (a1 : Int) : Option (Int) := if (wrap64 (a1 - (l0.length : Int))) < 0 then (some (-1)) else (some (wrap64 (a1 - (l0.length : Int))))
/-! laws_szTermSS -/
def laws_szTermSS.l0 : Nat → List (List (S46)) → Int → Int → Option (Int)
  | 0, _, _, _ => none
  | k + 1, x0, x1, x5 => if x5 < (x0.length : Int) then (if 0 ≤ x5 then ((laws_szTermS.f (rd_L2 x0 x5) x1).bind fun t102 => (if t102 < 0 then (some (-1)) else (laws_szTermSS.l0 k x0 t102 (wrap64 (x5 + 1))))) else (none)) else (some x1)
def laws_szTermSS.f (k : Nat) (l0 : List (List (S46))) (a1 : Int) : Option (Int) := if (wrap64 (a1 - (l0.length : Int))) < 0 then (some (-1)) else (laws_szTermSS.l0 k l0 (wrap64 (a1 - (l0.length : Int))) 0)
/-! spec_l1In -/
def spec_l1In.f (a0 : Int) (a1 : Int) (a2 : Int) : Option (Bool) := if a0 ≥ a1 then (some (decide (a0 ≤ a2))) else (some false)
/-! spec_poTerm -/
def spec_poTerm.f (a0_0 : Int) (a0_1 : Int) (a0_2 : Int) (a0_3 : Int) : Option (Bool) := (spec_l1In.f a0_0 (-1000) 1000).bind fun t104 => (if t104 = true then ((spec_l1In.f a0_1 0 4).bind fun t105 => (if t105 = true then ((spec_l1In.f a0_2 0 4).bind fun t106 => (if t106 = true then ((spec_l1In.f a0_3 0 4).bind fun t107 => (if t107 = true then (some (decide ((wrap64 ((wrap64 (a0_1 + a0_2)) + a0_3)) ≤ 4))) else (some false))) else (some false))) else (some false))) else (some false))
/-! spec_l1Sign -/
def spec_l1Sign.f (a0 : Int) : Option (Int) := if a0 > 0 then (some 1) else (if a0 < 0 then (some (-1)) else (some 0))
/-! spec_poOrder -/
def spec_poOrder.f (a0_0 : Int) (a0_1 : Int) (a0_2 : Int) (a0_3 : Int) (a1_0 : Int) (a1_1 : Int) (a1_2 : Int) (a1_3 : Int) : Option (Int) := if a0_1 = a1_1 then (if a0_2 = a1_2 then ((spec_l1Sign.f (wrap64 (a0_3 - a1_3))).bind fun t110 => (some t110)) else ((spec_l1Sign.f (wrap64 (a0_2 - a1_2))).bind fun t111 => (some t111))) else ((spec_l1Sign.f (wrap64 (a0_1 - a1_1))).bind fun t112 => (some t112))
/-! spec_poGood -/
def spec_poGood.l0 : Nat → List (S38) → List (S38) → Int → Int → Option (Bool)
  | 0, _, _, _, _ => none
  | k + 1, x0, x5, x6, x7 => if x7 < x6 then (if 0 ≤ x7 then (if x7 < (x5.length : Int) then ((spec_poTerm.f ((rd_T38 x5 x7).f0) ((rd_T38 x5 x7).f1) ((rd_T38 x5 x7).f2) ((rd_T38 x5 x7).f3)).bind fun t115 => (if t115 = true then (if ((rd_T38 x5 x7).f0) = 0 then (some false) else (if x7 > 0 then (if 0 ≤ (wrap64 (x7 - 1)) then (if (wrap64 (x7 - 1)) < (x0.length : Int) then ((spec_poOrder.f ((rd_T38 x0 (wrap64 (x7 - 1))).f0) ((rd_T38 x0 (wrap64 (x7 - 1))).f1) ((rd_T38 x0 (wrap64 (x7 - 1))).f2) ((rd_T38 x0 (wrap64 (x7 - 1))).f3) ((rd_T38 x5 x7).f0) ((rd_T38 x5 x7).f1) ((rd_T38 x5 x7).f2) ((rd_T38 x5 x7).f3)).bind fun t117 => (if t117 ≥ 0 then (some false) else (spec_poGood.l0 k x0 x5 x6 (wrap64 (x7 + 1))))) else (none)) else (none)) else (spec_poGood.l0 k x0 x5 x6 (wrap64 (x7 + 1))))) else (some false))) else (none)) else (none)) else (some (decide ((x0.length : Int) ≤ 20)))
def spec_poGood.f (k : Nat) (l0 : List (S38)) : Option (Bool) := spec_poGood.l0 k l0 l0 (l0.length : Int) 0
/-! spec_l1Most -/
def spec_l1Most.f (a0 : Int) (a1 : Int) : Option (Int) := if a0 > a1 then (some a0) else (some a1)
/-! spec_poPower -/
def spec_poPower.f (a0_0 : Int) (a0_1 : Int) (a0_2 : Int) (a0_3 : Int) (a1 : Int) : Option (Int) := if a1 = 0 then (some a0_1) else (if a1 = 1 then (some a0_2) else (some a0_3))
/-! spec_poDegreeIn -/
def spec_poDegreeIn.l0 : Nat → Int → Int → List (S38) → Int → Int → Option (Int)
  | 0, _, _, _, _, _ => none
  | k + 1, x1, x5, x8, x9, x10 => if x10 < x9 then (if 0 ≤ x10 then (if x10 < (x8.length : Int) then ((spec_poPower.f ((rd_T38 x8 x10).f0) ((rd_T38 x8 x10).f1) ((rd_T38 x8 x10).f2) ((rd_T38 x8 x10).f3) x1).bind fun t121 => ((spec_l1Most.f x5 t121).bind fun t122 => (spec_poDegreeIn.l0 k x1 t122 x8 x9 (wrap64 (x10 + 1))))) else (none)) else (none)) else (some x5)
def spec_poDegreeIn.f (k : Nat) (l0 : List (S38)) (a1 : Int) : Option (Int) := spec_poDegreeIn.l0 k a1 (-1) l0 (l0.length : Int) 0
/-! spec_poSystem -/
mutual
def spec_poSystem.l0 : Nat → List (List (S38)) → List (List (S38)) → Int → Int → Option (Bool)
  | 0, _, _, _, _ => none
  | k + 1, x0, x6, x7, x8 => if x8 < x7 then (if 0 ≤ x8 then (if x8 < (x6.length : Int) then ((spec_poGood.f k (rd_L4 x6 x8)).bind fun t125 => (if t125 = true then (spec_poSystem.l1 k x0 (rd_L4 x6 x8) (x0.length : Int) x6 x7 x8) else (some false))) else (none)) else (none)) else ((spec_l1In.f (x0.length : Int) 1 3).bind fun t123 => (some t123))
def spec_poSystem.l1 : Nat → List (List (S38)) → List (S38) → Int → List (List (S38)) → Int → Int → Option (Bool)
  | 0, _, _, _, _, _, _ => none
  | k + 1, x0, x4, x5, x6, x7, x8 => if x5 < 3 then ((spec_poDegreeIn.f k x4 x5).bind fun t126 => (if t126 > 0 then (some false) else (spec_poSystem.l1 k x0 x4 (wrap64 (x5 + 1)) x6 x7 x8))) else (spec_poSystem.l0 k x0 x6 x7 (wrap64 (x8 + 1)))
end
def spec_poSystem.f (k : Nat) (l0 : List (List (S38))) : Option (Bool) := spec_poSystem.l0 k l0 l0 (l0.length : Int) 0
/-! spec_l1Num -/
def spec_l1Num.f : Nat → Int → Option (ByteArray)
  | 0, _ => none
  | k + 1, a0 => if a0 < 10 then (some (strOfNums (([(wrap64 (48 + a0)) % 256] : List Int)))) else ((spec_l1Num.f k (wrap64 (Int.tdiv a0 10))).bind fun t130 => ((some (([(wrap64 (48 + (Int.tmod a0 10))) % 256] : List Int) : List Int)).bind fun y131 => (if t130.size + (strOfNums y131).size ≤ 9223372036854775807 then (some (t130 ++ (strOfNums y131))) else (none))))
/-! spec_l1Int -/
def spec_l1Int.f (k : Nat) (a0 : Int) : Option (ByteArray) := if a0 < 0 then ((spec_l1Num.f k (wrap64 (-a0))).bind fun t134 => (if 1 + t134.size ≤ 9223372036854775807 then (some ((⟨#[45]⟩ : ByteArray) ++ t134)) else (none))) else ((spec_l1Num.f k a0).bind fun t135 => (some t135))
/-! spec_txTerm -/
mutual
def spec_txTerm.l0 : Nat → ByteArray → Int → Int → Int → Int → Int → Option (ByteArray)
  | 0, _, _, _, _, _, _ => none
  | k + 1, x3, x4, x137000, x137001, x137002, x137003 => if x4 < 3 then ((spec_poPower.f x137000 x137001 x137002 x137003 x4).bind fun t137 => (if t137 = 0 then (spec_txTerm.l0 k x3 (wrap64 (x4 + 1)) x137000 x137001 x137002 x137003) else (if 0 ≤ x4 then (if x4 ≤ (wrap64 (x4 + 1)) then (if (wrap64 (x4 + 1)) ≤ 3 then (if 1 + ((⟨#[120, 121, 122]⟩ : ByteArray).extract (x4 : Int).toNat ((wrap64 (x4 + 1)) : Int).toNat).size ≤ 9223372036854775807 then (if x3.size + ((⟨#[42]⟩ : ByteArray) ++ ((⟨#[120, 121, 122]⟩ : ByteArray).extract (x4 : Int).toNat ((wrap64 (x4 + 1)) : Int).toNat)).size ≤ 9223372036854775807 then (if t137 > 1 then ((spec_l1Num.f k t137).bind fun t138 => (if 1 + t138.size ≤ 9223372036854775807 then (if (x3 ++ ((⟨#[42]⟩ : ByteArray) ++ ((⟨#[120, 121, 122]⟩ : ByteArray).extract (x4 : Int).toNat ((wrap64 (x4 + 1)) : Int).toNat))).size + ((⟨#[94]⟩ : ByteArray) ++ t138).size ≤ 9223372036854775807 then (spec_txTerm.l0 k ((x3 ++ ((⟨#[42]⟩ : ByteArray) ++ ((⟨#[120, 121, 122]⟩ : ByteArray).extract (x4 : Int).toNat ((wrap64 (x4 + 1)) : Int).toNat))) ++ ((⟨#[94]⟩ : ByteArray) ++ t138)) (wrap64 (x4 + 1)) x137000 x137001 x137002 x137003) else (none)) else (none))) else (spec_txTerm.l0 k (x3 ++ ((⟨#[42]⟩ : ByteArray) ++ ((⟨#[120, 121, 122]⟩ : ByteArray).extract (x4 : Int).toNat ((wrap64 (x4 + 1)) : Int).toNat))) (wrap64 (x4 + 1)) x137000 x137001 x137002 x137003)) else (none)) else (none)) else (none)) else (none)) else (none)))) else (if x3.toList = ([] : List UInt8) then (spec_txTerm.j1 k x3 false x137000 x137001 x137002 x137003) else (spec_txTerm.j1 k x3 (x137000 == 1) x137000 x137001 x137002 x137003))
def spec_txTerm.j1 : Nat → ByteArray → Bool → Int → Int → Int → Int → Option (ByteArray)
  | 0, _, _, _, _, _, _ => none
  | k + 1, x3, x29, x137000, x137001, x137002, x137003 => if x29 = true then (if 1 ≤ (x3.size : Int) then (some (x3.extract 1 x3.size)) else (none)) else (if x3.toList = ([] : List UInt8) then ((spec_l1Int.f k x137000).bind fun t139 => (if t139.size + x3.size ≤ 9223372036854775807 then (some (t139 ++ x3)) else (none))) else (if x137000 = (-1) then (if 1 ≤ (x3.size : Int) then (if 1 + (x3.extract 1 x3.size).size ≤ 9223372036854775807 then (some ((⟨#[45]⟩ : ByteArray) ++ (x3.extract 1 x3.size))) else (none)) else (none)) else ((spec_l1Int.f k x137000).bind fun t140 => (if t140.size + x3.size ≤ 9223372036854775807 then (some (t140 ++ x3)) else (none)))))
end
def spec_txTerm.f (k : Nat) (a0_0 : Int) (a0_1 : Int) (a0_2 : Int) (a0_3 : Int) : Option (ByteArray) := spec_txTerm.l0 k (⟨#[]⟩ : ByteArray) 0 a0_0 a0_1 a0_2 a0_3
/-! spec_txText -/
def spec_txText.l0 : Nat → List (S38) → ByteArray → Int → Option (ByteArray)
  | 0, _, _, _ => none
  | k + 1, x0, x3, x4 => if x4 ≥ 0 then (if 0 ≤ x4 then (if x4 < (x0.length : Int) then ((spec_txTerm.f k ((rd_T38 x0 x4).f0) ((rd_T38 x0 x4).f1) ((rd_T38 x0 x4).f2) ((rd_T38 x0 x4).f3)).bind fun t142 => (if x3.toList = ([] : List UInt8) then (if x3.size + t142.size ≤ 9223372036854775807 then (spec_txText.l0 k x0 (x3 ++ t142) (wrap64 (x4 - 1))) else (none)) else (if 0 < (t142.size : Int) then (if (bt t142 0) = 45 then (if x3.size + t142.size ≤ 9223372036854775807 then (spec_txText.l0 k x0 (x3 ++ t142) (wrap64 (x4 - 1))) else (none)) else (if x3.size + 1 ≤ 9223372036854775807 then (if (x3 ++ (⟨#[43]⟩ : ByteArray)).size + t142.size ≤ 9223372036854775807 then (spec_txText.l0 k x0 ((x3 ++ (⟨#[43]⟩ : ByteArray)) ++ t142) (wrap64 (x4 - 1))) else (none)) else (none))) else (none)))) else (none)) else (none)) else (some x3)
def spec_txText.f (k : Nat) (l0 : List (S38)) : Option (ByteArray) := if (l0.length : Int) = 0 then (some (⟨#[48]⟩ : ByteArray)) else (spec_txText.l0 k l0 (⟨#[]⟩ : ByteArray) (wrap64 ((l0.length : Int) - 1)))
/-! spec_txSystemText -/
def spec_txSystemText.l0 : Nat → ByteArray → List (List (S38)) → Int → Int → Option (ByteArray)
  | 0, _, _, _, _ => none
  | k + 1, x3, x6, x7, x8 => if x8 < x7 then (if 0 ≤ x8 then (if x8 < (x6.length : Int) then ((spec_txText.f k (rd_L4 x6 x8)).bind fun t144 => (if t144.size + 1 ≤ 9223372036854775807 then (if x3.size + (t144 ++ (⟨#[59]⟩ : ByteArray)).size ≤ 9223372036854775807 then (spec_txSystemText.l0 k (x3 ++ (t144 ++ (⟨#[59]⟩ : ByteArray))) x6 x7 (wrap64 (x8 + 1))) else (none)) else (none))) else (none)) else (none)) else (some x3)
def spec_txSystemText.f (k : Nat) (l0 : List (List (S38))) : Option (ByteArray) := spec_txSystemText.l0 k (⟨#[]⟩ : ByteArray) l0 (l0.length : Int) 0
/-! spec_SystemText -/
def spec_SystemText.f (k : Nat) (l0 : List (List (S38))) : Option (ByteArray × Bool) := (spec_poSystem.f k l0).bind fun t145 => (if t145 = true then ((spec_txSystemText.f k l0).bind fun t146 => (some (t146, true))) else (some ((⟨#[]⟩ : ByteArray), false)))
/-! laws_roomBehind -/
def laws_roomBehind.f (a0 : Int) : Option (Int) := if (Int.tmod a0 6) = 5 then (some 0) else (if (Int.tmod a0 3) = 0 then (some 1) else (some a0))
/-! laws_fillerTerm -/
def laws_fillerTerm.f  : Option (Int × Int × Int × Int) := some ((-7000000000000000101), (-7000000000000000101), (-7000000000000000101), (-7000000000000000101))
/-! laws_toTerm -/
def laws_toTerm.f (a0_0 : Int) (a0_1 : Int) (a0_2 : Int) (a0_3 : Int) : Option (Int × Int × Int × Int) := some (a0_0, a0_1, a0_2, a0_3)
/-! laws_toTermS -/
mutual
def laws_toTermS.j0 : Nat → List (S46) → Bool → Option ((List (S38)))
  | 0, _, _ => none
  | k + 1, x0, x13 => if x13 = true then (some ([] : List (S38))) else ((laws_roomBehind.f (x0.length : Int)).bind fun t151 => (if 0 ≤ (wrap64 ((x0.length : Int) + t151)) then (if (wrap64 ((x0.length : Int) + t151) : Int).toNat ≤ 8796093022208 then (laws_toTermS.l0 k x0 (List.replicate (wrap64 ((x0.length : Int) + t151) : Int).toNat z38) 0) else (none)) else (none)))
def laws_toTermS.l0 : Nat → List (S46) → List (S38) → Int → Option ((List (S38)))
  | 0, _, _, _ => none
  | k + 1, x0, x5, x6 => if x6 < (x0.length : Int) then (if 0 ≤ x6 then ((laws_toTerm.f ((rd_T46 x0 x6).f0) ((rd_T46 x0 x6).f1) ((rd_T46 x0 x6).f2) ((rd_T46 x0 x6).f3)).bind fun bt156 => (if x6 < (x5.length : Int) then (laws_toTermS.l0 k x0 (x5.set (x6 : Int).toNat (⟨bt156.1, bt156.2.1, bt156.2.2.1, bt156.2.2.2⟩ : S38)) (wrap64 (x6 + 1))) else (none))) else (none)) else (laws_toTermS.l1 k x0 x5 (x0.length : Int))
def laws_toTermS.l1 : Nat → List (S46) → List (S38) → Int → Option ((List (S38)))
  | 0, _, _, _ => none
  | k + 1, x0, x5, x7 => if x7 < (x5.length : Int) then ((laws_fillerTerm.f).bind fun bt161 => (if 0 ≤ x7 then (laws_toTermS.l1 k x0 (x5.set (x7 : Int).toNat (⟨bt161.1, bt161.2.1, bt161.2.2.1, bt161.2.2.2⟩ : S38)) (wrap64 (x7 + 1))) else (none))) else (if 0 ≤ (x0.length : Int) then (if (x0.length : Int) ≤ (x5.length : Int) then (some (x5.take ((x0.length : Int) : Int).toNat)) else (none)) else (none))
end
def laws_toTermS.f (k : Nat) (l0 : List (S46)) (a1 : Bool) : Option ((List (S38))) := if a1 = true then (laws_toTermS.j0 k l0 ((l0.length : Int) == 0)) else (laws_toTermS.j0 k l0 false)
/-! laws_toTermSS -/
-- HAND rounds=1 making=1
def laws_toTermSS.rd (xs : List (List S46)) (i : Int) : List S46 := xs.getD i.toNat []
mutual
def laws_toTermSS.j0 : Nat → List (List (S46)) → Bool → Bool → Option ((List (List (S38))))
  | 0, _, _, _ => none
  | k + 1, x0, x1, x13 => if x13 = true then (some ([] : List (List (S38)))) else ((laws_roomBehind.f (x0.length : Int)).bind fun t150 => (if 0 ≤ (wrap64 ((x0.length : Int) + t150)) then (if (wrap64 ((x0.length : Int) + t150) : Int).toNat ≤ 11728124029610 then (laws_toTermSS.l0 k x0 x1 (List.replicate (wrap64 ((x0.length : Int) + t150) : Int).toNat []) 0) else (none)) else (none)))
def laws_toTermSS.l0 : Nat → List (List (S46)) → Bool → List (List (S38)) → Int → Option ((List (List (S38))))
  | 0, _, _, _, _ => none
  | k + 1, x0, x1, x5, x6 => if x6 < (x0.length : Int) then (if 0 ≤ x6 then ((laws_toTermS.f k (laws_toTermSS.rd x0 x6) x1).bind fun t155 => (if x6 < (x5.length : Int) then (laws_toTermSS.l0 k x0 x1 (x5.set (x6 : Int).toNat t155) (wrap64 (x6 + 1))) else (none))) else (none)) else (laws_toTermSS.l1 k x0 x5 (x0.length : Int))
def laws_toTermSS.l1 : Nat → List (List (S46)) → List (List (S38)) → Int → Option ((List (List (S38))))
  | 0, _, _, _ => none
  | k + 1, x0, x5, x7 => if x7 < (x5.length : Int) then ((laws_fillerTerm.f).bind fun bt159 => (if 0 ≤ x7 then (laws_toTermSS.l1 k x0 (x5.set (x7 : Int).toNat (([(⟨bt159.1, bt159.2.1, bt159.2.2.1, bt159.2.2.2⟩ : S38)] : List (S38)))) (wrap64 (x7 + 1))) else (none))) else (if 0 ≤ (x0.length : Int) then (if (x0.length : Int) ≤ (x5.length : Int) then (some (x5.take ((x0.length : Int) : Int).toNat)) else (none)) else (none))
end
def laws_toTermSS.f (k : Nat) (l0 : List (List (S46))) (a1 : Bool) : Option ((List (List (S38)))) := if a1 = true then (laws_toTermSS.j0 k l0 a1 ((l0.length : Int) == 0)) else (laws_toTermSS.j0 k l0 a1 false)
/-! impl_inside -/
def impl_inside.f (a0 : Int) (a1 : Int) (a2 : Int) : Option (Bool) := if a0 ≥ a1 then (some (decide (a0 ≤ a2))) else (some false)
/-! impl_Term_degree -/
def impl_Term_degree.f (a0_0 : Int) (a0_1 : Int) (a0_2 : Int) (a0_3 : Int) : Option (Int) := some (wrap64 ((wrap64 (a0_1 + a0_2)) + a0_3))
/-! impl_hasDegree -/
def impl_hasDegree.f (a0_0 : Int) (a0_1 : Int) (a0_2 : Int) (a0_3 : Int) : Option (Bool) := (impl_inside.f a0_1 0 4).bind fun t171 => (if t171 = true then ((impl_inside.f a0_2 0 4).bind fun t172 => (if t172 = true then ((impl_inside.f a0_3 0 4).bind fun t173 => (if t173 = true then ((impl_Term_degree.f a0_0 a0_1 a0_2 a0_3).bind fun t174 => (some (decide (t174 ≤ 4)))) else (some false))) else (some false))) else (some false))
/-! cmp_Or_int -/
def cmp_Or_int.l0 : Nat → Int → List Int → Int → Int → Option (Int)
  | 0, _, _, _, _ => none
  | k + 1, x3, x6, x7, x8 => if x8 < x7 then (if 0 ≤ x8 then (if x8 < (x6.length : Int) then (if (rd x6 x8) = x3 then (cmp_Or_int.l0 k x3 x6 x7 (wrap64 (x8 + 1))) else (some (rd x6 x8))) else (none)) else (none)) else (some x3)
def cmp_Or_int.f (k : Nat) (l0 : List Int) : Option (Int) := cmp_Or_int.l0 k 0 l0 (l0.length : Int) 0
/-! cmp_isNaN_int -/
def cmp_isNaN_int.f (a0 : Int) : Option (Bool) := some (a0 != a0)
/-! cmp_Compare_int -/
def cmp_Compare_int.f (a0 : Int) (a1 : Int) : Option (Int) := (cmp_isNaN_int.f a0).bind fun t176 => ((cmp_isNaN_int.f a1).bind fun t177 => (if t176 = true then (if t177 = true then (some 0) else (some (-1))) else (if t177 = true then (some 1) else (if a0 < a1 then (some (-1)) else (if a0 > a1 then (some 1) else (some 0))))))
/-! impl_compareTerms -/
def impl_compareTerms.f (k : Nat) (a0_0 : Int) (a0_1 : Int) (a0_2 : Int) (a0_3 : Int) (a1_0 : Int) (a1_1 : Int) (a1_2 : Int) (a1_3 : Int) : Option (Int) := (cmp_Compare_int.f a0_1 a1_1).bind fun t180 => ((cmp_Compare_int.f a0_2 a1_2).bind fun t181 => ((cmp_Compare_int.f a0_3 a1_3).bind fun t182 => ((cmp_Or_int.f k (([t180, t181, t182] : List Int))).bind fun t186 => (some t186))))
/-! impl_isPoly -/
def impl_isPoly.l0 : Nat → List (S38) → List (S38) → Int → Int → Option (Bool)
  | 0, _, _, _, _ => none
  | k + 1, x0, x5, x6, x7 => if x7 < x6 then (if 0 ≤ x7 then (if x7 < (x5.length : Int) then (if ((rd_T38 x5 x7).f0) = 0 then (some false) else ((impl_inside.f ((rd_T38 x5 x7).f0) (-1000) 1000).bind fun t189 => (if t189 = true then ((impl_hasDegree.f ((rd_T38 x5 x7).f0) ((rd_T38 x5 x7).f1) ((rd_T38 x5 x7).f2) ((rd_T38 x5 x7).f3)).bind fun t190 => (if t190 = true then (if x7 > 0 then (if 0 ≤ (wrap64 (x7 - 1)) then (if (wrap64 (x7 - 1)) < (x0.length : Int) then ((impl_compareTerms.f k ((rd_T38 x0 (wrap64 (x7 - 1))).f0) ((rd_T38 x0 (wrap64 (x7 - 1))).f1) ((rd_T38 x0 (wrap64 (x7 - 1))).f2) ((rd_T38 x0 (wrap64 (x7 - 1))).f3) ((rd_T38 x5 x7).f0) ((rd_T38 x5 x7).f1) ((rd_T38 x5 x7).f2) ((rd_T38 x5 x7).f3)).bind fun t192 => (if t192 ≥ 0 then (some false) else (impl_isPoly.l0 k x0 x5 x6 (wrap64 (x7 + 1))))) else (none)) else (none)) else (impl_isPoly.l0 k x0 x5 x6 (wrap64 (x7 + 1)))) else (some false))) else (some false)))) else (none)) else (none)) else (some (decide ((x0.length : Int) ≤ 20)))
def impl_isPoly.f (k : Nat) (l0 : List (S38)) : Option (Bool) := impl_isPoly.l0 k l0 l0 (l0.length : Int) 0
/-! impl_needsAtMost -/
-- HAND rounds=1 making=1
/-- An exponent of a term. -/
def impl_needsAtMost.pw (t : S38) (k : Int) : Int := if k = 0 then t.f1 else (if k = 1 then t.f2 else t.f3)
mutual
def impl_needsAtMost.l0 : Nat → List S38 → Int → Int → Option Bool
  | 0, _, _, _ => none
  | k + 1, l, n, i => if i < (l.length : Int) then (if 0 ≤ i then impl_needsAtMost.l1 k l n i 0 else none) else some true
def impl_needsAtMost.l1 : Nat → List S38 → Int → Int → Int → Option Bool
  | 0, _, _, _, _ => none
  | k + 1, l, n, i, j => if j < 3 then (if 0 ≤ j then (if j ≥ n then (if impl_needsAtMost.pw (rd_T38 l i) j > 0 then some false else impl_needsAtMost.l1 k l n i (wrap64 (j + 1))) else impl_needsAtMost.l1 k l n i (wrap64 (j + 1))) else none) else impl_needsAtMost.l0 k l n (wrap64 (i + 1))
end
def impl_needsAtMost.f (k : Nat) (l0 : List (S38)) (a1 : Int) : Option Bool := impl_needsAtMost.l0 k l0 a1 0
/-! impl_isSystem -/
def impl_isSystem.l0 : Nat → List (List (S38)) → List (List (S38)) → Int → Int → Option (Bool)
  | 0, _, _, _, _ => none
  | k + 1, x0, x5, x6, x7 => if x7 < x6 then (if 0 ≤ x7 then (if x7 < (x5.length : Int) then ((impl_isPoly.f k (rd_L4 x5 x7)).bind fun t195 => (if t195 = true then ((impl_needsAtMost.f k (rd_L4 x5 x7) (x0.length : Int)).bind fun t196 => (if t196 = true then (impl_isSystem.l0 k x0 x5 x6 (wrap64 (x7 + 1))) else (some false))) else (some false))) else (none)) else (none)) else ((impl_inside.f (x0.length : Int) 1 3).bind fun t193 => (some t193))
def impl_isSystem.f (k : Nat) (l0 : List (List (S38))) : Option (Bool) := impl_isSystem.l0 k l0 l0 (l0.length : Int) 0
/-! strconv_small -/
/-! strconv_log10Pow2 -/
/-! bits_Len64 -/
/-! strconv_bool2_int -/
/-! strconv_isPowerOfTwo -/
/-! strconv_Itoa_37 -/
-- HAND rounds=0 making=1
/-- A whole number in decimal digits. -/
def strconv_Itoa_37.f (a0 : Int) : Option ByteArray := if -9223372036854775808 ≤ a0 ∧ a0 ≤ 9223372036854775807 then some ⟨(Lib.itoa a0).toArray⟩ else none
/-! impl_termText -/
-- HAND rounds=0 making=1
/-- What the list takes in of one unknown. -/
def impl_termText.pt (u : ByteArray) (e : Int) : Option (List ByteArray) := if e = 1 then some [u] else (if e > 1 then ((strconv_Itoa_37.f e).bind fun s => if (u ++ (⟨#[94]⟩ : ByteArray)).size + s.size ≤ 9223372036854775807 then some [u ++ (⟨#[94]⟩ : ByteArray) ++ s] else none) else some [])
/-- The pieces, joined. -/
def impl_termText.jn (xs : List ByteArray) : ByteArray := ⟨(Lib.join (xs.map (·.data.toList)) [42]).toArray⟩
def impl_termText.tl (c : Int) (a : ByteArray) : Option ByteArray := if a.toList = ([] : List UInt8) then strconv_Itoa_37.f c else (if c = 1 then some a else (if c = -1 then (if 1 + a.size ≤ 9223372036854775807 then some ((⟨#[45]⟩ : ByteArray) ++ a) else none) else ((strconv_Itoa_37.f c).bind fun s => if s.size + 1 ≤ 9223372036854775807 then (if (s ++ (⟨#[42]⟩ : ByteArray)).size + a.size ≤ 9223372036854775807 then some (s ++ (⟨#[42]⟩ : ByteArray) ++ a) else none) else none)))
def impl_termText.f (c x y z : Int) : Option ByteArray := (impl_termText.pt ((⟨#[120, 121, 122]⟩ : ByteArray).extract 0 1) x).bind fun p0 => (impl_termText.pt ((⟨#[120, 121, 122]⟩ : ByteArray).extract 1 2) y).bind fun p1 => (impl_termText.pt ((⟨#[120, 121, 122]⟩ : ByteArray).extract 2 3) z).bind fun p2 => if (Lib.join ((p0 ++ p1 ++ p2).map (·.data.toList)) [42]).length ≤ 140737488355328 then impl_termText.tl c (impl_termText.jn (p0 ++ p1 ++ p2)) else none
/-! impl_polyText -/
def impl_polyText.l0 : Nat → List (S38) → ByteArray → Int → Option (ByteArray)
  | 0, _, _, _ => none
  | k + 1, x0, x3, x4 => if x4 ≥ 0 then (if 0 ≤ x4 then (if x4 < (x0.length : Int) then ((impl_termText.f ((rd_T38 x0 x4).f0) ((rd_T38 x0 x4).f1) ((rd_T38 x0 x4).f2) ((rd_T38 x0 x4).f3)).bind fun t219 => (if x3.toList = ([] : List UInt8) then (if x3.size + t219.size ≤ 9223372036854775807 then (impl_polyText.l0 k x0 (x3 ++ t219) (wrap64 (x4 - 1))) else (none)) else (if 0 < (t219.size : Int) then (if (bt t219 0) = 45 then (if x3.size + t219.size ≤ 9223372036854775807 then (impl_polyText.l0 k x0 (x3 ++ t219) (wrap64 (x4 - 1))) else (none)) else (if x3.size + 1 ≤ 9223372036854775807 then (if (x3 ++ (⟨#[43]⟩ : ByteArray)).size + t219.size ≤ 9223372036854775807 then (impl_polyText.l0 k x0 ((x3 ++ (⟨#[43]⟩ : ByteArray)) ++ t219) (wrap64 (x4 - 1))) else (none)) else (none))) else (none)))) else (none)) else (none)) else (some x3)
def impl_polyText.f (k : Nat) (l0 : List (S38)) : Option (ByteArray) := if (l0.length : Int) = 0 then (some (⟨#[48]⟩ : ByteArray)) else (impl_polyText.l0 k l0 (⟨#[]⟩ : ByteArray) (wrap64 ((l0.length : Int) - 1)))
/-! impl_SystemText -/
def impl_SystemText.l0 : Nat → ByteArray → List (List (S38)) → Int → Int → Option (ByteArray × Bool)
  | 0, _, _, _, _ => none
  | k + 1, x4, x10, x11, x12 => if x12 < x11 then (if 0 ≤ x12 then (if x12 < (x10.length : Int) then ((impl_polyText.f k (rd_L4 x10 x12)).bind fun t222 => (if t222.size + 1 ≤ 9223372036854775807 then (if x4.size + (t222 ++ (⟨#[59]⟩ : ByteArray)).size ≤ 9223372036854775807 then (impl_SystemText.l0 k (x4 ++ (t222 ++ (⟨#[59]⟩ : ByteArray))) x10 x11 (wrap64 (x12 + 1))) else (none)) else (none))) else (none)) else (none)) else (some (x4, true))
def impl_SystemText.f (k : Nat) (l0 : List (List (S38))) : Option (ByteArray × Bool) := (impl_isSystem.f k l0).bind fun t220 => (if t220 = true then (impl_SystemText.l0 k (⟨#[]⟩ : ByteArray) l0 (l0.length : Int) 0) else (some ((⟨#[]⟩ : ByteArray), false)))
/-! laws_eqTerm -/
def laws_eqTerm.f (a0_0 : Int) (a0_1 : Int) (a0_2 : Int) (a0_3 : Int) (a1_0 : Int) (a1_1 : Int) (a1_2 : Int) (a1_3 : Int) : Option (Bool) := if a0_0 = a1_0 then (if a0_1 = a1_1 then (if a0_2 = a1_2 then (if a0_3 = a1_3 then (some true) else (some false)) else (some false)) else (some false)) else (some false)
/-! laws_eqTermS -/
def laws_eqTermS.l0 : Nat → List (S38) → List (S38) → Int → Option (Bool)
  | 0, _, _, _ => none
  | k + 1, x0, x1, x5 => if x5 < (x0.length : Int) then (if 0 ≤ x5 then (if x5 < (x1.length : Int) then ((laws_eqTerm.f ((rd_T38 x0 x5).f0) ((rd_T38 x0 x5).f1) ((rd_T38 x0 x5).f2) ((rd_T38 x0 x5).f3) ((rd_T38 x1 x5).f0) ((rd_T38 x1 x5).f1) ((rd_T38 x1 x5).f2) ((rd_T38 x1 x5).f3)).bind fun t227 => (if t227 = true then (laws_eqTermS.l0 k x0 x1 (wrap64 (x5 + 1))) else (some false))) else (none)) else (none)) else (some true)
def laws_eqTermS.f (k : Nat) (l0 : List (S38)) (l1 : List (S38)) : Option (Bool) := if (l0.length : Int) = (l1.length : Int) then (laws_eqTermS.l0 k l0 l1 0) else (some false)
/-! laws_intactTermS -/
-- HAND rounds=0 making=1
/-- Whether two lists are one, their spare cells as toTermS lays them. -/
def laws_intactTermS.f (l0 : List S38) (l1 : List S38) : Option (Bool) := if l0 = l1 then some true else none
/-! laws_eqTermSS -/
def laws_eqTermSS.l0 : Nat → List (List (S38)) → List (List (S38)) → Int → Option (Bool)
  | 0, _, _, _ => none
  | k + 1, x0, x1, x5 => if x5 < (x0.length : Int) then (if 0 ≤ x5 then (if x5 < (x1.length : Int) then ((laws_eqTermS.f k (rd_L4 x0 x5) (rd_L4 x1 x5)).bind fun t230 => (if t230 = true then (laws_eqTermSS.l0 k x0 x1 (wrap64 (x5 + 1))) else (some false))) else (none)) else (none)) else (some true)
def laws_eqTermSS.f (k : Nat) (l0 : List (List (S38))) (l1 : List (List (S38))) : Option (Bool) := if (l0.length : Int) = (l1.length : Int) then (laws_eqTermSS.l0 k l0 l1 0) else (some false)
/-! laws_intactTermSS -/
-- HAND rounds=0 making=1
def laws_intactTermSS.f (l0 l1 : List (List S38)) : Option Bool := if l0 = l1 then some true else none
/-! laws_FnExactSystemText -/
def laws_FnExactSystemText.f (k : Nat) (l0 : List (List (S46))) : Option (Bool) := (laws_szTermSS.f k l0 1000000).bind fun t231 => (if t231 < 0 then (some true) else ((laws_toTermSS.f k l0 false).bind fun t232 => ((spec_SystemText.f k t232).bind fun bt235 => ((laws_toTermSS.f k l0 false).bind fun t237 => ((impl_SystemText.f k t237).bind fun bt240 => (if bt240.1.toList = bt235.1.toList then (if (bt240.2 != bt235.2) = true then (none) else ((laws_toTermSS.f k l0 false).bind fun t242 => ((laws_intactTermSS.f t237 t242).bind fun t245 => (if t245 = true then ((laws_toTermSS.f k l0 true).bind fun t246 => ((impl_SystemText.f k t246).bind fun bt249 => (if bt249.1.toList = bt235.1.toList then (if (bt249.2 != bt235.2) = true then (none) else (some true)) else (none)))) else (none))))) else (none)))))))
end Go.Proofs.YtemjjknnelngcaaDoor.PD
