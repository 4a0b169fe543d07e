-- By wip/mk/drv.py
import Derived.Test.YtemjjknnelngcaaQIsSyemPDx0
namespace Go.Proofs.Ytemjjknnelngcaa.PD
open Go.RowKit Go.Proofs.YtemjjknnelngcaaW.PrintWords Go.Proofs.YtemjjknnelngcaaW.PrintLast Go.Proofs.YtemjjknnelngcaaW.PrintMore
attribute [local go_sem] max2_int min2_int max_two min_two max_three min_three max_four min_four
set_option linter.unusedVariables false
set_option linter.unusedSimpArgs false
/-! laws_szTermS -/
def laws_szTermS.f (l0 : List (S42)) (a1 : Int) : Option (Int) := if (wrap64 (a1 - (l0.length : Int))) < 0 then (some (-1)) else (some (wrap64 (a1 - (l0.length : Int))))
/-! laws_szTermSS -/
def laws_szTermSS.l0 : Nat → List (List (S42)) → Int → Int → Option (Int)
  | 0, _, _, _ => none
  | k + 1, x0, x1, x5 => if x5 < (x0.length : Int) then (if 0 ≤ x5 then ((laws_szTermS.f (rd_L2 x0 x5) x1).bind fun t102 => (if t102 < 0 then (some (-1)) else (laws_szTermSS.l0 k x0 t102 (wrap64 (x5 + 1))))) else (none)) else (some x1)
def laws_szTermSS.f (k : Nat) (l0 : List (List (S42))) (a1 : Int) : Option (Int) := if (wrap64 (a1 - (l0.length : Int))) < 0 then (some (-1)) else (laws_szTermSS.l0 k l0 (wrap64 (a1 - (l0.length : Int))) 0)
/-! spec_l1In -/
def spec_l1In.f (a0 : Int) (a1 : Int) (a2 : Int) : Option (Bool) := if a0 ≥ a1 then (some (decide (a0 ≤ a2))) else (some false)
/-! spec_poTerm -/
def spec_poTerm.f (a0_0 : Int) (a0_1 : Int) (a0_2 : Int) (a0_3 : Int) : Option (Bool) := (spec_l1In.f a0_0 (-1000) 1000).bind fun t104 => (if t104 = true then ((spec_l1In.f a0_1 0 4).bind fun t105 => (if t105 = true then ((spec_l1In.f a0_2 0 4).bind fun t106 => (if t106 = true then ((spec_l1In.f a0_3 0 4).bind fun t107 => (if t107 = true then (some (decide ((wrap64 ((wrap64 (a0_1 + a0_2)) + a0_3)) ≤ 4))) else (some false))) else (some false))) else (some false))) else (some false))
/-! spec_l1Sign -/
def spec_l1Sign.f (a0 : Int) : Option (Int) := if a0 > 0 then (some 1) else (if a0 < 0 then (some (-1)) else (some 0))
/-! spec_poOrder -/
def spec_poOrder.f (a0_0 : Int) (a0_1 : Int) (a0_2 : Int) (a0_3 : Int) (a1_0 : Int) (a1_1 : Int) (a1_2 : Int) (a1_3 : Int) : Option (Int) := if a0_1 = a1_1 then (if a0_2 = a1_2 then ((spec_l1Sign.f (wrap64 (a0_3 - a1_3))).bind fun t110 => (some t110)) else ((spec_l1Sign.f (wrap64 (a0_2 - a1_2))).bind fun t111 => (some t111))) else ((spec_l1Sign.f (wrap64 (a0_1 - a1_1))).bind fun t112 => (some t112))
/-! spec_poGood -/
def spec_poGood.l0 : Nat → List (S35) → List (S35) → Int → Int → Option (Bool)
  | 0, _, _, _, _ => none
  | k + 1, x0, x5, x6, x7 => if x7 < x6 then (if 0 ≤ x7 then (if x7 < (x5.length : Int) then ((spec_poTerm.f ((rd_T35 x5 x7).f0) ((rd_T35 x5 x7).f1) ((rd_T35 x5 x7).f2) ((rd_T35 x5 x7).f3)).bind fun t115 => (if t115 = true then (if ((rd_T35 x5 x7).f0) = 0 then (some false) else (if x7 > 0 then (if 0 ≤ (wrap64 (x7 - 1)) then (if (wrap64 (x7 - 1)) < (x0.length : Int) then ((spec_poOrder.f ((rd_T35 x0 (wrap64 (x7 - 1))).f0) ((rd_T35 x0 (wrap64 (x7 - 1))).f1) ((rd_T35 x0 (wrap64 (x7 - 1))).f2) ((rd_T35 x0 (wrap64 (x7 - 1))).f3) ((rd_T35 x5 x7).f0) ((rd_T35 x5 x7).f1) ((rd_T35 x5 x7).f2) ((rd_T35 x5 x7).f3)).bind fun t117 => (if t117 ≥ 0 then (some false) else (spec_poGood.l0 k x0 x5 x6 (wrap64 (x7 + 1))))) else (none)) else (none)) else (spec_poGood.l0 k x0 x5 x6 (wrap64 (x7 + 1))))) else (some false))) else (none)) else (none)) else (some (decide ((x0.length : Int) ≤ 20)))
def spec_poGood.f (k : Nat) (l0 : List (S35)) : Option (Bool) := spec_poGood.l0 k l0 l0 (l0.length : Int) 0
/-! spec_l1Most -/
def spec_l1Most.f (a0 : Int) (a1 : Int) : Option (Int) := if a0 > a1 then (some a0) else (some a1)
/-! spec_poPower -/
def spec_poPower.f (a0_0 : Int) (a0_1 : Int) (a0_2 : Int) (a0_3 : Int) (a1 : Int) : Option (Int) := if a1 = 0 then (some a0_1) else (if a1 = 1 then (some a0_2) else (some a0_3))
/-! spec_poDegreeIn -/
def spec_poDegreeIn.l0 : Nat → Int → Int → List (S35) → Int → Int → Option (Int)
  | 0, _, _, _, _, _ => none
  | k + 1, x1, x5, x8, x9, x10 => if x10 < x9 then (if 0 ≤ x10 then (if x10 < (x8.length : Int) then ((spec_poPower.f ((rd_T35 x8 x10).f0) ((rd_T35 x8 x10).f1) ((rd_T35 x8 x10).f2) ((rd_T35 x8 x10).f3) x1).bind fun t121 => ((spec_l1Most.f x5 t121).bind fun t122 => (spec_poDegreeIn.l0 k x1 t122 x8 x9 (wrap64 (x10 + 1))))) else (none)) else (none)) else (some x5)
def spec_poDegreeIn.f (k : Nat) (l0 : List (S35)) (a1 : Int) : Option (Int) := spec_poDegreeIn.l0 k a1 (-1) l0 (l0.length : Int) 0
/-! spec_poSystem -/
mutual
def spec_poSystem.l0 : Nat → List (List (S35)) → List (List (S35)) → Int → Int → Option (Bool)
  | 0, _, _, _, _ => none
  | k + 1, x0, x6, x7, x8 => if x8 < x7 then (if 0 ≤ x8 then (if x8 < (x6.length : Int) then ((spec_poGood.f k (rd_L4 x6 x8)).bind fun t125 => (if t125 = true then (spec_poSystem.l1 k x0 (rd_L4 x6 x8) (x0.length : Int) x6 x7 x8) else (some false))) else (none)) else (none)) else ((spec_l1In.f (x0.length : Int) 1 3).bind fun t123 => (some t123))
def spec_poSystem.l1 : Nat → List (List (S35)) → List (S35) → Int → List (List (S35)) → Int → Int → Option (Bool)
  | 0, _, _, _, _, _, _ => none
  | k + 1, x0, x4, x5, x6, x7, x8 => if x5 < 3 then ((spec_poDegreeIn.f k x4 x5).bind fun t126 => (if t126 > 0 then (some false) else (spec_poSystem.l1 k x0 x4 (wrap64 (x5 + 1)) x6 x7 x8))) else (spec_poSystem.l0 k x0 x6 x7 (wrap64 (x8 + 1)))
end
def spec_poSystem.f (k : Nat) (l0 : List (List (S35))) : Option (Bool) := spec_poSystem.l0 k l0 l0 (l0.length : Int) 0
/-! spec_IsSystem -/
def spec_IsSystem.f (k : Nat) (l0 : List (List (S35))) : Option (Bool) := (spec_poSystem.f k l0).bind fun t127 => (some t127)
/-! laws_roomBehind -/
def laws_roomBehind.f (a0 : Int) : Option (Int) := if (Int.tmod a0 6) = 5 then (some 0) else (if (Int.tmod a0 3) = 0 then (some 1) else (some a0))
/-! laws_fillerTerm -/
def laws_fillerTerm.f  : Option (Int × Int × Int × Int) := some ((-7000000000000000101), (-7000000000000000101), (-7000000000000000101), (-7000000000000000101))
/-! laws_toTerm -/
def laws_toTerm.f (a0_0 : Int) (a0_1 : Int) (a0_2 : Int) (a0_3 : Int) : Option (Int × Int × Int × Int) := some (a0_0, a0_1, a0_2, a0_3)
/-! laws_toTermS -/
mutual
def laws_toTermS.j0 : Nat → List (S42) → Bool → Option ((List (S35)))
  | 0, _, _ => none
  | k + 1, x0, x13 => if x13 = true then (some ([] : List (S35))) else ((laws_roomBehind.f (x0.length : Int)).bind fun t132 => (if 0 ≤ (wrap64 ((x0.length : Int) + t132)) then (if (wrap64 ((x0.length : Int) + t132) : Int).toNat ≤ 8796093022208 then (laws_toTermS.l0 k x0 (List.replicate (wrap64 ((x0.length : Int) + t132) : Int).toNat z35) 0) else (none)) else (none)))
def laws_toTermS.l0 : Nat → List (S42) → List (S35) → Int → Option ((List (S35)))
  | 0, _, _, _ => none
  | k + 1, x0, x5, x6 => if x6 < (x0.length : Int) then (if 0 ≤ x6 then ((laws_toTerm.f ((rd_T42 x0 x6).f0) ((rd_T42 x0 x6).f1) ((rd_T42 x0 x6).f2) ((rd_T42 x0 x6).f3)).bind fun bt137 => (if x6 < (x5.length : Int) then (laws_toTermS.l0 k x0 (x5.set (x6 : Int).toNat (⟨bt137.1, bt137.2.1, bt137.2.2.1, bt137.2.2.2⟩ : S35)) (wrap64 (x6 + 1))) else (none))) else (none)) else (laws_toTermS.l1 k x0 x5 (x0.length : Int))
def laws_toTermS.l1 : Nat → List (S42) → List (S35) → Int → Option ((List (S35)))
  | 0, _, _, _ => none
  | k + 1, x0, x5, x7 => if x7 < (x5.length : Int) then ((laws_fillerTerm.f).bind fun bt142 => (if 0 ≤ x7 then (laws_toTermS.l1 k x0 (x5.set (x7 : Int).toNat (⟨bt142.1, bt142.2.1, bt142.2.2.1, bt142.2.2.2⟩ : S35)) (wrap64 (x7 + 1))) else (none))) else (if 0 ≤ (x0.length : Int) then (if (x0.length : Int) ≤ (x5.length : Int) then (some (x5.take ((x0.length : Int) : Int).toNat)) else (none)) else (none))
end
def laws_toTermS.f (k : Nat) (l0 : List (S42)) (a1 : Bool) : Option ((List (S35))) := if a1 = true then (laws_toTermS.j0 k l0 ((l0.length : Int) == 0)) else (laws_toTermS.j0 k l0 false)
/-! laws_toTermSS -/
-- HAND rounds=1 making=1
def laws_toTermSS.rd (xs : List (List S42)) (i : Int) : List S42 := xs.getD i.toNat []
mutual
def laws_toTermSS.j0 : Nat → List (List (S42)) → Bool → Bool → Option ((List (List (S35))))
  | 0, _, _, _ => none
  | k + 1, x0, x1, x13 => if x13 = true then (some ([] : List (List (S35)))) else ((laws_roomBehind.f (x0.length : Int)).bind fun t150 => (if 0 ≤ (wrap64 ((x0.length : Int) + t150)) then (if (wrap64 ((x0.length : Int) + t150) : Int).toNat ≤ 11728124029610 then (laws_toTermSS.l0 k x0 x1 (List.replicate (wrap64 ((x0.length : Int) + t150) : Int).toNat []) 0) else (none)) else (none)))
def laws_toTermSS.l0 : Nat → List (List (S42)) → Bool → List (List (S35)) → Int → Option ((List (List (S35))))
  | 0, _, _, _, _ => none
  | k + 1, x0, x1, x5, x6 => if x6 < (x0.length : Int) then (if 0 ≤ x6 then ((laws_toTermS.f k (laws_toTermSS.rd x0 x6) x1).bind fun t155 => (if x6 < (x5.length : Int) then (laws_toTermSS.l0 k x0 x1 (x5.set (x6 : Int).toNat t155) (wrap64 (x6 + 1))) else (none))) else (none)) else (laws_toTermSS.l1 k x0 x5 (x0.length : Int))
def laws_toTermSS.l1 : Nat → List (List (S42)) → List (List (S35)) → Int → Option ((List (List (S35))))
  | 0, _, _, _ => none
  | k + 1, x0, x5, x7 => if x7 < (x5.length : Int) then ((laws_fillerTerm.f).bind fun bt159 => (if 0 ≤ x7 then (laws_toTermSS.l1 k x0 (x5.set (x7 : Int).toNat (([(⟨bt159.1, bt159.2.1, bt159.2.2.1, bt159.2.2.2⟩ : S35)] : List (S35)))) (wrap64 (x7 + 1))) else (none))) else (if 0 ≤ (x0.length : Int) then (if (x0.length : Int) ≤ (x5.length : Int) then (some (x5.take ((x0.length : Int) : Int).toNat)) else (none)) else (none))
end
def laws_toTermSS.f (k : Nat) (l0 : List (List (S42))) (a1 : Bool) : Option ((List (List (S35)))) := if a1 = true then (laws_toTermSS.j0 k l0 a1 ((l0.length : Int) == 0)) else (laws_toTermSS.j0 k l0 a1 false)
/-! impl_inside -/
def impl_inside.f (a0 : Int) (a1 : Int) (a2 : Int) : Option (Bool) := if a0 ≥ a1 then (some (decide (a0 ≤ a2))) else (some false)
/-! impl_Term_degree -/
def impl_Term_degree.f (a0_0 : Int) (a0_1 : Int) (a0_2 : Int) (a0_3 : Int) : Option (Int) := some (wrap64 ((wrap64 (a0_1 + a0_2)) + a0_3))
/-! impl_hasDegree -/
def impl_hasDegree.f (a0_0 : Int) (a0_1 : Int) (a0_2 : Int) (a0_3 : Int) : Option (Bool) := (impl_inside.f a0_1 0 4).bind fun t152 => (if t152 = true then ((impl_inside.f a0_2 0 4).bind fun t153 => (if t153 = true then ((impl_inside.f a0_3 0 4).bind fun t154 => (if t154 = true then ((impl_Term_degree.f a0_0 a0_1 a0_2 a0_3).bind fun t155 => (some (decide (t155 ≤ 4)))) else (some false))) else (some false))) else (some false))
/-! cmp_Or_int -/
def cmp_Or_int.l0 : Nat → Int → List Int → Int → Int → Option (Int)
  | 0, _, _, _, _ => none
  | k + 1, x3, x6, x7, x8 => if x8 < x7 then (if 0 ≤ x8 then (if x8 < (x6.length : Int) then (if (rd x6 x8) = x3 then (cmp_Or_int.l0 k x3 x6 x7 (wrap64 (x8 + 1))) else (some (rd x6 x8))) else (none)) else (none)) else (some x3)
def cmp_Or_int.f (k : Nat) (l0 : List Int) : Option (Int) := cmp_Or_int.l0 k 0 l0 (l0.length : Int) 0
/-! cmp_isNaN_int -/
def cmp_isNaN_int.f (a0 : Int) : Option (Bool) := some (a0 != a0)
/-! cmp_Compare_int -/
def cmp_Compare_int.f (a0 : Int) (a1 : Int) : Option (Int) := (cmp_isNaN_int.f a0).bind fun t157 => ((cmp_isNaN_int.f a1).bind fun t158 => (if t157 = true then (if t158 = true then (some 0) else (some (-1))) else (if t158 = true then (some 1) else (if a0 < a1 then (some (-1)) else (if a0 > a1 then (some 1) else (some 0))))))
/-! impl_compareTerms -/
def impl_compareTerms.f (k : Nat) (a0_0 : Int) (a0_1 : Int) (a0_2 : Int) (a0_3 : Int) (a1_0 : Int) (a1_1 : Int) (a1_2 : Int) (a1_3 : Int) : Option (Int) := (cmp_Compare_int.f a0_1 a1_1).bind fun t161 => ((cmp_Compare_int.f a0_2 a1_2).bind fun t162 => ((cmp_Compare_int.f a0_3 a1_3).bind fun t163 => ((cmp_Or_int.f k (([t161, t162, t163] : List Int))).bind fun t167 => (some t167))))
/-! impl_isPoly -/
def impl_isPoly.l0 : Nat → List (S35) → List (S35) → Int → Int → Option (Bool)
  | 0, _, _, _, _ => none
  | k + 1, x0, x5, x6, x7 => if x7 < x6 then (if 0 ≤ x7 then (if x7 < (x5.length : Int) then (if ((rd_T35 x5 x7).f0) = 0 then (some false) else ((impl_inside.f ((rd_T35 x5 x7).f0) (-1000) 1000).bind fun t170 => (if t170 = true then ((impl_hasDegree.f ((rd_T35 x5 x7).f0) ((rd_T35 x5 x7).f1) ((rd_T35 x5 x7).f2) ((rd_T35 x5 x7).f3)).bind fun t171 => (if t171 = true then (if x7 > 0 then (if 0 ≤ (wrap64 (x7 - 1)) then (if (wrap64 (x7 - 1)) < (x0.length : Int) then ((impl_compareTerms.f k ((rd_T35 x0 (wrap64 (x7 - 1))).f0) ((rd_T35 x0 (wrap64 (x7 - 1))).f1) ((rd_T35 x0 (wrap64 (x7 - 1))).f2) ((rd_T35 x0 (wrap64 (x7 - 1))).f3) ((rd_T35 x5 x7).f0) ((rd_T35 x5 x7).f1) ((rd_T35 x5 x7).f2) ((rd_T35 x5 x7).f3)).bind fun t173 => (if t173 ≥ 0 then (some false) else (impl_isPoly.l0 k x0 x5 x6 (wrap64 (x7 + 1))))) else (none)) else (none)) else (impl_isPoly.l0 k x0 x5 x6 (wrap64 (x7 + 1)))) else (some false))) else (some false)))) else (none)) else (none)) else (some (decide ((x0.length : Int) ≤ 20)))
def impl_isPoly.f (k : Nat) (l0 : List (S35)) : Option (Bool) := impl_isPoly.l0 k l0 l0 (l0.length : Int) 0
/-! impl_needsAtMost -/
-- HAND rounds=1 making=1
/-- An exponent of a term. -/
def impl_needsAtMost.pw (t : S35) (k : Int) : Int := if k = 0 then t.f1 else (if k = 1 then t.f2 else t.f3)
mutual
def impl_needsAtMost.l0 : Nat → List S35 → Int → Int → Option Bool
  | 0, _, _, _ => none
  | k + 1, l, n, i => if i < (l.length : Int) then (if 0 ≤ i then impl_needsAtMost.l1 k l n i 0 else none) else some true
def impl_needsAtMost.l1 : Nat → List S35 → Int → Int → Int → Option Bool
  | 0, _, _, _, _ => none
  | k + 1, l, n, i, j => if j < 3 then (if 0 ≤ j then (if j ≥ n then (if impl_needsAtMost.pw (rd_T35 l i) j > 0 then some false else impl_needsAtMost.l1 k l n i (wrap64 (j + 1))) else impl_needsAtMost.l1 k l n i (wrap64 (j + 1))) else none) else impl_needsAtMost.l0 k l n (wrap64 (i + 1))
end
def impl_needsAtMost.f (k : Nat) (l0 : List (S35)) (a1 : Int) : Option Bool := impl_needsAtMost.l0 k l0 a1 0
/-! impl_isSystem -/
def impl_isSystem.l0 : Nat → List (List (S35)) → List (List (S35)) → Int → Int → Option (Bool)
  | 0, _, _, _, _ => none
  | k + 1, x0, x5, x6, x7 => if x7 < x6 then (if 0 ≤ x7 then (if x7 < (x5.length : Int) then ((impl_isPoly.f k (rd_L4 x5 x7)).bind fun t176 => (if t176 = true then ((impl_needsAtMost.f k (rd_L4 x5 x7) (x0.length : Int)).bind fun t177 => (if t177 = true then (impl_isSystem.l0 k x0 x5 x6 (wrap64 (x7 + 1))) else (some false))) else (some false))) else (none)) else (none)) else ((impl_inside.f (x0.length : Int) 1 3).bind fun t174 => (some t174))
def impl_isSystem.f (k : Nat) (l0 : List (List (S35))) : Option (Bool) := impl_isSystem.l0 k l0 l0 (l0.length : Int) 0
/-! impl_IsSystem -/
def impl_IsSystem.f (k : Nat) (l0 : List (List (S35))) : Option (Bool) := (impl_isSystem.f k l0).bind fun t178 => (some t178)
/-! laws_eqTerm -/
def laws_eqTerm.f (a0_0 : Int) (a0_1 : Int) (a0_2 : Int) (a0_3 : Int) (a1_0 : Int) (a1_1 : Int) (a1_2 : Int) (a1_3 : Int) : Option (Bool) := if a0_0 = a1_0 then (if a0_1 = a1_1 then (if a0_2 = a1_2 then (if a0_3 = a1_3 then (some true) else (some false)) else (some false)) else (some false)) else (some false)
/-! laws_eqTermS -/
def laws_eqTermS.l0 : Nat → List (S35) → List (S35) → Int → Option (Bool)
  | 0, _, _, _ => none
  | k + 1, x0, x1, x5 => if x5 < (x0.length : Int) then (if 0 ≤ x5 then (if x5 < (x1.length : Int) then ((laws_eqTerm.f ((rd_T35 x0 x5).f0) ((rd_T35 x0 x5).f1) ((rd_T35 x0 x5).f2) ((rd_T35 x0 x5).f3) ((rd_T35 x1 x5).f0) ((rd_T35 x1 x5).f1) ((rd_T35 x1 x5).f2) ((rd_T35 x1 x5).f3)).bind fun t183 => (if t183 = true then (laws_eqTermS.l0 k x0 x1 (wrap64 (x5 + 1))) else (some false))) else (none)) else (none)) else (some true)
def laws_eqTermS.f (k : Nat) (l0 : List (S35)) (l1 : List (S35)) : Option (Bool) := if (l0.length : Int) = (l1.length : Int) then (laws_eqTermS.l0 k l0 l1 0) else (some false)
/-! laws_intactTermS -/
-- HAND rounds=0 making=1
/-- Whether two lists are one, their spare cells as toTermS lays them. -/
def laws_intactTermS.f (l0 : List S35) (l1 : List S35) : Option (Bool) := if l0 = l1 then some true else none
/-! laws_eqTermSS -/
def laws_eqTermSS.l0 : Nat → List (List (S35)) → List (List (S35)) → Int → Option (Bool)
  | 0, _, _, _ => none
  | k + 1, x0, x1, x5 => if x5 < (x0.length : Int) then (if 0 ≤ x5 then (if x5 < (x1.length : Int) then ((laws_eqTermS.f k (rd_L4 x0 x5) (rd_L4 x1 x5)).bind fun t186 => (if t186 = true then (laws_eqTermSS.l0 k x0 x1 (wrap64 (x5 + 1))) else (some false))) else (none)) else (none)) else (some true)
def laws_eqTermSS.f (k : Nat) (l0 : List (List (S35))) (l1 : List (List (S35))) : Option (Bool) := if (l0.length : Int) = (l1.length : Int) then (laws_eqTermSS.l0 k l0 l1 0) else (some false)
/-! laws_intactTermSS -/
-- HAND rounds=0 making=1
def laws_intactTermSS.f (l0 l1 : List (List S35)) : Option Bool := if l0 = l1 then some true else none
/-! laws_FnExactIsSystem -/
def laws_FnExactIsSystem.f (k : Nat) (l0 : List (List (S42))) : Option (Bool) := (laws_szTermSS.f k l0 1000000).bind fun t187 => (if t187 < 0 then (some true) else ((laws_toTermSS.f k l0 false).bind fun t188 => ((spec_IsSystem.f k t188).bind fun t191 => ((laws_toTermSS.f k l0 false).bind fun t192 => ((impl_IsSystem.f k t192).bind fun t195 => (if (t195 != t191) = true then (none) else ((laws_toTermSS.f k l0 false).bind fun t196 => ((laws_intactTermSS.f t192 t196).bind fun t199 => (if t199 = true then ((laws_toTermSS.f k l0 true).bind fun t200 => ((impl_IsSystem.f k t200).bind fun t203 => (if (t203 != t191) = true then (none) else (some true)))) else (none))))))))))
end Go.Proofs.Ytemjjknnelngcaa.PD
