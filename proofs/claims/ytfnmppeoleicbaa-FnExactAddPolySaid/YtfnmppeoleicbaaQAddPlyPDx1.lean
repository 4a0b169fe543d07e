-- By wip/mk/drv.py
import Derived.Test.YtfnmppeoleicbaaQAddPlyPDx0
namespace Go.Proofs.Ytfnmppeoleicbaa.PD
open Go.RowKit Go.Proofs.YtfnmppeoleicbaaW.PrintWords Go.Proofs.YtfnmppeoleicbaaW.PrintLast Go.Proofs.YtfnmppeoleicbaaW.PrintMore
attribute [local go_sem] max2_int min2_int max_two min_two max_three min_three max_four min_four
set_option linter.unusedVariables false
set_option linter.unusedSimpArgs false
/-! laws_szTermS -/
def laws_szTermS.f (l0 : List (S57)) (a1 : Int) : Option (Int) := if (wrap64 (a1 - (l0.length : Int))) < 0 then (some (-1)) else (some (wrap64 (a1 - (l0.length : Int))))
/-! laws_roomBehind -/
def laws_roomBehind.f (a0 : Int) : Option (Int) := if (Int.tmod a0 6) = 5 then (some 0) else (if (Int.tmod a0 3) = 0 then (some 1) else (some a0))
/-! laws_toTerm -/
def laws_toTerm.f (a0_0 : Int) (a0_1 : Int) (a0_2 : Int) (a0_3 : Int) : Option (Int × Int × Int × Int) := some (a0_0, a0_1, a0_2, a0_3)
/-! laws_fillerTerm -/
def laws_fillerTerm.f  : Option (Int × Int × Int × Int) := some ((-7000000000000000101), (-7000000000000000101), (-7000000000000000101), (-7000000000000000101))
/-! laws_toTermS -/
mutual
def laws_toTermS.j0 : Nat → List (S57) → Bool → Option ((List (S55)))
  | 0, _, _ => none
  | k + 1, x0, x13 => if x13 = true then (some ([] : List (S55))) else ((laws_roomBehind.f (x0.length : Int)).bind fun t105 => (if 0 ≤ (wrap64 ((x0.length : Int) + t105)) then (if (wrap64 ((x0.length : Int) + t105) : Int).toNat ≤ 8796093022208 then (laws_toTermS.l0 k x0 (List.replicate (wrap64 ((x0.length : Int) + t105) : Int).toNat z55) 0) else (none)) else (none)))
def laws_toTermS.l0 : Nat → List (S57) → List (S55) → Int → Option ((List (S55)))
  | 0, _, _, _ => none
  | k + 1, x0, x5, x6 => if x6 < (x0.length : Int) then (if 0 ≤ x6 then ((laws_toTerm.f ((rd_T57 x0 x6).f0) ((rd_T57 x0 x6).f1) ((rd_T57 x0 x6).f2) ((rd_T57 x0 x6).f3)).bind fun bt110 => (if x6 < (x5.length : Int) then (laws_toTermS.l0 k x0 (x5.set (x6 : Int).toNat (⟨bt110.1, bt110.2.1, bt110.2.2.1, bt110.2.2.2⟩ : S55)) (wrap64 (x6 + 1))) else (none))) else (none)) else (laws_toTermS.l1 k x0 x5 (x0.length : Int))
def laws_toTermS.l1 : Nat → List (S57) → List (S55) → Int → Option ((List (S55)))
  | 0, _, _, _ => none
  | k + 1, x0, x5, x7 => if x7 < (x5.length : Int) then ((laws_fillerTerm.f).bind fun bt115 => (if 0 ≤ x7 then (laws_toTermS.l1 k x0 (x5.set (x7 : Int).toNat (⟨bt115.1, bt115.2.1, bt115.2.2.1, bt115.2.2.2⟩ : S55)) (wrap64 (x7 + 1))) else (none))) else (if 0 ≤ (x0.length : Int) then (if (x0.length : Int) ≤ (x5.length : Int) then (some (x5.take ((x0.length : Int) : Int).toNat)) else (none)) else (none))
end
def laws_toTermS.f (k : Nat) (l0 : List (S57)) (a1 : Bool) : Option ((List (S55))) := if a1 = true then (laws_toTermS.j0 k l0 ((l0.length : Int) == 0)) else (laws_toTermS.j0 k l0 false)
/-! laws_eqTerm -/
def laws_eqTerm.f (a0_0 : Int) (a0_1 : Int) (a0_2 : Int) (a0_3 : Int) (a1_0 : Int) (a1_1 : Int) (a1_2 : Int) (a1_3 : Int) : Option (Bool) := if a0_0 = a1_0 then (if a0_1 = a1_1 then (if a0_2 = a1_2 then (if a0_3 = a1_3 then (some true) else (some false)) else (some false)) else (some false)) else (some false)
/-! laws_eqTermS -/
def laws_eqTermS.l0 : Nat → List (S55) → List (S55) → Int → Option (Bool)
  | 0, _, _, _ => none
  | k + 1, x0, x1, x5 => if x5 < (x0.length : Int) then (if 0 ≤ x5 then (if x5 < (x1.length : Int) then ((laws_eqTerm.f ((rd_T55 x0 x5).f0) ((rd_T55 x0 x5).f1) ((rd_T55 x0 x5).f2) ((rd_T55 x0 x5).f3) ((rd_T55 x1 x5).f0) ((rd_T55 x1 x5).f1) ((rd_T55 x1 x5).f2) ((rd_T55 x1 x5).f3)).bind fun t127 => (if t127 = true then (laws_eqTermS.l0 k x0 x1 (wrap64 (x5 + 1))) else (some false))) else (none)) else (none)) else (some true)
def laws_eqTermS.f (k : Nat) (l0 : List (S55)) (l1 : List (S55)) : Option (Bool) := if (l0.length : Int) = (l1.length : Int) then (laws_eqTermS.l0 k l0 l1 0) else (some false)
/-! laws_intactTermS -/
-- HAND rounds=0 making=1
/-- Whether two lists are one, their spare cells as toTermS lays them. -/
def laws_intactTermS.f (l0 : List S55) (l1 : List S55) : Option (Bool) := if l0 = l1 then some true else none
/-! laws_markTermS -/
def laws_markTermS.l0 : Nat → List (S55) → Int → Int → Option (Int × (List (S55)))
  | 0, _, _, _ => none
  | k + 1, x0, x1, x5 => if x5 < (x0.length : Int) then (if 0 ≤ x5 then ((some (x0.set (x5 : Int).toNat (⟨x1, (rd_T55 x0 x5).f1, (rd_T55 x0 x5).f2, (rd_T55 x0 x5).f3⟩ : S55) : List (S55))).bind fun y128 => ((some (y128.set (x5 : Int).toNat (⟨(rd_T55 y128 x5).f0, wrap64 (x1 + 1), (rd_T55 y128 x5).f2, (rd_T55 y128 x5).f3⟩ : S55) : List (S55))).bind fun y129 => ((some (y129.set (x5 : Int).toNat (⟨(rd_T55 y129 x5).f0, (rd_T55 y129 x5).f1, wrap64 ((wrap64 (x1 + 1)) + 1), (rd_T55 y129 x5).f3⟩ : S55) : List (S55))).bind fun y130 => (laws_markTermS.l0 k (y130.set (x5 : Int).toNat (⟨(rd_T55 y130 x5).f0, (rd_T55 y130 x5).f1, (rd_T55 y130 x5).f2, wrap64 ((wrap64 ((wrap64 (x1 + 1)) + 1)) + 1)⟩ : S55)) (wrap64 ((wrap64 ((wrap64 ((wrap64 (x1 + 1)) + 1)) + 1)) + 1)) (wrap64 (x5 + 1)))))) else (none)) else (some (x1, x0))
def laws_markTermS.f (k : Nat) (l0 : List (S55)) (a1 : Int) : Option (Int × (List (S55))) := laws_markTermS.l0 k l0 a1 0
/-! laws_heldTermS -/
def laws_heldTermS.l0 : Nat → List (S55) → Int → Int → Option (Int)
  | 0, _, _, _ => none
  | k + 1, x0, x1, x5 => if x5 < (x0.length : Int) then (if 0 ≤ x5 then (if ((rd_T55 x0 x5).f0) = x1 then (if ((rd_T55 x0 x5).f1) = (wrap64 (x1 + 1)) then (if ((rd_T55 x0 x5).f2) = (wrap64 ((wrap64 (x1 + 1)) + 1)) then (if ((rd_T55 x0 x5).f3) = (wrap64 ((wrap64 ((wrap64 (x1 + 1)) + 1)) + 1)) then (laws_heldTermS.l0 k x0 (wrap64 ((wrap64 ((wrap64 ((wrap64 (x1 + 1)) + 1)) + 1)) + 1)) (wrap64 (x5 + 1))) else (some (-1))) else (some (-1))) else (some (-1))) else (some (-1))) else (none)) else (some x1)
def laws_heldTermS.f (k : Nat) (l0 : List (S55)) (a1 : Int) : Option (Int) := laws_heldTermS.l0 k l0 a1 0
/-! spec_l1In -/
def spec_l1In.f (a0 : Int) (a1 : Int) (a2 : Int) : Option (Bool) := if a0 ≥ a1 then (some (decide (a0 ≤ a2))) else (some false)
/-! spec_poTerm -/
def spec_poTerm.f (a0_0 : Int) (a0_1 : Int) (a0_2 : Int) (a0_3 : Int) : Option (Bool) := (spec_l1In.f a0_0 (-1000) 1000).bind fun t137 => (if t137 = true then ((spec_l1In.f a0_1 0 4).bind fun t138 => (if t138 = true then ((spec_l1In.f a0_2 0 4).bind fun t139 => (if t139 = true then ((spec_l1In.f a0_3 0 4).bind fun t140 => (if t140 = true then (some (decide ((wrap64 ((wrap64 (a0_1 + a0_2)) + a0_3)) ≤ 4))) else (some false))) else (some false))) else (some false))) else (some false))
/-! spec_l1Sign -/
def spec_l1Sign.f (a0 : Int) : Option (Int) := if a0 > 0 then (some 1) else (if a0 < 0 then (some (-1)) else (some 0))
/-! spec_poOrder -/
def spec_poOrder.f (a0_0 : Int) (a0_1 : Int) (a0_2 : Int) (a0_3 : Int) (a1_0 : Int) (a1_1 : Int) (a1_2 : Int) (a1_3 : Int) : Option (Int) := if a0_1 = a1_1 then (if a0_2 = a1_2 then ((spec_l1Sign.f (wrap64 (a0_3 - a1_3))).bind fun t143 => (some t143)) else ((spec_l1Sign.f (wrap64 (a0_2 - a1_2))).bind fun t144 => (some t144))) else ((spec_l1Sign.f (wrap64 (a0_1 - a1_1))).bind fun t145 => (some t145))
/-! spec_poGood -/
def spec_poGood.l0 : Nat → List (S55) → List (S55) → Int → Int → Option (Bool)
  | 0, _, _, _, _ => none
  | k + 1, x0, x5, x6, x7 => if x7 < x6 then (if 0 ≤ x7 then (if x7 < (x5.length : Int) then ((spec_poTerm.f ((rd_T55 x5 x7).f0) ((rd_T55 x5 x7).f1) ((rd_T55 x5 x7).f2) ((rd_T55 x5 x7).f3)).bind fun t148 => (if t148 = true then (if ((rd_T55 x5 x7).f0) = 0 then (some false) else (if x7 > 0 then (if 0 ≤ (wrap64 (x7 - 1)) then (if (wrap64 (x7 - 1)) < (x0.length : Int) then ((spec_poOrder.f ((rd_T55 x0 (wrap64 (x7 - 1))).f0) ((rd_T55 x0 (wrap64 (x7 - 1))).f1) ((rd_T55 x0 (wrap64 (x7 - 1))).f2) ((rd_T55 x0 (wrap64 (x7 - 1))).f3) ((rd_T55 x5 x7).f0) ((rd_T55 x5 x7).f1) ((rd_T55 x5 x7).f2) ((rd_T55 x5 x7).f3)).bind fun t150 => (if t150 ≥ 0 then (some false) else (spec_poGood.l0 k x0 x5 x6 (wrap64 (x7 + 1))))) else (none)) else (none)) else (spec_poGood.l0 k x0 x5 x6 (wrap64 (x7 + 1))))) else (some false))) else (none)) else (none)) else (some (decide ((x0.length : Int) ≤ 20)))
def spec_poGood.f (k : Nat) (l0 : List (S55)) : Option (Bool) := spec_poGood.l0 k l0 l0 (l0.length : Int) 0
/-! spec_poPut -/
mutual
def spec_poPut.j1 : Nat → List (S55) → Int → Int → Int → Int → Int → Option ((List (S55)))
  | 0, _, _, _, _, _, _ => none
  | k + 1, x0, x5, x152000, x152001, x152002, x152003 => if 0 ≤ x5 then (if x5 ≤ (x0.length : Int) then ((some (x0.drop (x5 : Int).toNat : List (S55))).bind fun y154 => (if x5 < (x0.length : Int) then ((spec_poOrder.f ((rd_T55 x0 x5).f0) ((rd_T55 x0 x5).f1) ((rd_T55 x0 x5).f2) ((rd_T55 x0 x5).f3) x152000 x152001 x152002 x152003).bind fun t159 => (spec_poPut.j2 k x0 x5 y154 (t159 == 0) x152000 x152001 x152002 x152003)) else (spec_poPut.j2 k x0 x5 y154 false x152000 x152001 x152002 x152003))) else (none)) else (none)
def spec_poPut.j2 : Nat → List (S55) → Int → List (S55) → Bool → Int → Int → Int → Int → Option ((List (S55)))
  | 0, _, _, _, _, _, _, _, _ => none
  | k + 1, x0, x5, x6, x38, x152000, x152001, x152002, x152003 => if x38 = true then (if 0 ≤ x5 then (if x5 < (x0.length : Int) then (if 0 ≤ (wrap64 (x5 + 1)) then (if (wrap64 (x5 + 1)) ≤ (x0.length : Int) then ((some (x0.drop ((wrap64 (x5 + 1)) : Int).toNat : List (S55))).bind fun y161 => ((some (([] : List (S55)) : List (S55))).bind fun y165 => (if x5 ≤ (x0.length : Int) then ((some (x0.take (x5 : Int).toNat : List (S55))).bind fun y168 => (if y165.length + y168.length < 4398046511104 then ((some (y165 ++ y168 : List (S55))).bind fun y172 => (if (wrap64 (x152000 + ((rd_T55 x0 x5).f0))) = 0 then (if y172.length + y161.length < 4398046511104 then (some (y172 ++ y161)) else (none)) else (if y172.length < 4398046511104 then ((some (y172 ++ [(⟨wrap64 (x152000 + ((rd_T55 x0 x5).f0)), x152001, x152002, x152003⟩ : S55)] : List (S55))).bind fun y178 => (if y178.length + y161.length < 4398046511104 then (some (y178 ++ y161)) else (none))) else (none)))) else (none))) else (none)))) else (none)) else (none)) else (none)) else (none)) else ((some (([] : List (S55)) : List (S55))).bind fun y184 => (if 0 ≤ x5 then (if x5 ≤ (x0.length : Int) then ((some (x0.take (x5 : Int).toNat : List (S55))).bind fun y187 => (if y184.length + y187.length < 4398046511104 then ((some (y184 ++ y187 : List (S55))).bind fun y191 => (if x152000 = 0 then (if y191.length + x6.length < 4398046511104 then (some (y191 ++ x6)) else (none)) else (if y191.length < 4398046511104 then ((some (y191 ++ [(⟨x152000, x152001, x152002, x152003⟩ : S55)] : List (S55))).bind fun y197 => (if y197.length + x6.length < 4398046511104 then (some (y197 ++ x6)) else (none))) else (none)))) else (none))) else (none)) else (none)))
def spec_poPut.l0 : Nat → List (S55) → Int → Int → Int → Int → Int → Option ((List (S55)))
  | 0, _, _, _, _, _, _ => none
  | k + 1, x0, x5, x152000, x152001, x152002, x152003 => if x5 < (x0.length : Int) then (if 0 ≤ x5 then ((spec_poOrder.f ((rd_T55 x0 x5).f0) ((rd_T55 x0 x5).f1) ((rd_T55 x0 x5).f2) ((rd_T55 x0 x5).f3) x152000 x152001 x152002 x152003).bind fun t153 => (if t153 < 0 then (spec_poPut.l0 k x0 (wrap64 (x5 + 1)) x152000 x152001 x152002 x152003) else (spec_poPut.j1 k x0 x5 x152000 x152001 x152002 x152003))) else (none)) else (spec_poPut.j1 k x0 x5 x152000 x152001 x152002 x152003)
end
def spec_poPut.f (k : Nat) (l0 : List (S55)) (a1_0 : Int) (a1_1 : Int) (a1_2 : Int) (a1_3 : Int) : Option ((List (S55))) := spec_poPut.l0 k l0 0 a1_0 a1_1 a1_2 a1_3
/-! spec_poSum -/
def spec_poSum.l0 : Nat → List (S55) → List (S55) → Int → Int → Option ((List (S55)) × Bool)
  | 0, _, _, _, _ => none
  | k + 1, x4, x7, x8, x9 => if x9 < x8 then (if 0 ≤ x9 then (if x9 < (x7.length : Int) then ((spec_poPut.f k x4 ((rd_T55 x7 x9).f0) ((rd_T55 x7 x9).f1) ((rd_T55 x7 x9).f2) ((rd_T55 x7 x9).f3)).bind fun t205 => (spec_poSum.l0 k t205 x7 x8 (wrap64 (x9 + 1)))) else (none)) else (none)) else ((spec_poGood.f k x4).bind fun t208 => (if t208 = true then (some (x4, true)) else (some (([] : List (S55)), false))))
def spec_poSum.f (k : Nat) (l0 : List (S55)) : Option ((List (S55)) × Bool) := spec_poSum.l0 k ([] : List (S55)) l0 (l0.length : Int) 0
/-! spec_poAdd -/
def spec_poAdd.f (k : Nat) (l0 : List (S55)) (l1 : List (S55)) : Option ((List (S55)) × Bool) := (some (([] : List (S55)) : List (S55))).bind fun y209 => (if y209.length + l0.length < 4398046511104 then ((some (y209 ++ l0 : List (S55))).bind fun y212 => (if y212.length + l1.length < 4398046511104 then ((spec_poSum.f k (y212 ++ l1)).bind fun bt218 => (some (bt218.1, bt218.2))) else (none))) else (none))
/-! spec_AddPoly -/
def spec_AddPoly.f (k : Nat) (l0 : List (S55)) (l1 : List (S55)) : Option ((List (S55)) × Bool) := (spec_poGood.f k l0).bind fun t222 => (if t222 = true then ((spec_poGood.f k l1).bind fun t223 => (if t223 = true then ((spec_poAdd.f k l0 l1).bind fun bt224 => (some (bt224.1, bt224.2))) else (some (([] : List (S55)), false)))) else (some (([] : List (S55)), false)))
/-! impl_inside -/
def impl_inside.f (a0 : Int) (a1 : Int) (a2 : Int) : Option (Bool) := if a0 ≥ a1 then (some (decide (a0 ≤ a2))) else (some false)
/-! impl_Term_degree -/
def impl_Term_degree.f (a0_0 : Int) (a0_1 : Int) (a0_2 : Int) (a0_3 : Int) : Option (Int) := some (wrap64 ((wrap64 (a0_1 + a0_2)) + a0_3))
/-! impl_hasDegree -/
def impl_hasDegree.f (a0_0 : Int) (a0_1 : Int) (a0_2 : Int) (a0_3 : Int) : Option (Bool) := (impl_inside.f a0_1 0 4).bind fun t230 => (if t230 = true then ((impl_inside.f a0_2 0 4).bind fun t231 => (if t231 = true then ((impl_inside.f a0_3 0 4).bind fun t232 => (if t232 = true then ((impl_Term_degree.f a0_0 a0_1 a0_2 a0_3).bind fun t233 => (some (decide (t233 ≤ 4)))) else (some false))) else (some false))) else (some false))
/-! cmp_Or_int -/
def cmp_Or_int.l0 : Nat → Int → List Int → Int → Int → Option (Int)
  | 0, _, _, _, _ => none
  | k + 1, x3, x6, x7, x8 => if x8 < x7 then (if 0 ≤ x8 then (if x8 < (x6.length : Int) then (if (rd x6 x8) = x3 then (cmp_Or_int.l0 k x3 x6 x7 (wrap64 (x8 + 1))) else (some (rd x6 x8))) else (none)) else (none)) else (some x3)
def cmp_Or_int.f (k : Nat) (l0 : List Int) : Option (Int) := cmp_Or_int.l0 k 0 l0 (l0.length : Int) 0
/-! cmp_isNaN_int -/
def cmp_isNaN_int.f (a0 : Int) : Option (Bool) := some (a0 != a0)
/-! cmp_Compare_int -/
def cmp_Compare_int.f (a0 : Int) (a1 : Int) : Option (Int) := (cmp_isNaN_int.f a0).bind fun t235 => ((cmp_isNaN_int.f a1).bind fun t236 => (if t235 = true then (if t236 = true then (some 0) else (some (-1))) else (if t236 = true then (some 1) else (if a0 < a1 then (some (-1)) else (if a0 > a1 then (some 1) else (some 0))))))
/-! impl_compareTerms -/
def impl_compareTerms.f (k : Nat) (a0_0 : Int) (a0_1 : Int) (a0_2 : Int) (a0_3 : Int) (a1_0 : Int) (a1_1 : Int) (a1_2 : Int) (a1_3 : Int) : Option (Int) := (cmp_Compare_int.f a0_1 a1_1).bind fun t239 => ((cmp_Compare_int.f a0_2 a1_2).bind fun t240 => ((cmp_Compare_int.f a0_3 a1_3).bind fun t241 => ((cmp_Or_int.f k (([t239, t240, t241] : List Int))).bind fun t245 => (some t245))))
/-! impl_isPoly -/
def impl_isPoly.l0 : Nat → List (S55) → List (S55) → Int → Int → Option (Bool)
  | 0, _, _, _, _ => none
  | k + 1, x0, x5, x6, x7 => if x7 < x6 then (if 0 ≤ x7 then (if x7 < (x5.length : Int) then (if ((rd_T55 x5 x7).f0) = 0 then (some false) else ((impl_inside.f ((rd_T55 x5 x7).f0) (-1000) 1000).bind fun t248 => (if t248 = true then ((impl_hasDegree.f ((rd_T55 x5 x7).f0) ((rd_T55 x5 x7).f1) ((rd_T55 x5 x7).f2) ((rd_T55 x5 x7).f3)).bind fun t249 => (if t249 = true then (if x7 > 0 then (if 0 ≤ (wrap64 (x7 - 1)) then (if (wrap64 (x7 - 1)) < (x0.length : Int) then ((impl_compareTerms.f k ((rd_T55 x0 (wrap64 (x7 - 1))).f0) ((rd_T55 x0 (wrap64 (x7 - 1))).f1) ((rd_T55 x0 (wrap64 (x7 - 1))).f2) ((rd_T55 x0 (wrap64 (x7 - 1))).f3) ((rd_T55 x5 x7).f0) ((rd_T55 x5 x7).f1) ((rd_T55 x5 x7).f2) ((rd_T55 x5 x7).f3)).bind fun t251 => (if t251 ≥ 0 then (some false) else (impl_isPoly.l0 k x0 x5 x6 (wrap64 (x7 + 1))))) else (none)) else (none)) else (impl_isPoly.l0 k x0 x5 x6 (wrap64 (x7 + 1)))) else (some false))) else (some false)))) else (none)) else (none)) else (some (decide ((x0.length : Int) ≤ 20)))
def impl_isPoly.f (k : Nat) (l0 : List (S55)) : Option (Bool) := impl_isPoly.l0 k l0 l0 (l0.length : Int) 0
/-! impl_polyResult -/
def impl_polyResult.f (k : Nat) (l0 : List (S55)) : Option ((List (S55)) × Bool) := (impl_isPoly.f k l0).bind fun t252 => (if t252 = true then (some (l0, true)) else (some (([] : List (S55)), false)))
/-! impl_collect -/
-- HAND rounds=0 making=1
/-- A term, as the plain text on sums takes it. -/
def impl_collect.ops : Go.Proofs.YtfnmppeoleicbaaCol.Ops S55 := { c := fun s => s.f0, x := fun s => s.f1, y := fun s => s.f2, z := fun s => s.f3, st := fun s n => ⟨n, s.f1, s.f2, s.f3⟩, c_st := fun _ _ => rfl, x_st := fun _ _ => rfl, y_st := fun _ _ => rfl, z_st := fun _ _ => rfl, ext := fun s t h1 h2 h3 h4 => by cases s; cases t; simp_all }
def impl_collect.ok (l : List S55) : Bool := decide (l.length ≤ 1000000) && l.all (fun t => decide (wrap64 t.f0 = t.f0))
def impl_collect.f (l0 : List (S55)) : Option (List (S55)) := if impl_collect.ok l0 = true then some (Go.Proofs.YtfnmppeoleicbaaCol.sums impl_collect.ops l0) else none
/-! impl_AddPoly -/
-- HAND rounds=1 making=1
def impl_AddPoly.cat (l0 l1 : List S55) : Option (List S55) := if l0.length + l1.length < 4398046511104 then some (l0 ++ l1) else none
def impl_AddPoly.j0 : Nat → List (S55) → List (S55) → Bool → Option ((List (S55)) × Bool)
  | 0, _, _, _ => none
  | k + 1, x0, x1, x13 => if x13 = true then (some (([] : List (S55)), false)) else ((impl_AddPoly.cat x0 x1).bind fun t316 => ((impl_collect.f t316).bind fun tc => ((impl_polyResult.f k tc).bind fun bt319 => (some (bt319.1, bt319.2)))))
def impl_AddPoly.f (k : Nat) (l0 : List (S55)) (l1 : List (S55)) : Option ((List (S55)) × Bool) := (impl_isPoly.f k l0).bind fun t314 => (if t314 = true then ((impl_isPoly.f k l1).bind fun t315 => (impl_AddPoly.j0 k l0 l1 (!t315))) else (impl_AddPoly.j0 k l0 l1 true))
/-! laws_FnExactAddPoly -/
def laws_FnExactAddPoly.f (k : Nat) (l0 : List (S57)) (l1 : List (S57)) : Option (Bool) := (laws_szTermS.f l0 1000000).bind fun t254 => (if t254 < 0 then (some true) else ((laws_szTermS.f l1 t254).bind fun t255 => (if t255 < 0 then (some true) else ((laws_toTermS.f k l0 false).bind fun t256 => ((laws_toTermS.f k l1 false).bind fun t259 => ((spec_AddPoly.f k t256 t259).bind fun bt262 => ((laws_toTermS.f k l0 false).bind fun t266 => ((laws_toTermS.f k l1 false).bind fun t269 => ((impl_AddPoly.f k t266 t269).bind fun bt272 => ((laws_eqTermS.f k bt272.1 bt262.1).bind fun t276 => (if t276 = true then (if (bt272.2 != bt262.2) = true then (none) else ((laws_toTermS.f k l0 false).bind fun t277 => ((laws_intactTermS.f t266 t277).bind fun t280 => (if t280 = true then ((laws_toTermS.f k l1 false).bind fun t281 => ((laws_intactTermS.f t269 t281).bind fun t284 => (if t284 = true then ((laws_markTermS.f k t266 101).bind fun bt285 => ((laws_markTermS.f k t269 bt285.1).bind fun bt287 => (if bt287.1 < 0 then (none) else ((laws_eqTermS.f k bt272.1 bt262.1).bind fun t289 => (if t289 = true then ((laws_markTermS.f k bt272.1 101).bind fun bt290 => ((laws_heldTermS.f k bt290.2 101).bind fun t292 => (if t292 < 0 then (none) else (if t292 = bt290.1 then ((laws_toTermS.f k l0 true).bind fun t293 => ((laws_toTermS.f k l1 true).bind fun t296 => ((impl_AddPoly.f k t293 t296).bind fun bt299 => ((laws_eqTermS.f k bt299.1 bt262.1).bind fun t303 => (if t303 = true then (if (bt299.2 != bt262.2) = true then (none) else ((laws_heldTermS.f k bt290.2 101).bind fun t304 => (if t304 < 0 then (none) else (if t304 = bt290.1 then (some true) else (none))))) else (none)))))) else (none))))) else (none)))))) else (none)))) else (none))))) else (none))))))))))))
end Go.Proofs.Ytfnmppeoleicbaa.PD
