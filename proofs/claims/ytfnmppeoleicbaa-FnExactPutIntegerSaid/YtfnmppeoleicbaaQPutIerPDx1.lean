-- By wip/mk/drv.py
import Derived.Test.YtfnmppeoleicbaaQPutIerPDx0
namespace Go.Proofs.Ytfnmppeoleicbaa.PD
open Go.RowKit Go.Proofs.YtfnmppeoleicbaaW.PrintWords Go.Proofs.YtfnmppeoleicbaaW.PrintLast Go.Proofs.YtfnmppeoleicbaaW.PrintMore
attribute [local go_sem] max2_int min2_int max_two min_two max_three min_three max_four min_four
set_option linter.unusedVariables false
set_option linter.unusedSimpArgs false
/-! laws_szTermS -/
def laws_szTermS.f (l0 : List (S57)) (a1 : Int) : Option (Int) := if (wrap64 (a1 - (l0.length : Int))) < 0 then (some (-1)) else (some (wrap64 (a1 - (l0.length : Int))))
/-! laws_roomBehind -/
def laws_roomBehind.f (a0 : Int) : Option (Int) := if (Int.tmod a0 6) = 5 then (some 0) else (if (Int.tmod a0 3) = 0 then (some 1) else (some a0))
/-! laws_toTerm -/
def laws_toTerm.f (a0_0 : Int) (a0_1 : Int) (a0_2 : Int) (a0_3 : Int) : Option (Int × Int × Int × Int) := some (a0_0, a0_1, a0_2, a0_3)
/-! laws_fillerTerm -/
def laws_fillerTerm.f  : Option (Int × Int × Int × Int) := some ((-7000000000000000101), (-7000000000000000101), (-7000000000000000101), (-7000000000000000101))
/-! laws_toTermS -/
mutual
def laws_toTermS.j0 : Nat → List (S57) → Bool → Option ((List (S55)))
  | 0, _, _ => none
  | k + 1, x0, x13 => if x13 = true then (some ([] : List (S55))) else ((laws_roomBehind.f (x0.length : Int)).bind fun t105 => (if 0 ≤ (wrap64 ((x0.length : Int) + t105)) then (if (wrap64 ((x0.length : Int) + t105) : Int).toNat ≤ 8796093022208 then (laws_toTermS.l0 k x0 (List.replicate (wrap64 ((x0.length : Int) + t105) : Int).toNat z55) 0) else (none)) else (none)))
def laws_toTermS.l0 : Nat → List (S57) → List (S55) → Int → Option ((List (S55)))
  | 0, _, _, _ => none
  | k + 1, x0, x5, x6 => if x6 < (x0.length : Int) then (if 0 ≤ x6 then ((laws_toTerm.f ((rd_T57 x0 x6).f0) ((rd_T57 x0 x6).f1) ((rd_T57 x0 x6).f2) ((rd_T57 x0 x6).f3)).bind fun bt110 => (if x6 < (x5.length : Int) then (laws_toTermS.l0 k x0 (x5.set (x6 : Int).toNat (⟨bt110.1, bt110.2.1, bt110.2.2.1, bt110.2.2.2⟩ : S55)) (wrap64 (x6 + 1))) else (none))) else (none)) else (laws_toTermS.l1 k x0 x5 (x0.length : Int))
def laws_toTermS.l1 : Nat → List (S57) → List (S55) → Int → Option ((List (S55)))
  | 0, _, _, _ => none
  | k + 1, x0, x5, x7 => if x7 < (x5.length : Int) then ((laws_fillerTerm.f).bind fun bt115 => (if 0 ≤ x7 then (laws_toTermS.l1 k x0 (x5.set (x7 : Int).toNat (⟨bt115.1, bt115.2.1, bt115.2.2.1, bt115.2.2.2⟩ : S55)) (wrap64 (x7 + 1))) else (none))) else (if 0 ≤ (x0.length : Int) then (if (x0.length : Int) ≤ (x5.length : Int) then (some (x5.take ((x0.length : Int) : Int).toNat)) else (none)) else (none))
end
def laws_toTermS.f (k : Nat) (l0 : List (S57)) (a1 : Bool) : Option ((List (S55))) := if a1 = true then (laws_toTermS.j0 k l0 ((l0.length : Int) == 0)) else (laws_toTermS.j0 k l0 false)
/-! laws_eqTerm -/
def laws_eqTerm.f (a0_0 : Int) (a0_1 : Int) (a0_2 : Int) (a0_3 : Int) (a1_0 : Int) (a1_1 : Int) (a1_2 : Int) (a1_3 : Int) : Option (Bool) := if a0_0 = a1_0 then (if a0_1 = a1_1 then (if a0_2 = a1_2 then (if a0_3 = a1_3 then (some true) else (some false)) else (some false)) else (some false)) else (some false)
/-! laws_eqTermS -/
def laws_eqTermS.l0 : Nat → List (S55) → List (S55) → Int → Option (Bool)
  | 0, _, _, _ => none
  | k + 1, x0, x1, x5 => if x5 < (x0.length : Int) then (if 0 ≤ x5 then (if x5 < (x1.length : Int) then ((laws_eqTerm.f ((rd_T55 x0 x5).f0) ((rd_T55 x0 x5).f1) ((rd_T55 x0 x5).f2) ((rd_T55 x0 x5).f3) ((rd_T55 x1 x5).f0) ((rd_T55 x1 x5).f1) ((rd_T55 x1 x5).f2) ((rd_T55 x1 x5).f3)).bind fun t127 => (if t127 = true then (laws_eqTermS.l0 k x0 x1 (wrap64 (x5 + 1))) else (some false))) else (none)) else (none)) else (some true)
def laws_eqTermS.f (k : Nat) (l0 : List (S55)) (l1 : List (S55)) : Option (Bool) := if (l0.length : Int) = (l1.length : Int) then (laws_eqTermS.l0 k l0 l1 0) else (some false)
/-! laws_intactTermS -/
-- HAND rounds=0 making=1
/-- Whether two lists are one, their spare cells as toTermS lays them. -/
def laws_intactTermS.f (l0 : List S55) (l1 : List S55) : Option (Bool) := if l0 = l1 then some true else none
/-! laws_markTermS -/
def laws_markTermS.l0 : Nat → List (S55) → Int → Int → Option (Int × (List (S55)))
  | 0, _, _, _ => none
  | k + 1, x0, x1, x5 => if x5 < (x0.length : Int) then (if 0 ≤ x5 then ((some (x0.set (x5 : Int).toNat (⟨x1, (rd_T55 x0 x5).f1, (rd_T55 x0 x5).f2, (rd_T55 x0 x5).f3⟩ : S55) : List (S55))).bind fun y128 => ((some (y128.set (x5 : Int).toNat (⟨(rd_T55 y128 x5).f0, wrap64 (x1 + 1), (rd_T55 y128 x5).f2, (rd_T55 y128 x5).f3⟩ : S55) : List (S55))).bind fun y129 => ((some (y129.set (x5 : Int).toNat (⟨(rd_T55 y129 x5).f0, (rd_T55 y129 x5).f1, wrap64 ((wrap64 (x1 + 1)) + 1), (rd_T55 y129 x5).f3⟩ : S55) : List (S55))).bind fun y130 => (laws_markTermS.l0 k (y130.set (x5 : Int).toNat (⟨(rd_T55 y130 x5).f0, (rd_T55 y130 x5).f1, (rd_T55 y130 x5).f2, wrap64 ((wrap64 ((wrap64 (x1 + 1)) + 1)) + 1)⟩ : S55)) (wrap64 ((wrap64 ((wrap64 ((wrap64 (x1 + 1)) + 1)) + 1)) + 1)) (wrap64 (x5 + 1)))))) else (none)) else (some (x1, x0))
def laws_markTermS.f (k : Nat) (l0 : List (S55)) (a1 : Int) : Option (Int × (List (S55))) := laws_markTermS.l0 k l0 a1 0
/-! laws_heldTermS -/
def laws_heldTermS.l0 : Nat → List (S55) → Int → Int → Option (Int)
  | 0, _, _, _ => none
  | k + 1, x0, x1, x5 => if x5 < (x0.length : Int) then (if 0 ≤ x5 then (if ((rd_T55 x0 x5).f0) = x1 then (if ((rd_T55 x0 x5).f1) = (wrap64 (x1 + 1)) then (if ((rd_T55 x0 x5).f2) = (wrap64 ((wrap64 (x1 + 1)) + 1)) then (if ((rd_T55 x0 x5).f3) = (wrap64 ((wrap64 ((wrap64 (x1 + 1)) + 1)) + 1)) then (laws_heldTermS.l0 k x0 (wrap64 ((wrap64 ((wrap64 ((wrap64 (x1 + 1)) + 1)) + 1)) + 1)) (wrap64 (x5 + 1))) else (some (-1))) else (some (-1))) else (some (-1))) else (some (-1))) else (none)) else (some x1)
def laws_heldTermS.f (k : Nat) (l0 : List (S55)) (a1 : Int) : Option (Int) := laws_heldTermS.l0 k l0 a1 0
/-! spec_l1In -/
def spec_l1In.f (a0 : Int) (a1 : Int) (a2 : Int) : Option (Bool) := if a0 ≥ a1 then (some (decide (a0 ≤ a2))) else (some false)
/-! spec_poTerm -/
def spec_poTerm.f (a0_0 : Int) (a0_1 : Int) (a0_2 : Int) (a0_3 : Int) : Option (Bool) := (spec_l1In.f a0_0 (-1000) 1000).bind fun t137 => (if t137 = true then ((spec_l1In.f a0_1 0 4).bind fun t138 => (if t138 = true then ((spec_l1In.f a0_2 0 4).bind fun t139 => (if t139 = true then ((spec_l1In.f a0_3 0 4).bind fun t140 => (if t140 = true then (some (decide ((wrap64 ((wrap64 (a0_1 + a0_2)) + a0_3)) ≤ 4))) else (some false))) else (some false))) else (some false))) else (some false))
/-! spec_l1Sign -/
def spec_l1Sign.f (a0 : Int) : Option (Int) := if a0 > 0 then (some 1) else (if a0 < 0 then (some (-1)) else (some 0))
/-! spec_poOrder -/
def spec_poOrder.f (a0_0 : Int) (a0_1 : Int) (a0_2 : Int) (a0_3 : Int) (a1_0 : Int) (a1_1 : Int) (a1_2 : Int) (a1_3 : Int) : Option (Int) := if a0_1 = a1_1 then (if a0_2 = a1_2 then ((spec_l1Sign.f (wrap64 (a0_3 - a1_3))).bind fun t143 => (some t143)) else ((spec_l1Sign.f (wrap64 (a0_2 - a1_2))).bind fun t144 => (some t144))) else ((spec_l1Sign.f (wrap64 (a0_1 - a1_1))).bind fun t145 => (some t145))
/-! spec_poGood -/
def spec_poGood.l0 : Nat → List (S55) → List (S55) → Int → Int → Option (Bool)
  | 0, _, _, _, _ => none
  | k + 1, x0, x5, x6, x7 => if x7 < x6 then (if 0 ≤ x7 then (if x7 < (x5.length : Int) then ((spec_poTerm.f ((rd_T55 x5 x7).f0) ((rd_T55 x5 x7).f1) ((rd_T55 x5 x7).f2) ((rd_T55 x5 x7).f3)).bind fun t148 => (if t148 = true then (if ((rd_T55 x5 x7).f0) = 0 then (some false) else (if x7 > 0 then (if 0 ≤ (wrap64 (x7 - 1)) then (if (wrap64 (x7 - 1)) < (x0.length : Int) then ((spec_poOrder.f ((rd_T55 x0 (wrap64 (x7 - 1))).f0) ((rd_T55 x0 (wrap64 (x7 - 1))).f1) ((rd_T55 x0 (wrap64 (x7 - 1))).f2) ((rd_T55 x0 (wrap64 (x7 - 1))).f3) ((rd_T55 x5 x7).f0) ((rd_T55 x5 x7).f1) ((rd_T55 x5 x7).f2) ((rd_T55 x5 x7).f3)).bind fun t150 => (if t150 ≥ 0 then (some false) else (spec_poGood.l0 k x0 x5 x6 (wrap64 (x7 + 1))))) else (none)) else (none)) else (spec_poGood.l0 k x0 x5 x6 (wrap64 (x7 + 1))))) else (some false))) else (none)) else (none)) else (some (decide ((x0.length : Int) ≤ 20)))
def spec_poGood.f (k : Nat) (l0 : List (S55)) : Option (Bool) := spec_poGood.l0 k l0 l0 (l0.length : Int) 0
/-! spec_poUnknown -/
def spec_poUnknown.f (a0 : Int) : Option (Bool) := (spec_l1In.f a0 0 2).bind fun t151 => (some t151)
/-! spec_poPut -/
mutual
def spec_poPut.j1 : Nat → List (S55) → Int → Int → Int → Int → Int → Option ((List (S55)))
  | 0, _, _, _, _, _, _ => none
  | k + 1, x0, x5, x153000, x153001, x153002, x153003 => if 0 ≤ x5 then (if x5 ≤ (x0.length : Int) then ((some (x0.drop (x5 : Int).toNat : List (S55))).bind fun y155 => (if x5 < (x0.length : Int) then ((spec_poOrder.f ((rd_T55 x0 x5).f0) ((rd_T55 x0 x5).f1) ((rd_T55 x0 x5).f2) ((rd_T55 x0 x5).f3) x153000 x153001 x153002 x153003).bind fun t160 => (spec_poPut.j2 k x0 x5 y155 (t160 == 0) x153000 x153001 x153002 x153003)) else (spec_poPut.j2 k x0 x5 y155 false x153000 x153001 x153002 x153003))) else (none)) else (none)
def spec_poPut.j2 : Nat → List (S55) → Int → List (S55) → Bool → Int → Int → Int → Int → Option ((List (S55)))
  | 0, _, _, _, _, _, _, _, _ => none
  | k + 1, x0, x5, x6, x38, x153000, x153001, x153002, x153003 => if x38 = true then (if 0 ≤ x5 then (if x5 < (x0.length : Int) then (if 0 ≤ (wrap64 (x5 + 1)) then (if (wrap64 (x5 + 1)) ≤ (x0.length : Int) then ((some (x0.drop ((wrap64 (x5 + 1)) : Int).toNat : List (S55))).bind fun y162 => ((some (([] : List (S55)) : List (S55))).bind fun y166 => (if x5 ≤ (x0.length : Int) then ((some (x0.take (x5 : Int).toNat : List (S55))).bind fun y169 => (if y166.length + y169.length < 4398046511104 then ((some (y166 ++ y169 : List (S55))).bind fun y173 => (if (wrap64 (x153000 + ((rd_T55 x0 x5).f0))) = 0 then (if y173.length + y162.length < 4398046511104 then (some (y173 ++ y162)) else (none)) else (if y173.length < 4398046511104 then ((some (y173 ++ [(⟨wrap64 (x153000 + ((rd_T55 x0 x5).f0)), x153001, x153002, x153003⟩ : S55)] : List (S55))).bind fun y179 => (if y179.length + y162.length < 4398046511104 then (some (y179 ++ y162)) else (none))) else (none)))) else (none))) else (none)))) else (none)) else (none)) else (none)) else (none)) else ((some (([] : List (S55)) : List (S55))).bind fun y185 => (if 0 ≤ x5 then (if x5 ≤ (x0.length : Int) then ((some (x0.take (x5 : Int).toNat : List (S55))).bind fun y188 => (if y185.length + y188.length < 4398046511104 then ((some (y185 ++ y188 : List (S55))).bind fun y192 => (if x153000 = 0 then (if y192.length + x6.length < 4398046511104 then (some (y192 ++ x6)) else (none)) else (if y192.length < 4398046511104 then ((some (y192 ++ [(⟨x153000, x153001, x153002, x153003⟩ : S55)] : List (S55))).bind fun y198 => (if y198.length + x6.length < 4398046511104 then (some (y198 ++ x6)) else (none))) else (none)))) else (none))) else (none)) else (none)))
def spec_poPut.l0 : Nat → List (S55) → Int → Int → Int → Int → Int → Option ((List (S55)))
  | 0, _, _, _, _, _, _ => none
  | k + 1, x0, x5, x153000, x153001, x153002, x153003 => if x5 < (x0.length : Int) then (if 0 ≤ x5 then ((spec_poOrder.f ((rd_T55 x0 x5).f0) ((rd_T55 x0 x5).f1) ((rd_T55 x0 x5).f2) ((rd_T55 x0 x5).f3) x153000 x153001 x153002 x153003).bind fun t154 => (if t154 < 0 then (spec_poPut.l0 k x0 (wrap64 (x5 + 1)) x153000 x153001 x153002 x153003) else (spec_poPut.j1 k x0 x5 x153000 x153001 x153002 x153003))) else (none)) else (spec_poPut.j1 k x0 x5 x153000 x153001 x153002 x153003)
end
def spec_poPut.f (k : Nat) (l0 : List (S55)) (a1_0 : Int) (a1_1 : Int) (a1_2 : Int) (a1_3 : Int) : Option ((List (S55))) := spec_poPut.l0 k l0 0 a1_0 a1_1 a1_2 a1_3
/-! spec_poSum -/
def spec_poSum.l0 : Nat → List (S55) → List (S55) → Int → Int → Option ((List (S55)) × Bool)
  | 0, _, _, _, _ => none
  | k + 1, x4, x7, x8, x9 => if x9 < x8 then (if 0 ≤ x9 then (if x9 < (x7.length : Int) then ((spec_poPut.f k x4 ((rd_T55 x7 x9).f0) ((rd_T55 x7 x9).f1) ((rd_T55 x7 x9).f2) ((rd_T55 x7 x9).f3)).bind fun t206 => (spec_poSum.l0 k t206 x7 x8 (wrap64 (x9 + 1)))) else (none)) else (none)) else ((spec_poGood.f k x4).bind fun t209 => (if t209 = true then (some (x4, true)) else (some (([] : List (S55)), false))))
def spec_poSum.f (k : Nat) (l0 : List (S55)) : Option ((List (S55)) × Bool) := spec_poSum.l0 k ([] : List (S55)) l0 (l0.length : Int) 0
/-! spec_poPower -/
def spec_poPower.f (a0_0 : Int) (a0_1 : Int) (a0_2 : Int) (a0_3 : Int) (a1 : Int) : Option (Int) := if a1 = 0 then (some a0_1) else (if a1 = 1 then (some a0_2) else (some a0_3))
/-! spec_poWith -/
def spec_poWith.f (a0_0 : Int) (a0_1 : Int) (a0_2 : Int) (a0_3 : Int) (a1 : Int) (a2 : Int) : Option (Int × Int × Int × Int) := if a1 = 0 then (some (a0_0, a2, a0_2, a0_3)) else (if a1 = 1 then (some (a0_0, a0_1, a2, a0_3)) else (some (a0_0, a0_1, a0_2, a2)))
/-! spec_PutInteger -/
mutual
def spec_PutInteger.j0 : Nat → List (S55) → Int → Int → Bool → Option ((List (S55)) × Bool)
  | 0, _, _, _, _ => none
  | k + 1, x0, x1, x2, x24 => if x24 = true then (some (([] : List (S55)), false)) else (spec_PutInteger.l0 k x1 x2 ([] : List (S55)) x0 (x0.length : Int) 0)
def spec_PutInteger.l0 : Nat → Int → Int → List (S55) → List (S55) → Int → Int → Option ((List (S55)) × Bool)
  | 0, _, _, _, _, _, _ => none
  | k + 1, x1, x2, x8, x25, x26, x27 => if x27 < x26 then (if 0 ≤ x27 then (if x27 < (x25.length : Int) then ((spec_poPower.f ((rd_T55 x25 x27).f0) ((rd_T55 x25 x27).f1) ((rd_T55 x25 x27).f2) ((rd_T55 x25 x27).f3) x1).bind fun t222 => (spec_PutInteger.l1 k x1 x2 x8 t222 x25 x26 x27 ((rd_T55 x25 x27).f0) ((rd_T55 x25 x27).f1) ((rd_T55 x25 x27).f2) ((rd_T55 x25 x27).f3))) else (none)) else (none)) else ((spec_poSum.f k x8).bind fun bt216 => (some (bt216.1, bt216.2)))
def spec_PutInteger.l1 : Nat → Int → Int → List (S55) → Int → List (S55) → Int → Int → Int → Int → Int → Int → Option ((List (S55)) × Bool)
  | 0, _, _, _, _, _, _, _, _, _, _, _ => none
  | k + 1, x1, x2, x8, x11, x25, x26, x27, x222000, x222001, x222002, x222003 => if x11 > 0 then (spec_PutInteger.l1 k x1 x2 x8 (wrap64 (x11 - 1)) x25 x26 x27 (wrap64 (x222000 * x2)) x222001 x222002 x222003) else ((spec_poWith.f x222000 x222001 x222002 x222003 x1 0).bind fun bt223 => (if x8.length < 4398046511104 then (spec_PutInteger.l0 k x1 x2 (x8 ++ [(⟨bt223.1, bt223.2.1, bt223.2.2.1, bt223.2.2.2⟩ : S55)]) x25 x26 (wrap64 (x27 + 1))) else (none)))
end
def spec_PutInteger.f (k : Nat) (l0 : List (S55)) (a1 : Int) (a2 : Int) : Option ((List (S55)) × Bool) := (spec_poGood.f k l0).bind fun t213 => (if t213 = true then ((spec_poUnknown.f a1).bind fun t214 => (if t214 = true then ((spec_l1In.f a2 (-100) 100).bind fun t215 => (spec_PutInteger.j0 k l0 a1 a2 (!t215))) else (spec_PutInteger.j0 k l0 a1 a2 true))) else (spec_PutInteger.j0 k l0 a1 a2 true))
/-! impl_inside -/
def impl_inside.f (a0 : Int) (a1 : Int) (a2 : Int) : Option (Bool) := if a0 ≥ a1 then (some (decide (a0 ≤ a2))) else (some false)
/-! impl_Term_degree -/
def impl_Term_degree.f (a0_0 : Int) (a0_1 : Int) (a0_2 : Int) (a0_3 : Int) : Option (Int) := some (wrap64 ((wrap64 (a0_1 + a0_2)) + a0_3))
/-! impl_hasDegree -/
def impl_hasDegree.f (a0_0 : Int) (a0_1 : Int) (a0_2 : Int) (a0_3 : Int) : Option (Bool) := (impl_inside.f a0_1 0 4).bind fun t232 => (if t232 = true then ((impl_inside.f a0_2 0 4).bind fun t233 => (if t233 = true then ((impl_inside.f a0_3 0 4).bind fun t234 => (if t234 = true then ((impl_Term_degree.f a0_0 a0_1 a0_2 a0_3).bind fun t235 => (some (decide (t235 ≤ 4)))) else (some false))) else (some false))) else (some false))
/-! cmp_Or_int -/
def cmp_Or_int.l0 : Nat → Int → List Int → Int → Int → Option (Int)
  | 0, _, _, _, _ => none
  | k + 1, x3, x6, x7, x8 => if x8 < x7 then (if 0 ≤ x8 then (if x8 < (x6.length : Int) then (if (rd x6 x8) = x3 then (cmp_Or_int.l0 k x3 x6 x7 (wrap64 (x8 + 1))) else (some (rd x6 x8))) else (none)) else (none)) else (some x3)
def cmp_Or_int.f (k : Nat) (l0 : List Int) : Option (Int) := cmp_Or_int.l0 k 0 l0 (l0.length : Int) 0
/-! cmp_isNaN_int -/
def cmp_isNaN_int.f (a0 : Int) : Option (Bool) := some (a0 != a0)
/-! cmp_Compare_int -/
def cmp_Compare_int.f (a0 : Int) (a1 : Int) : Option (Int) := (cmp_isNaN_int.f a0).bind fun t237 => ((cmp_isNaN_int.f a1).bind fun t238 => (if t237 = true then (if t238 = true then (some 0) else (some (-1))) else (if t238 = true then (some 1) else (if a0 < a1 then (some (-1)) else (if a0 > a1 then (some 1) else (some 0))))))
/-! impl_compareTerms -/
def impl_compareTerms.f (k : Nat) (a0_0 : Int) (a0_1 : Int) (a0_2 : Int) (a0_3 : Int) (a1_0 : Int) (a1_1 : Int) (a1_2 : Int) (a1_3 : Int) : Option (Int) := (cmp_Compare_int.f a0_1 a1_1).bind fun t241 => ((cmp_Compare_int.f a0_2 a1_2).bind fun t242 => ((cmp_Compare_int.f a0_3 a1_3).bind fun t243 => ((cmp_Or_int.f k (([t241, t242, t243] : List Int))).bind fun t247 => (some t247))))
/-! impl_isPoly -/
def impl_isPoly.l0 : Nat → List (S55) → List (S55) → Int → Int → Option (Bool)
  | 0, _, _, _, _ => none
  | k + 1, x0, x5, x6, x7 => if x7 < x6 then (if 0 ≤ x7 then (if x7 < (x5.length : Int) then (if ((rd_T55 x5 x7).f0) = 0 then (some false) else ((impl_inside.f ((rd_T55 x5 x7).f0) (-1000) 1000).bind fun t250 => (if t250 = true then ((impl_hasDegree.f ((rd_T55 x5 x7).f0) ((rd_T55 x5 x7).f1) ((rd_T55 x5 x7).f2) ((rd_T55 x5 x7).f3)).bind fun t251 => (if t251 = true then (if x7 > 0 then (if 0 ≤ (wrap64 (x7 - 1)) then (if (wrap64 (x7 - 1)) < (x0.length : Int) then ((impl_compareTerms.f k ((rd_T55 x0 (wrap64 (x7 - 1))).f0) ((rd_T55 x0 (wrap64 (x7 - 1))).f1) ((rd_T55 x0 (wrap64 (x7 - 1))).f2) ((rd_T55 x0 (wrap64 (x7 - 1))).f3) ((rd_T55 x5 x7).f0) ((rd_T55 x5 x7).f1) ((rd_T55 x5 x7).f2) ((rd_T55 x5 x7).f3)).bind fun t253 => (if t253 ≥ 0 then (some false) else (impl_isPoly.l0 k x0 x5 x6 (wrap64 (x7 + 1))))) else (none)) else (none)) else (impl_isPoly.l0 k x0 x5 x6 (wrap64 (x7 + 1)))) else (some false))) else (some false)))) else (none)) else (none)) else (some (decide ((x0.length : Int) ≤ 20)))
def impl_isPoly.f (k : Nat) (l0 : List (S55)) : Option (Bool) := impl_isPoly.l0 k l0 l0 (l0.length : Int) 0
/-! impl_isUnknown -/
def impl_isUnknown.f (a0 : Int) : Option (Bool) := (impl_inside.f a0 0 2).bind fun t254 => (some t254)
/-! impl_polyResult -/
def impl_polyResult.f (k : Nat) (l0 : List (S55)) : Option ((List (S55)) × Bool) := (impl_isPoly.f k l0).bind fun t255 => (if t255 = true then (some (l0, true)) else (some (([] : List (S55)), false)))
/-! impl_collect -/
-- HAND rounds=0 making=1
/-- A term, as the plain text on sums takes it. -/
def impl_collect.ops : Go.Proofs.YtfnmppeoleicbaaCol.Ops S55 := { c := fun s => s.f0, x := fun s => s.f1, y := fun s => s.f2, z := fun s => s.f3, st := fun s n => ⟨n, s.f1, s.f2, s.f3⟩, c_st := fun _ _ => rfl, x_st := fun _ _ => rfl, y_st := fun _ _ => rfl, z_st := fun _ _ => rfl, ext := fun s t h1 h2 h3 h4 => by cases s; cases t; simp_all }
def impl_collect.ok (l : List S55) : Bool := decide (l.length ≤ 1000000) && l.all (fun t => decide (wrap64 t.f0 = t.f0))
def impl_collect.f (l0 : List (S55)) : Option (List (S55)) := if impl_collect.ok l0 = true then some (Go.Proofs.YtfnmppeoleicbaaCol.sums impl_collect.ops l0) else none
/-! impl_PutInteger -/
-- HAND rounds=1 making=1
def impl_PutInteger.tm (t : S55) (a c : Int) : S55 := if a = 0 then ⟨c, 0, t.f2, t.f3⟩ else (if a = 1 then ⟨c, t.f1, 0, t.f3⟩ else ⟨c, t.f1, t.f2, 0⟩)
def impl_PutInteger.pw (t : S55) (a : Int) : Int := if a = 0 then t.f1 else (if a = 1 then t.f2 else t.f3)
mutual
def impl_PutInteger.l0 : Nat → List S55 → Int → Int → List S55 → Int → Option (List S55 × Bool)
  | 0, _, _, _, _, _ => none
  | k + 1, l, a, n, x, i => if i < (l.length : Int) then (if 0 ≤ i then impl_PutInteger.l1 k l a n x i (rd_T55 l i).f0 (impl_PutInteger.pw (rd_T55 l i) a) 0 else none) else (impl_collect.f x).bind fun t => impl_polyResult.f k t
def impl_PutInteger.l1 : Nat → List S55 → Int → Int → List S55 → Int → Int → Int → Int → Option (List S55 × Bool)
  | 0, _, _, _, _, _, _, _, _ => none
  | k + 1, l, a, n, x, i, c, e, j => if j < e then impl_PutInteger.l1 k l a n x i (wrap64 (c * n)) e (wrap64 (j + 1)) else (if x.length < 4398046511104 then impl_PutInteger.l0 k l a n (x ++ [impl_PutInteger.tm (rd_T55 l i) a c]) (wrap64 (i + 1)) else none)
end
def impl_PutInteger.f (k : Nat) (l0 : List (S55)) (a1 : Int) (a2 : Int) : Option (List (S55) × Bool) := (impl_isPoly.f k l0).bind fun p => if p = true then ((impl_isUnknown.f a1).bind fun u => if u = true then ((impl_inside.f a2 (-100) 100).bind fun q => if q = true then (if 0 ≤ a1 then (if a1 ≤ 2 then impl_PutInteger.l0 k l0 a1 a2 [] 0 else none) else none) else some ([], false)) else some ([], false)) else some ([], false)
/-! laws_FnExactPutInteger -/
def laws_FnExactPutInteger.f (k : Nat) (l0 : List (S57)) (a1 : Int) (a2 : Int) : Option (Bool) := (laws_szTermS.f l0 1000000).bind fun t256 => (if t256 < 0 then (some true) else ((laws_toTermS.f k l0 false).bind fun t257 => ((spec_PutInteger.f k t257 a1 a2).bind fun bt260 => ((laws_toTermS.f k l0 false).bind fun t264 => ((impl_PutInteger.f k t264 a1 a2).bind fun bt267 => ((laws_eqTermS.f k bt267.1 bt260.1).bind fun t271 => (if t271 = true then (if (bt267.2 != bt260.2) = true then (none) else ((laws_toTermS.f k l0 false).bind fun t272 => ((laws_intactTermS.f t264 t272).bind fun t275 => (if t275 = true then ((laws_markTermS.f k t264 101).bind fun bt276 => (if bt276.1 < 0 then (none) else ((laws_eqTermS.f k bt267.1 bt260.1).bind fun t278 => (if t278 = true then ((laws_markTermS.f k bt267.1 101).bind fun bt279 => ((laws_heldTermS.f k bt279.2 101).bind fun t281 => (if t281 < 0 then (none) else (if t281 = bt279.1 then ((laws_toTermS.f k l0 true).bind fun t282 => ((impl_PutInteger.f k t282 a1 a2).bind fun bt285 => ((laws_eqTermS.f k bt285.1 bt260.1).bind fun t289 => (if t289 = true then (if (bt285.2 != bt260.2) = true then (none) else ((laws_heldTermS.f k bt279.2 101).bind fun t290 => (if t290 < 0 then (none) else (if t290 = bt279.1 then (some true) else (none))))) else (none))))) else (none))))) else (none))))) else (none))))) else (none))))))))
end Go.Proofs.Ytfnmppeoleicbaa.PD
