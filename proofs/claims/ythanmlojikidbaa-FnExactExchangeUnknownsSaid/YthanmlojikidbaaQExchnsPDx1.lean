-- By wip/mk/drv.py
import Derived.Test.YthanmlojikidbaaQExchnsPDx0
namespace Go.Proofs.Ythanmlojikidbaa.PD
open Go.RowKit Go.Proofs.YthanmlojikidbaaW.PrintWords Go.Proofs.YthanmlojikidbaaW.PrintLast Go.Proofs.YthanmlojikidbaaW.PrintMore
attribute [local go_sem] max2_int min2_int max_two min_two max_three min_three max_four min_four
set_option linter.unusedVariables false
set_option linter.unusedSimpArgs false
/-! laws_szTermS -/
def laws_szTermS.f (l0 : List (S53)) (a1 : Int) : Option (Int) := if (wrap64 (a1 - (l0.length : Int))) < 0 then (some (-1)) else (some (wrap64 (a1 - (l0.length : Int))))
/-! spec_l1In -/
def spec_l1In.f (a0 : Int) (a1 : Int) (a2 : Int) : Option (Bool) := if a0 ≥ a1 then (some (decide (a0 ≤ a2))) else (some false)
/-! spec_poTerm -/
def spec_poTerm.f (a0_0 : Int) (a0_1 : Int) (a0_2 : Int) (a0_3 : Int) : Option (Bool) := (spec_l1In.f a0_0 (-1000) 1000).bind fun t102 => (if t102 = true then ((spec_l1In.f a0_1 0 4).bind fun t103 => (if t103 = true then ((spec_l1In.f a0_2 0 4).bind fun t104 => (if t104 = true then ((spec_l1In.f a0_3 0 4).bind fun t105 => (if t105 = true then (some (decide ((wrap64 ((wrap64 (a0_1 + a0_2)) + a0_3)) ≤ 4))) else (some false))) else (some false))) else (some false))) else (some false))
/-! spec_l1Sign -/
def spec_l1Sign.f (a0 : Int) : Option (Int) := if a0 > 0 then (some 1) else (if a0 < 0 then (some (-1)) else (some 0))
/-! spec_poOrder -/
def spec_poOrder.f (a0_0 : Int) (a0_1 : Int) (a0_2 : Int) (a0_3 : Int) (a1_0 : Int) (a1_1 : Int) (a1_2 : Int) (a1_3 : Int) : Option (Int) := if a0_1 = a1_1 then (if a0_2 = a1_2 then ((spec_l1Sign.f (wrap64 (a0_3 - a1_3))).bind fun t108 => (some t108)) else ((spec_l1Sign.f (wrap64 (a0_2 - a1_2))).bind fun t109 => (some t109))) else ((spec_l1Sign.f (wrap64 (a0_1 - a1_1))).bind fun t110 => (some t110))
/-! spec_poGood -/
def spec_poGood.l0 : Nat → List (S51) → List (S51) → Int → Int → Option (Bool)
  | 0, _, _, _, _ => none
  | k + 1, x0, x5, x6, x7 => if x7 < x6 then (if 0 ≤ x7 then (if x7 < (x5.length : Int) then ((spec_poTerm.f ((rd_T51 x5 x7).f0) ((rd_T51 x5 x7).f1) ((rd_T51 x5 x7).f2) ((rd_T51 x5 x7).f3)).bind fun t113 => (if t113 = true then (if ((rd_T51 x5 x7).f0) = 0 then (some false) else (if x7 > 0 then (if 0 ≤ (wrap64 (x7 - 1)) then (if (wrap64 (x7 - 1)) < (x0.length : Int) then ((spec_poOrder.f ((rd_T51 x0 (wrap64 (x7 - 1))).f0) ((rd_T51 x0 (wrap64 (x7 - 1))).f1) ((rd_T51 x0 (wrap64 (x7 - 1))).f2) ((rd_T51 x0 (wrap64 (x7 - 1))).f3) ((rd_T51 x5 x7).f0) ((rd_T51 x5 x7).f1) ((rd_T51 x5 x7).f2) ((rd_T51 x5 x7).f3)).bind fun t115 => (if t115 ≥ 0 then (some false) else (spec_poGood.l0 k x0 x5 x6 (wrap64 (x7 + 1))))) else (none)) else (none)) else (spec_poGood.l0 k x0 x5 x6 (wrap64 (x7 + 1))))) else (some false))) else (none)) else (none)) else (some (decide ((x0.length : Int) ≤ 20)))
def spec_poGood.f (k : Nat) (l0 : List (S51)) : Option (Bool) := spec_poGood.l0 k l0 l0 (l0.length : Int) 0
/-! spec_l1All -/
def spec_l1All.l0 : Nat → Int → Int → List Int → Int → Int → Option (Bool)
  | 0, _, _, _, _, _ => none
  | k + 1, x1, x2, x9, x10, x11 => if x11 < x10 then (if 0 ≤ x11 then (if x11 < (x9.length : Int) then ((spec_l1In.f (rd x9 x11) x1 x2).bind fun t117 => (if t117 = true then (spec_l1All.l0 k x1 x2 x9 x10 (wrap64 (x11 + 1))) else (some false))) else (none)) else (none)) else (some true)
def spec_l1All.f (k : Nat) (l0 : List Int) (a1 : Int) (a2 : Int) : Option (Bool) := spec_l1All.l0 k a1 a2 l0 (l0.length : Int) 0
/-! spec_l1Has -/
def spec_l1Has.l0 : Nat → Int → List Int → Int → Int → Option (Bool)
  | 0, _, _, _, _ => none
  | k + 1, x1, x7, x8, x9 => if x9 < x8 then (if 0 ≤ x9 then (if x9 < (x7.length : Int) then (if (rd x7 x9) = x1 then (some true) else (spec_l1Has.l0 k x1 x7 x8 (wrap64 (x9 + 1)))) else (none)) else (none)) else (some false)
def spec_l1Has.f (k : Nat) (l0 : List Int) (a1 : Int) : Option (Bool) := spec_l1Has.l0 k a1 l0 (l0.length : Int) 0
/-! spec_poWith -/
def spec_poWith.f (a0_0 : Int) (a0_1 : Int) (a0_2 : Int) (a0_3 : Int) (a1 : Int) (a2 : Int) : Option (Int × Int × Int × Int) := if a1 = 0 then (some (a0_0, a2, a0_2, a0_3)) else (if a1 = 1 then (some (a0_0, a0_1, a2, a0_3)) else (some (a0_0, a0_1, a0_2, a2)))
/-! spec_poPower -/
def spec_poPower.f (a0_0 : Int) (a0_1 : Int) (a0_2 : Int) (a0_3 : Int) (a1 : Int) : Option (Int) := if a1 = 0 then (some a0_1) else (if a1 = 1 then (some a0_2) else (some a0_3))
/-! spec_poPut -/
mutual
def spec_poPut.j1 : Nat → List (S51) → Int → Int → Int → Int → Int → Option ((List (S51)))
  | 0, _, _, _, _, _, _ => none
  | k + 1, x0, x5, x123000, x123001, x123002, x123003 => if 0 ≤ x5 then (if x5 ≤ (x0.length : Int) then ((some (x0.drop (x5 : Int).toNat : List (S51))).bind fun y125 => (if x5 < (x0.length : Int) then ((spec_poOrder.f ((rd_T51 x0 x5).f0) ((rd_T51 x0 x5).f1) ((rd_T51 x0 x5).f2) ((rd_T51 x0 x5).f3) x123000 x123001 x123002 x123003).bind fun t130 => (spec_poPut.j2 k x0 x5 y125 (t130 == 0) x123000 x123001 x123002 x123003)) else (spec_poPut.j2 k x0 x5 y125 false x123000 x123001 x123002 x123003))) else (none)) else (none)
def spec_poPut.j2 : Nat → List (S51) → Int → List (S51) → Bool → Int → Int → Int → Int → Option ((List (S51)))
  | 0, _, _, _, _, _, _, _, _ => none
  | k + 1, x0, x5, x6, x38, x123000, x123001, x123002, x123003 => if x38 = true then (if 0 ≤ x5 then (if x5 < (x0.length : Int) then (if 0 ≤ (wrap64 (x5 + 1)) then (if (wrap64 (x5 + 1)) ≤ (x0.length : Int) then ((some (x0.drop ((wrap64 (x5 + 1)) : Int).toNat : List (S51))).bind fun y132 => ((some (([] : List (S51)) : List (S51))).bind fun y136 => (if x5 ≤ (x0.length : Int) then ((some (x0.take (x5 : Int).toNat : List (S51))).bind fun y139 => (if y136.length + y139.length < 4398046511104 then ((some (y136 ++ y139 : List (S51))).bind fun y143 => (if (wrap64 (x123000 + ((rd_T51 x0 x5).f0))) = 0 then (if y143.length + y132.length < 4398046511104 then (some (y143 ++ y132)) else (none)) else (if y143.length < 4398046511104 then ((some (y143 ++ [(⟨wrap64 (x123000 + ((rd_T51 x0 x5).f0)), x123001, x123002, x123003⟩ : S51)] : List (S51))).bind fun y149 => (if y149.length + y132.length < 4398046511104 then (some (y149 ++ y132)) else (none))) else (none)))) else (none))) else (none)))) else (none)) else (none)) else (none)) else (none)) else ((some (([] : List (S51)) : List (S51))).bind fun y155 => (if 0 ≤ x5 then (if x5 ≤ (x0.length : Int) then ((some (x0.take (x5 : Int).toNat : List (S51))).bind fun y158 => (if y155.length + y158.length < 4398046511104 then ((some (y155 ++ y158 : List (S51))).bind fun y162 => (if x123000 = 0 then (if y162.length + x6.length < 4398046511104 then (some (y162 ++ x6)) else (none)) else (if y162.length < 4398046511104 then ((some (y162 ++ [(⟨x123000, x123001, x123002, x123003⟩ : S51)] : List (S51))).bind fun y168 => (if y168.length + x6.length < 4398046511104 then (some (y168 ++ x6)) else (none))) else (none)))) else (none))) else (none)) else (none)))
def spec_poPut.l0 : Nat → List (S51) → Int → Int → Int → Int → Int → Option ((List (S51)))
  | 0, _, _, _, _, _, _ => none
  | k + 1, x0, x5, x123000, x123001, x123002, x123003 => if x5 < (x0.length : Int) then (if 0 ≤ x5 then ((spec_poOrder.f ((rd_T51 x0 x5).f0) ((rd_T51 x0 x5).f1) ((rd_T51 x0 x5).f2) ((rd_T51 x0 x5).f3) x123000 x123001 x123002 x123003).bind fun t124 => (if t124 < 0 then (spec_poPut.l0 k x0 (wrap64 (x5 + 1)) x123000 x123001 x123002 x123003) else (spec_poPut.j1 k x0 x5 x123000 x123001 x123002 x123003))) else (none)) else (spec_poPut.j1 k x0 x5 x123000 x123001 x123002 x123003)
end
def spec_poPut.f (k : Nat) (l0 : List (S51)) (a1_0 : Int) (a1_1 : Int) (a1_2 : Int) (a1_3 : Int) : Option ((List (S51))) := spec_poPut.l0 k l0 0 a1_0 a1_1 a1_2 a1_3
/-! spec_poExchange -/
mutual
def spec_poExchange.l0 : Nat → List Int → List (S51) → List (S51) → Int → Int → Option ((List (S51)))
  | 0, _, _, _, _, _ => none
  | k + 1, x1, x5, x11, x12, x13 => if x13 < x12 then (if 0 ≤ x13 then (if x13 < (x11.length : Int) then (spec_poExchange.l1 k x1 x5 x11 x12 x13 x1 (x1.length : Int) 0 ((rd_T51 x11 x13).f0) ((rd_T51 x11 x13).f1) ((rd_T51 x11 x13).f2) ((rd_T51 x11 x13).f3) ((rd_T51 x11 x13).f0) 0 0 0) else (none)) else (none)) else (some x5)
def spec_poExchange.l1 : Nat → List Int → List (S51) → List (S51) → Int → Int → List Int → Int → Int → Int → Int → Int → Int → Int → Int → Int → Int → Option ((List (S51)))
  | 0, _, _, _, _, _, _, _, _, _, _, _, _, _, _, _, _ => none
  | k + 1, x1, x5, x11, x12, x13, x20, x21, x22, x176000, x176001, x176002, x176003, x177000, x177001, x177002, x177003 => if x22 < x21 then (if 0 ≤ x22 then (if x22 < (x20.length : Int) then ((spec_poPower.f x176000 x176001 x176002 x176003 x22).bind fun t178 => ((spec_poWith.f x177000 x177001 x177002 x177003 (rd x20 x22) t178).bind fun bt179 => (spec_poExchange.l1 k x1 x5 x11 x12 x13 x20 x21 (wrap64 (x22 + 1)) x176000 x176001 x176002 x176003 bt179.1 bt179.2.1 bt179.2.2.1 bt179.2.2.2))) else (none)) else (none)) else ((spec_poPut.f k x5 x177000 x177001 x177002 x177003).bind fun t183 => (spec_poExchange.l0 k x1 t183 x11 x12 (wrap64 (x13 + 1))))
end
def spec_poExchange.f (k : Nat) (l0 : List (S51)) (l1 : List Int) : Option ((List (S51))) := spec_poExchange.l0 k l1 ([] : List (S51)) l0 (l0.length : Int) 0
/-! spec_ExchangeUnknowns -/
def spec_ExchangeUnknowns.f (k : Nat) (l0 : List (S51)) (l1 : List Int) : Option ((List (S51)) × Bool) := (spec_poGood.f k l0).bind fun t186 => (if t186 = true then (if (l1.length : Int) = 3 then ((spec_l1All.f k l1 0 2).bind fun t187 => (if t187 = true then ((spec_l1Has.f k l1 0).bind fun t188 => (if t188 = true then ((spec_l1Has.f k l1 1).bind fun t189 => (if t189 = true then ((spec_l1Has.f k l1 2).bind fun t190 => (if t190 = true then ((spec_poExchange.f k l0 l1).bind fun t191 => (some (t191, true))) else (some (([] : List (S51)), false)))) else (some (([] : List (S51)), false)))) else (some (([] : List (S51)), false)))) else (some (([] : List (S51)), false)))) else (some (([] : List (S51)), false))) else (some (([] : List (S51)), false)))
/-! laws_roomBehind -/
def laws_roomBehind.f (a0 : Int) : Option (Int) := if (Int.tmod a0 6) = 5 then (some 0) else (if (Int.tmod a0 3) = 0 then (some 1) else (some a0))
/-! laws_toTerm -/
def laws_toTerm.f (a0_0 : Int) (a0_1 : Int) (a0_2 : Int) (a0_3 : Int) : Option (Int × Int × Int × Int) := some (a0_0, a0_1, a0_2, a0_3)
/-! laws_fillerTerm -/
def laws_fillerTerm.f  : Option (Int × Int × Int × Int) := some ((-7000000000000000101), (-7000000000000000101), (-7000000000000000101), (-7000000000000000101))
/-! laws_toTermS -/
mutual
def laws_toTermS.j0 : Nat → List (S53) → Bool → Option ((List (S51)))
  | 0, _, _ => none
  | k + 1, x0, x13 => if x13 = true then (some ([] : List (S51))) else ((laws_roomBehind.f (x0.length : Int)).bind fun t198 => (if 0 ≤ (wrap64 ((x0.length : Int) + t198)) then (if (wrap64 ((x0.length : Int) + t198) : Int).toNat ≤ 8796093022208 then (laws_toTermS.l0 k x0 (List.replicate (wrap64 ((x0.length : Int) + t198) : Int).toNat z51) 0) else (none)) else (none)))
def laws_toTermS.l0 : Nat → List (S53) → List (S51) → Int → Option ((List (S51)))
  | 0, _, _, _ => none
  | k + 1, x0, x5, x6 => if x6 < (x0.length : Int) then (if 0 ≤ x6 then ((laws_toTerm.f ((rd_T53 x0 x6).f0) ((rd_T53 x0 x6).f1) ((rd_T53 x0 x6).f2) ((rd_T53 x0 x6).f3)).bind fun bt203 => (if x6 < (x5.length : Int) then (laws_toTermS.l0 k x0 (x5.set (x6 : Int).toNat (⟨bt203.1, bt203.2.1, bt203.2.2.1, bt203.2.2.2⟩ : S51)) (wrap64 (x6 + 1))) else (none))) else (none)) else (laws_toTermS.l1 k x0 x5 (x0.length : Int))
def laws_toTermS.l1 : Nat → List (S53) → List (S51) → Int → Option ((List (S51)))
  | 0, _, _, _ => none
  | k + 1, x0, x5, x7 => if x7 < (x5.length : Int) then ((laws_fillerTerm.f).bind fun bt208 => (if 0 ≤ x7 then (laws_toTermS.l1 k x0 (x5.set (x7 : Int).toNat (⟨bt208.1, bt208.2.1, bt208.2.2.1, bt208.2.2.2⟩ : S51)) (wrap64 (x7 + 1))) else (none))) else (if 0 ≤ (x0.length : Int) then (if (x0.length : Int) ≤ (x5.length : Int) then (some (x5.take ((x0.length : Int) : Int).toNat)) else (none)) else (none))
end
def laws_toTermS.f (k : Nat) (l0 : List (S53)) (a1 : Bool) : Option ((List (S51))) := if a1 = true then (laws_toTermS.j0 k l0 ((l0.length : Int) == 0)) else (laws_toTermS.j0 k l0 false)
/-! laws_toIntS -/
mutual
def laws_toIntS.j0 : Nat → List Int → Bool → Option (List Int)
  | 0, _, _ => none
  | k + 1, x0, x13 => if x13 = true then (some ([] : List Int)) else ((laws_roomBehind.f (x0.length : Int)).bind fun t216 => (if 0 ≤ (wrap64 ((x0.length : Int) + t216)) then (if (wrap64 ((x0.length : Int) + t216) : Int).toNat ≤ 35184372088832 then (laws_toIntS.l0 k x0 (List.replicate (wrap64 ((x0.length : Int) + t216) : Int).toNat 0) 0) else (none)) else (none)))
def laws_toIntS.l0 : Nat → List Int → List Int → Int → Option (List Int)
  | 0, _, _, _ => none
  | k + 1, x0, x5, x6 => if x6 < (x0.length : Int) then (if 0 ≤ x6 then (if x6 < (x5.length : Int) then (laws_toIntS.l0 k x0 (x5.set (x6 : Int).toNat (rd x0 x6)) (wrap64 (x6 + 1))) else (none)) else (none)) else (laws_toIntS.l1 k x0 x5 (x0.length : Int))
def laws_toIntS.l1 : Nat → List Int → List Int → Int → Option (List Int)
  | 0, _, _, _ => none
  | k + 1, x0, x5, x7 => if x7 < (x5.length : Int) then (if 0 ≤ x7 then (laws_toIntS.l1 k x0 (x5.set (x7 : Int).toNat (-7000000000000000101)) (wrap64 (x7 + 1))) else (none)) else (if 0 ≤ (x0.length : Int) then (if (x0.length : Int) ≤ (x5.length : Int) then (some (x5.take ((x0.length : Int) : Int).toNat)) else (none)) else (none))
end
def laws_toIntS.f (k : Nat) (l0 : List Int) (a1 : Bool) : Option (List Int) := if a1 = true then (laws_toIntS.j0 k l0 ((l0.length : Int) == 0)) else (laws_toIntS.j0 k l0 false)
/-! impl_inside -/
def impl_inside.f (a0 : Int) (a1 : Int) (a2 : Int) : Option (Bool) := if a0 ≥ a1 then (some (decide (a0 ≤ a2))) else (some false)
/-! impl_Term_degree -/
def impl_Term_degree.f (a0_0 : Int) (a0_1 : Int) (a0_2 : Int) (a0_3 : Int) : Option (Int) := some (wrap64 ((wrap64 (a0_1 + a0_2)) + a0_3))
/-! impl_hasDegree -/
def impl_hasDegree.f (a0_0 : Int) (a0_1 : Int) (a0_2 : Int) (a0_3 : Int) : Option (Bool) := (impl_inside.f a0_1 0 4).bind fun t228 => (if t228 = true then ((impl_inside.f a0_2 0 4).bind fun t229 => (if t229 = true then ((impl_inside.f a0_3 0 4).bind fun t230 => (if t230 = true then ((impl_Term_degree.f a0_0 a0_1 a0_2 a0_3).bind fun t231 => (some (decide (t231 ≤ 4)))) else (some false))) else (some false))) else (some false))
/-! cmp_Or_int -/
def cmp_Or_int.l0 : Nat → Int → List Int → Int → Int → Option (Int)
  | 0, _, _, _, _ => none
  | k + 1, x3, x6, x7, x8 => if x8 < x7 then (if 0 ≤ x8 then (if x8 < (x6.length : Int) then (if (rd x6 x8) = x3 then (cmp_Or_int.l0 k x3 x6 x7 (wrap64 (x8 + 1))) else (some (rd x6 x8))) else (none)) else (none)) else (some x3)
def cmp_Or_int.f (k : Nat) (l0 : List Int) : Option (Int) := cmp_Or_int.l0 k 0 l0 (l0.length : Int) 0
/-! cmp_isNaN_int -/
def cmp_isNaN_int.f (a0 : Int) : Option (Bool) := some (a0 != a0)
/-! cmp_Compare_int -/
def cmp_Compare_int.f (a0 : Int) (a1 : Int) : Option (Int) := (cmp_isNaN_int.f a0).bind fun t233 => ((cmp_isNaN_int.f a1).bind fun t234 => (if t233 = true then (if t234 = true then (some 0) else (some (-1))) else (if t234 = true then (some 1) else (if a0 < a1 then (some (-1)) else (if a0 > a1 then (some 1) else (some 0))))))
/-! impl_compareTerms -/
def impl_compareTerms.f (k : Nat) (a0_0 : Int) (a0_1 : Int) (a0_2 : Int) (a0_3 : Int) (a1_0 : Int) (a1_1 : Int) (a1_2 : Int) (a1_3 : Int) : Option (Int) := (cmp_Compare_int.f a0_1 a1_1).bind fun t237 => ((cmp_Compare_int.f a0_2 a1_2).bind fun t238 => ((cmp_Compare_int.f a0_3 a1_3).bind fun t239 => ((cmp_Or_int.f k (([t237, t238, t239] : List Int))).bind fun t243 => (some t243))))
/-! impl_isPoly -/
def impl_isPoly.l0 : Nat → List (S51) → List (S51) → Int → Int → Option (Bool)
  | 0, _, _, _, _ => none
  | k + 1, x0, x5, x6, x7 => if x7 < x6 then (if 0 ≤ x7 then (if x7 < (x5.length : Int) then (if ((rd_T51 x5 x7).f0) = 0 then (some false) else ((impl_inside.f ((rd_T51 x5 x7).f0) (-1000) 1000).bind fun t246 => (if t246 = true then ((impl_hasDegree.f ((rd_T51 x5 x7).f0) ((rd_T51 x5 x7).f1) ((rd_T51 x5 x7).f2) ((rd_T51 x5 x7).f3)).bind fun t247 => (if t247 = true then (if x7 > 0 then (if 0 ≤ (wrap64 (x7 - 1)) then (if (wrap64 (x7 - 1)) < (x0.length : Int) then ((impl_compareTerms.f k ((rd_T51 x0 (wrap64 (x7 - 1))).f0) ((rd_T51 x0 (wrap64 (x7 - 1))).f1) ((rd_T51 x0 (wrap64 (x7 - 1))).f2) ((rd_T51 x0 (wrap64 (x7 - 1))).f3) ((rd_T51 x5 x7).f0) ((rd_T51 x5 x7).f1) ((rd_T51 x5 x7).f2) ((rd_T51 x5 x7).f3)).bind fun t249 => (if t249 ≥ 0 then (some false) else (impl_isPoly.l0 k x0 x5 x6 (wrap64 (x7 + 1))))) else (none)) else (none)) else (impl_isPoly.l0 k x0 x5 x6 (wrap64 (x7 + 1)))) else (some false))) else (some false)))) else (none)) else (none)) else (some (decide ((x0.length : Int) ≤ 20)))
def impl_isPoly.f (k : Nat) (l0 : List (S51)) : Option (Bool) := impl_isPoly.l0 k l0 l0 (l0.length : Int) 0
/-! slices_Equal_int_int -/
def slices_Equal_int_int.l0 : Nat → List Int → List Int → Int → Int → Option (Bool)
  | 0, _, _, _, _ => none
  | k + 1, x0, x1, x12, x13 => if x13 < x12 then (if 0 ≤ x13 then (if x13 < (x0.length : Int) then (if x13 < (x1.length : Int) then (if (rd x0 x13) = (rd x1 x13) then (slices_Equal_int_int.l0 k x0 x1 x12 (wrap64 (x13 + 1))) else (some false)) else (none)) else (none)) else (none)) else (some true)
def slices_Equal_int_int.f (k : Nat) (l0 : List Int) (l1 : List Int) : Option (Bool) := if (l0.length : Int) = (l1.length : Int) then (slices_Equal_int_int.l0 k l0 l1 (l0.length : Int) 0) else (some false)
/-! cmp_Less_int -/
/-! slices_insertionSortOrdered_int -/
/-! slices_siftDownOrdered_int -/
/-! slices_heapSortOrdered_int -/
/-! bits_Len32 -/
/-! bits_Len64 -/
/-! bits_Len -/
/-! slices_nextPowerOfTwo -/
/-! slices_reverseRangeOrdered_int -/
/-! slices_partialInsertionSortOrdered_int -/
/-! slices_partitionEqualOrdered_int -/
/-! slices_partitionOrdered_int -/
/-! impl_polyResult -/
def impl_polyResult.f (k : Nat) (l0 : List (S51)) : Option ((List (S51)) × Bool) := (impl_isPoly.f k l0).bind fun t372 => (if t372 = true then (some (l0, true)) else (some (([] : List (S51)), false)))
/-! impl_collect -/
-- HAND rounds=0 making=1
/-- A term, as the plain text on sums takes it. -/
def impl_collect.ops : Go.Proofs.YthanmlojikidbaaCol.Ops S51 := { c := fun s => s.f0, x := fun s => s.f1, y := fun s => s.f2, z := fun s => s.f3, st := fun s n => ⟨n, s.f1, s.f2, s.f3⟩, c_st := fun _ _ => rfl, x_st := fun _ _ => rfl, y_st := fun _ _ => rfl, z_st := fun _ _ => rfl, ext := fun s t h1 h2 h3 h4 => by cases s; cases t; simp_all }
def impl_collect.ok (l : List S51) : Bool := decide (l.length ≤ 1000000) && l.all (fun t => decide (wrap64 t.f0 = t.f0))
def impl_collect.f (l0 : List (S51)) : Option (List (S51)) := if impl_collect.ok l0 = true then some (Go.Proofs.YthanmlojikidbaaCol.sums impl_collect.ops l0) else none
/-! impl_ExchangeUnknowns -/
-- HAND rounds=1 making=1
def impl_ExchangeUnknowns.pt (o : List Int) (x y z j p : Int) : Int := if 1 ≤ j ∧ rd o 0 = p then x else (if 2 ≤ j ∧ rd o 1 = p then y else (if 3 ≤ j ∧ rd o 2 = p then z else 0))
def impl_ExchangeUnknowns.tm (t : S51) (o : List Int) : S51 := ⟨t.f0, impl_ExchangeUnknowns.pt o t.f1 t.f2 t.f3 3 0, impl_ExchangeUnknowns.pt o t.f1 t.f2 t.f3 3 1, impl_ExchangeUnknowns.pt o t.f1 t.f2 t.f3 3 2⟩
def impl_ExchangeUnknowns.perm (o : List Int) : Prop := o = [0, 1, 2] ∨ o = [0, 2, 1] ∨ o = [1, 0, 2] ∨ o = [1, 2, 0] ∨ o = [2, 0, 1] ∨ o = [2, 1, 0]
instance (o : List Int) : Decidable (impl_ExchangeUnknowns.perm o) := by unfold impl_ExchangeUnknowns.perm; infer_instance
def impl_ExchangeUnknowns.l0 : Nat → List S51 → List Int → List S51 → Int → Option (List S51 × Bool)
  | 0, _, _, _, _ => none
  | k + 1, l, o, x, i => if i < (l.length : Int) then (if 0 ≤ i then (if x.length < 4398046511104 then impl_ExchangeUnknowns.l0 k l o (x ++ [impl_ExchangeUnknowns.tm (rd_T51 l i) o]) (wrap64 (i + 1)) else none) else none) else (impl_collect.f x).bind fun t => impl_polyResult.f k t
def impl_ExchangeUnknowns.f (k : Nat) (l0 : List (S51)) (l1 : List Int) : Option (List (S51) × Bool) := (impl_isPoly.f k l0).bind fun p => if p = true then (if l1.length < 4398046511104 then ((slices_Equal_int_int.f k (l1.mergeSort fun x y => decide (x ≤ y)) [0, 1, 2]).bind fun q => if q = true then (if impl_ExchangeUnknowns.perm l1 then impl_ExchangeUnknowns.l0 k l0 l1 [] 0 else none) else some ([], false)) else none) else some ([], false)
/-! laws_eqTerm -/
def laws_eqTerm.f (a0_0 : Int) (a0_1 : Int) (a0_2 : Int) (a0_3 : Int) (a1_0 : Int) (a1_1 : Int) (a1_2 : Int) (a1_3 : Int) : Option (Bool) := if a0_0 = a1_0 then (if a0_1 = a1_1 then (if a0_2 = a1_2 then (if a0_3 = a1_3 then (some true) else (some false)) else (some false)) else (some false)) else (some false)
/-! laws_eqTermS -/
def laws_eqTermS.l0 : Nat → List (S51) → List (S51) → Int → Option (Bool)
  | 0, _, _, _ => none
  | k + 1, x0, x1, x5 => if x5 < (x0.length : Int) then (if 0 ≤ x5 then (if x5 < (x1.length : Int) then ((laws_eqTerm.f ((rd_T51 x0 x5).f0) ((rd_T51 x0 x5).f1) ((rd_T51 x0 x5).f2) ((rd_T51 x0 x5).f3) ((rd_T51 x1 x5).f0) ((rd_T51 x1 x5).f1) ((rd_T51 x1 x5).f2) ((rd_T51 x1 x5).f3)).bind fun t377 => (if t377 = true then (laws_eqTermS.l0 k x0 x1 (wrap64 (x5 + 1))) else (some false))) else (none)) else (none)) else (some true)
def laws_eqTermS.f (k : Nat) (l0 : List (S51)) (l1 : List (S51)) : Option (Bool) := if (l0.length : Int) = (l1.length : Int) then (laws_eqTermS.l0 k l0 l1 0) else (some false)
/-! laws_intactTermS -/
-- HAND rounds=0 making=1
/-- Whether two lists are one, their spare cells as toTermS lays them. -/
def laws_intactTermS.f (l0 : List S51) (l1 : List S51) : Option (Bool) := if l0 = l1 then some true else none
/-! laws_eqIntS -/
def laws_eqIntS.l0 : Nat → List Int → List Int → Int → Option (Bool)
  | 0, _, _, _ => none
  | k + 1, x0, x1, x5 => if x5 < (x0.length : Int) then (if 0 ≤ x5 then (if x5 < (x1.length : Int) then (if (rd x0 x5) = (rd x1 x5) then (laws_eqIntS.l0 k x0 x1 (wrap64 (x5 + 1))) else (some false)) else (none)) else (none)) else (some true)
def laws_eqIntS.f (k : Nat) (l0 : List Int) (l1 : List Int) : Option (Bool) := if (l0.length : Int) = (l1.length : Int) then (laws_eqIntS.l0 k l0 l1 0) else (some false)
/-! laws_intactIntS -/
-- HAND rounds=0 making=0
/-- Whether two lists are one, their spare cells as toIntS lays them. -/
def laws_intactIntS.f (l0 : List Int) (l1 : List Int) : Option (Bool) := if l0 = l1 then some true else none
/-! laws_markTermS -/
def laws_markTermS.l0 : Nat → List (S51) → Int → Int → Option (Int × (List (S51)))
  | 0, _, _, _ => none
  | k + 1, x0, x1, x5 => if x5 < (x0.length : Int) then (if 0 ≤ x5 then ((some (x0.set (x5 : Int).toNat (⟨x1, (rd_T51 x0 x5).f1, (rd_T51 x0 x5).f2, (rd_T51 x0 x5).f3⟩ : S51) : List (S51))).bind fun y380 => ((some (y380.set (x5 : Int).toNat (⟨(rd_T51 y380 x5).f0, wrap64 (x1 + 1), (rd_T51 y380 x5).f2, (rd_T51 y380 x5).f3⟩ : S51) : List (S51))).bind fun y381 => ((some (y381.set (x5 : Int).toNat (⟨(rd_T51 y381 x5).f0, (rd_T51 y381 x5).f1, wrap64 ((wrap64 (x1 + 1)) + 1), (rd_T51 y381 x5).f3⟩ : S51) : List (S51))).bind fun y382 => (laws_markTermS.l0 k (y382.set (x5 : Int).toNat (⟨(rd_T51 y382 x5).f0, (rd_T51 y382 x5).f1, (rd_T51 y382 x5).f2, wrap64 ((wrap64 ((wrap64 (x1 + 1)) + 1)) + 1)⟩ : S51)) (wrap64 ((wrap64 ((wrap64 ((wrap64 (x1 + 1)) + 1)) + 1)) + 1)) (wrap64 (x5 + 1)))))) else (none)) else (some (x1, x0))
def laws_markTermS.f (k : Nat) (l0 : List (S51)) (a1 : Int) : Option (Int × (List (S51))) := laws_markTermS.l0 k l0 a1 0
/-! laws_markIntS -/
def laws_markIntS.l0 : Nat → List Int → Int → Int → Option (Int × List Int)
  | 0, _, _, _ => none
  | k + 1, x0, x1, x5 => if x5 < (x0.length : Int) then (if 0 ≤ x5 then (laws_markIntS.l0 k (x0.set (x5 : Int).toNat x1) (wrap64 (x1 + 1)) (wrap64 (x5 + 1))) else (none)) else (some (x1, x0))
def laws_markIntS.f (k : Nat) (l0 : List Int) (a1 : Int) : Option (Int × List Int) := laws_markIntS.l0 k l0 a1 0
/-! laws_heldTermS -/
def laws_heldTermS.l0 : Nat → List (S51) → Int → Int → Option (Int)
  | 0, _, _, _ => none
  | k + 1, x0, x1, x5 => if x5 < (x0.length : Int) then (if 0 ≤ x5 then (if ((rd_T51 x0 x5).f0) = x1 then (if ((rd_T51 x0 x5).f1) = (wrap64 (x1 + 1)) then (if ((rd_T51 x0 x5).f2) = (wrap64 ((wrap64 (x1 + 1)) + 1)) then (if ((rd_T51 x0 x5).f3) = (wrap64 ((wrap64 ((wrap64 (x1 + 1)) + 1)) + 1)) then (laws_heldTermS.l0 k x0 (wrap64 ((wrap64 ((wrap64 ((wrap64 (x1 + 1)) + 1)) + 1)) + 1)) (wrap64 (x5 + 1))) else (some (-1))) else (some (-1))) else (some (-1))) else (some (-1))) else (none)) else (some x1)
def laws_heldTermS.f (k : Nat) (l0 : List (S51)) (a1 : Int) : Option (Int) := laws_heldTermS.l0 k l0 a1 0
/-! laws_FnExactExchangeUnknowns -/
def laws_FnExactExchangeUnknowns.f (k : Nat) (l0 : List (S53)) (l1 : List Int) : Option (Bool) := (laws_szTermS.f l0 (wrap64 (1000000 - (l1.length : Int)))).bind fun t389 => (if t389 < 0 then (some true) else ((laws_toTermS.f k l0 false).bind fun t390 => ((laws_toIntS.f k l1 false).bind fun t393 => ((spec_ExchangeUnknowns.f k t390 t393).bind fun bt396 => ((laws_toTermS.f k l0 false).bind fun t400 => ((laws_toIntS.f k l1 false).bind fun t403 => ((impl_ExchangeUnknowns.f k t400 t403).bind fun bt406 => ((laws_eqTermS.f k bt406.1 bt396.1).bind fun t410 => (if t410 = true then (if (bt406.2 != bt396.2) = true then (none) else ((laws_toTermS.f k l0 false).bind fun t411 => ((laws_intactTermS.f t400 t411).bind fun t414 => (if t414 = true then ((laws_toIntS.f k l1 false).bind fun t415 => ((laws_intactIntS.f t403 t415).bind fun t418 => (if t418 = true then ((laws_markTermS.f k t400 101).bind fun bt419 => ((laws_markIntS.f k t403 bt419.1).bind fun bt421 => (if bt421.1 < 0 then (none) else ((laws_eqTermS.f k bt406.1 bt396.1).bind fun t423 => (if t423 = true then ((laws_markTermS.f k bt406.1 101).bind fun bt424 => ((laws_heldTermS.f k bt424.2 101).bind fun t426 => (if t426 < 0 then (none) else (if t426 = bt424.1 then ((laws_toTermS.f k l0 true).bind fun t427 => ((laws_toIntS.f k l1 true).bind fun t430 => ((impl_ExchangeUnknowns.f k t427 t430).bind fun bt433 => ((laws_eqTermS.f k bt433.1 bt396.1).bind fun t437 => (if t437 = true then (if (bt433.2 != bt396.2) = true then (none) else ((laws_heldTermS.f k bt424.2 101).bind fun t438 => (if t438 < 0 then (none) else (if t438 = bt424.1 then (some true) else (none))))) else (none)))))) else (none))))) else (none)))))) else (none)))) else (none))))) else (none))))))))))
end Go.Proofs.Ythanmlojikidbaa.PD
