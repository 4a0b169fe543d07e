-- By wip/mk/drv.py
import Derived.Test.YtgaoniapddpaaaaQHalvOfPDx0
namespace Go.Proofs.Ytgaoniapddpaaaa.PD
open Go.RowKit Go.Proofs.YtgaoniapddpaaaaW.PrintWords Go.Proofs.YtgaoniapddpaaaaW.PrintLast Go.Proofs.YtgaoniapddpaaaaW.PrintMore
attribute [local go_sem] max2_int min2_int max_two min_two max_three min_three max_four min_four
set_option linter.unusedVariables false
set_option linter.unusedSimpArgs false
/-! laws_szIntS -/
def laws_szIntS.f (l0 : List Int) (a1 : Int) : Option (Int) := if (wrap64 (a1 - (l0.length : Int))) < 0 then (some (-1)) else (some (wrap64 (a1 - (l0.length : Int))))
/-! laws_szBox -/
def laws_szBox.f (a0_0 : Int) (l0_1 : List Int) (l0_2 : List Int) (a1 : Int) : Option (Int) := (laws_szIntS.f l0_1 a1).bind fun t102 => (if t102 < 0 then (some (-1)) else ((laws_szIntS.f l0_2 t102).bind fun t103 => (if t103 < 0 then (some (-1)) else (some t103))))
/-! laws_roomBehind -/
def laws_roomBehind.f (a0 : Int) : Option (Int) := if (Int.tmod a0 6) = 5 then (some 0) else (if (Int.tmod a0 3) = 0 then (some 1) else (some a0))
/-! laws_toIntS -/
mutual
def laws_toIntS.j0 : Nat → List Int → Bool → Option (List Int)
  | 0, _, _ => none
  | k + 1, x0, x13 => if x13 = true then (some ([] : List Int)) else ((laws_roomBehind.f (x0.length : Int)).bind fun t104 => (if 0 ≤ (wrap64 ((x0.length : Int) + t104)) then (if (wrap64 ((x0.length : Int) + t104) : Int).toNat ≤ 35184372088832 then (laws_toIntS.l0 k x0 (List.replicate (wrap64 ((x0.length : Int) + t104) : Int).toNat 0) 0) else (none)) else (none)))
def laws_toIntS.l0 : Nat → List Int → List Int → Int → Option (List Int)
  | 0, _, _, _ => none
  | k + 1, x0, x5, x6 => if x6 < (x0.length : Int) then (if 0 ≤ x6 then (if x6 < (x5.length : Int) then (laws_toIntS.l0 k x0 (x5.set (x6 : Int).toNat (rd x0 x6)) (wrap64 (x6 + 1))) else (none)) else (none)) else (laws_toIntS.l1 k x0 x5 (x0.length : Int))
def laws_toIntS.l1 : Nat → List Int → List Int → Int → Option (List Int)
  | 0, _, _, _ => none
  | k + 1, x0, x5, x7 => if x7 < (x5.length : Int) then (if 0 ≤ x7 then (laws_toIntS.l1 k x0 (x5.set (x7 : Int).toNat (-7000000000000000101)) (wrap64 (x7 + 1))) else (none)) else (if 0 ≤ (x0.length : Int) then (if (x0.length : Int) ≤ (x5.length : Int) then (some (x5.take ((x0.length : Int) : Int).toNat)) else (none)) else (none))
end
def laws_toIntS.f (k : Nat) (l0 : List Int) (a1 : Bool) : Option (List Int) := if a1 = true then (laws_toIntS.j0 k l0 ((l0.length : Int) == 0)) else (laws_toIntS.j0 k l0 false)
/-! laws_toBox -/
def laws_toBox.f (k : Nat) (a0_0 : Int) (l0_1 : List Int) (l0_2 : List Int) (a1 : Bool) : Option (Int × List Int × List Int) := (laws_toIntS.f k l0_1 a1).bind fun t117 => ((laws_toIntS.f k l0_2 a1).bind fun t120 => (some (a0_0, t117, t120)))
/-! laws_eqIntS -/
def laws_eqIntS.l0 : Nat → List Int → List Int → Int → Option (Bool)
  | 0, _, _, _ => none
  | k + 1, x0, x1, x5 => if x5 < (x0.length : Int) then (if 0 ≤ x5 then (if x5 < (x1.length : Int) then (if (rd x0 x5) = (rd x1 x5) then (laws_eqIntS.l0 k x0 x1 (wrap64 (x5 + 1))) else (some false)) else (none)) else (none)) else (some true)
def laws_eqIntS.f (k : Nat) (l0 : List Int) (l1 : List Int) : Option (Bool) := if (l0.length : Int) = (l1.length : Int) then (laws_eqIntS.l0 k l0 l1 0) else (some false)
/-! laws_intactIntS -/
-- HAND rounds=0 making=0
/-- Whether two lists are one, their spare cells as toIntS lays them. -/
def laws_intactIntS.f (l0 : List Int) (l1 : List Int) : Option (Bool) := if l0 = l1 then some true else none
/-! laws_intactBox -/
def laws_intactBox.f (a0_0 : Int) (l0_1 : List Int) (l0_2 : List Int) (a1_0 : Int) (l1_1 : List Int) (l1_2 : List Int) : Option (Bool) := if a0_0 = a1_0 then ((laws_intactIntS.f l0_1 l1_1).bind fun t127 => (if t127 = true then ((laws_intactIntS.f l0_2 l1_2).bind fun t128 => (if t128 = true then (some true) else (some false))) else (some false))) else (some false)
/-! laws_markIntS -/
def laws_markIntS.l0 : Nat → List Int → Int → Int → Option (Int × List Int)
  | 0, _, _, _ => none
  | k + 1, x0, x1, x5 => if x5 < (x0.length : Int) then (if 0 ≤ x5 then (laws_markIntS.l0 k (x0.set (x5 : Int).toNat x1) (wrap64 (x1 + 1)) (wrap64 (x5 + 1))) else (none)) else (some (x1, x0))
def laws_markIntS.f (k : Nat) (l0 : List Int) (a1 : Int) : Option (Int × List Int) := laws_markIntS.l0 k l0 a1 0
/-! laws_markBox -/
def laws_markBox.f (k : Nat) (a0_0 : Int) (l0_1 : List Int) (l0_2 : List Int) (a1 : Int) : Option (Int × List Int × List Int) := (laws_markIntS.f k l0_1 a1).bind fun bt131 => ((laws_markIntS.f k l0_2 bt131.1).bind fun bt133 => (some (bt133.1, bt131.2, bt133.2)))
/-! spec_l1In -/
def spec_l1In.f (a0 : Int) (a1 : Int) (a2 : Int) : Option (Bool) := if a0 ≥ a1 then (some (decide (a0 ≤ a2))) else (some false)
/-! spec_dyPower -/
def spec_dyPower.f (a0 : Int) : Option (Int) := if 0 ≤ (IntKind.u64.wrap (a0)) then (some (shl .i64 1 (IntKind.u64.wrap (a0)))) else (none)
/-! spec_bxGood -/
mutual
def spec_bxGood.j0 : Nat → Bool → Int → List Int → List Int → Option (Bool)
  | 0, _, _, _, _ => none
  | k + 1, x27, x136000, x136001, x136002 => if x27 = true then (some false) else ((spec_dyPower.f x136000).bind fun t138 => (spec_bxGood.l0 k (wrap64 (8 * t138)) (x136000 == 0) x136001 (x136001.length : Int) 0 x136000 x136001 x136002))
def spec_bxGood.l0 : Nat → Int → Bool → List Int → Int → Int → Int → List Int → List Int → Option (Bool)
  | 0, _, _, _, _, _, _, _, _ => none
  | k + 1, x3, x4, x36, x37, x38, x136000, x136001, x136002 => if x38 < x37 then (if 0 ≤ x38 then (if x38 < (x36.length : Int) then (if x38 < (x136002.length : Int) then ((spec_l1In.f (rd x36 x38) (wrap64 (-x3)) x3).bind fun t141 => (if t141 = true then ((spec_l1In.f (rd x136002 x38) (wrap64 (-x3)) x3).bind fun t142 => (if t142 = true then (if (rd x36 x38) ≥ (rd x136002 x38) then (some false) else (if x4 = true then (spec_bxGood.l0 k x3 true x36 x37 (wrap64 (x38 + 1)) x136000 x136001 x136002) else (if (Int.tmod (rd x36 x38) 2) = 0 then (spec_bxGood.l0 k x3 ((Int.tmod (rd x136002 x38) 2) != 0) x36 x37 (wrap64 (x38 + 1)) x136000 x136001 x136002) else (spec_bxGood.l0 k x3 true x36 x37 (wrap64 (x38 + 1)) x136000 x136001 x136002)))) else (some false))) else (some false))) else (none)) else (none)) else (none)) else (some x4)
end
def spec_bxGood.f (k : Nat) (a0_0 : Int) (l0_1 : List Int) (l0_2 : List Int) : Option (Bool) := (spec_l1In.f a0_0 0 8).bind fun t136 => (if t136 = true then ((spec_l1In.f (l0_1.length : Int) 1 3).bind fun t137 => (if t137 = true then (spec_bxGood.j0 k ((l0_2.length : Int) != (l0_1.length : Int)) a0_0 l0_1 l0_2) else (spec_bxGood.j0 k true a0_0 l0_1 l0_2))) else (spec_bxGood.j0 k true a0_0 l0_1 l0_2))
/-! spec_bxSide -/
def spec_bxSide.f (k : Nat) (a0_0 : Int) (l0_1 : List Int) (l0_2 : List Int) (a1 : Int) : Option (Bool) := (spec_bxGood.f k a0_0 l0_1 l0_2).bind fun t144 => (if t144 = true then ((spec_l1In.f a1 0 (wrap64 ((l0_1.length : Int) - 1))).bind fun t145 => (some t145)) else (some false))
/-! spec_l1Own -/
def spec_l1Own.f (l0 : List Int) : Option (List Int) := (some (([] : List Int) : List Int)).bind fun y146 => (if y146.length + l0.length < 17592186044416 then (some (y146 ++ l0)) else (none))
/-! spec_bxEven -/
def spec_bxEven.l0 : Nat → List Int → Int → Int → Int → List Int → List Int → Option (Bool)
  | 0, _, _, _, _, _, _ => none
  | k + 1, x6, x7, x8, x153000, x153001, x153002 => if x8 < x7 then (if 0 ≤ x8 then (if x8 < (x6.length : Int) then (if (Int.tmod (rd x6 x8) 2) = 0 then (if x8 < (x153002.length : Int) then (if (Int.tmod (rd x153002 x8) 2) = 0 then (spec_bxEven.l0 k x6 x7 (wrap64 (x8 + 1)) x153000 x153001 x153002) else (some false)) else (none)) else (some false)) else (none)) else (none)) else (some true)
def spec_bxEven.f (k : Nat) (a0_0 : Int) (l0_1 : List Int) (l0_2 : List Int) : Option (Bool) := spec_bxEven.l0 k l0_1 (l0_1.length : Int) 0 a0_0 l0_1 l0_2
/-! spec_bxMake -/
mutual
def spec_bxMake.l0 : Nat → Int → List Int → List Int → Option (Int × List Int × List Int × Bool)
  | 0, _, _, _ => none
  | k + 1, x163000, x163001, x163002 => if x163000 > 0 then ((spec_bxEven.f k x163000 x163001 x163002).bind fun t163 => (spec_bxMake.j1 k t163 x163000 x163001 x163002)) else (spec_bxMake.j1 k false x163000 x163001 x163002)
def spec_bxMake.j1 : Nat → Bool → Int → List Int → List Int → Option (Int × List Int × List Int × Bool)
  | 0, _, _, _, _ => none
  | k + 1, x22, x163000, x163001, x163002 => if x22 = true then (spec_bxMake.l1 k (x163001.length : Int) 0 (wrap64 (x163000 - 1)) x163001 x163002) else ((spec_bxGood.f k x163000 x163001 x163002).bind fun t164 => (if t164 = true then (some (x163000, x163001, x163002, true)) else (some (0, ([] : List Int), ([] : List Int), false))))
def spec_bxMake.l1 : Nat → Int → Int → Int → List Int → List Int → Option (Int × List Int × List Int × Bool)
  | 0, _, _, _, _, _ => none
  | k + 1, x29, x30, x163000, x163001, x163002 => if x30 < x29 then (if 0 ≤ x30 then (if x30 < (x163001.length : Int) then (if x30 < (x163002.length : Int) then (spec_bxMake.l1 k x29 (wrap64 (x30 + 1)) x163000 (x163001.set (x30 : Int).toNat (wrap64 (Int.tdiv (rd x163001 x30) 2))) (x163002.set (x30 : Int).toNat (wrap64 (Int.tdiv (rd x163002 x30) 2)))) else (none)) else (none)) else (none)) else (spec_bxMake.l0 k x163000 x163001 x163002)
end
def spec_bxMake.f (k : Nat) (a0 : Int) (l1 : List Int) (l2 : List Int) : Option (Int × List Int × List Int × Bool) := (spec_l1Own.f l1).bind fun t156 => ((spec_l1Own.f l2).bind fun t159 => (spec_bxMake.l0 k a0 t156 t159))
/-! spec_bxFine -/
def spec_bxFine.l0 : Nat → List Int → List Int → List Int → Int → Int → Int → List Int → List Int → Option (List Int × List Int)
  | 0, _, _, _, _, _, _, _, _ => none
  | k + 1, x4, x5, x9, x10, x11, x170000, x170001, x170002 => if x11 < x10 then (if 0 ≤ x11 then (if x11 < (x9.length : Int) then (if x4.length < 17592186044416 then (if x11 < (x170002.length : Int) then (if x5.length < 17592186044416 then (spec_bxFine.l0 k (x4 ++ [wrap64 (2 * (rd x9 x11))]) (x5 ++ [wrap64 (2 * (rd x170002 x11))]) x9 x10 (wrap64 (x11 + 1)) x170000 x170001 x170002) else (none)) else (none)) else (none)) else (none)) else (none)) else (some (x4, x5))
def spec_bxFine.f (k : Nat) (a0_0 : Int) (l0_1 : List Int) (l0_2 : List Int) : Option (List Int × List Int) := spec_bxFine.l0 k ([] : List Int) ([] : List Int) l0_1 (l0_1.length : Int) 0 a0_0 l0_1 l0_2
/-! spec_bxHalves -/
-- HAND rounds=1 making=1
def spec_bxHalves.f (k : Nat) (a0_0 : Int) (l0_1 : List Int) (l0_2 : List Int) (a1 : Int) : Option ((List (S27)) × Bool) := (spec_bxFine.f k a0_0 l0_1 l0_2).bind fun bt179 => (if 0 ≤ a1 then (if a1 < (l0_1.length : Int) then (if a1 < (l0_2.length : Int) then ((spec_l1Own.f bt179.1).bind fun t187 => ((spec_l1Own.f bt179.2).bind fun t190 => (if a1 < (t187.length : Int) then (if a1 < (t190.length : Int) then ((spec_bxMake.f k (wrap64 (a0_0 + 1)) bt179.1 (t190.set (a1 : Int).toNat (wrap64 ((rd l0_1 a1) + (rd l0_2 a1))))).bind fun bt195 => ((spec_bxMake.f k (wrap64 (a0_0 + 1)) (t187.set (a1 : Int).toNat (wrap64 ((rd l0_1 a1) + (rd l0_2 a1)))) bt179.2).bind fun bt204 => (if bt195.2.2.2 = true then (if bt204.2.2.2 = true then (some ((([(⟨bt195.1, bt195.2.1, bt195.2.2.1⟩ : S27), (⟨bt204.1, bt204.2.1, bt204.2.2.1⟩ : S27)] : List (S27))), true)) else (some (([] : List (S27)), false))) else (some (([] : List (S27)), false))))) else (none)) else (none)))) else (none)) else (none)) else (none))
/-! spec_HalvesOf -/
-- HAND rounds=1 making=1
def spec_HalvesOf.f (k : Nat) (a0_0 : Int) (l0_1 : List Int) (l0_2 : List Int) (a1 : Int) : Option ((List (S27)) × Bool) := (spec_bxSide.f k a0_0 l0_1 l0_2 a1).bind fun t179 => (if t179 = true then ((spec_bxHalves.f k a0_0 l0_1 l0_2 a1).bind fun bt180 => (some (bt180.1, bt180.2))) else (some (([] : List (S27)), false)))
/-! impl_inside -/
def impl_inside.f (a0 : Int) (a1 : Int) (a2 : Int) : Option (Bool) := if a0 ≥ a1 then (some (decide (a0 ≤ a2))) else (some false)
/-! impl_isBox -/
mutual
def impl_isBox.j0 : Nat → Bool → Int → List Int → List Int → Option (Bool × Int)
  | 0, _, _, _, _ => none
  | k + 1, x34, x1000, x1001, x1002 => if x34 = true then (some (false, x1000)) else (if 0 ≤ x1000 then (impl_isBox.l0 k (shl .i64 8 x1000) (x1000 == 0) x1001 (x1001.length : Int) 0 x1000 x1001 x1002) else (none))
def impl_isBox.l0 : Nat → Int → Bool → List Int → Int → Int → Int → List Int → List Int → Option (Bool × Int)
  | 0, _, _, _, _, _, _, _, _ => none
  | k + 1, x3, x4, x48, x49, x50, x1000, x1001, x1002 => if x50 < x49 then (if 0 ≤ x50 then (if x50 < (x48.length : Int) then ((impl_inside.f (rd x48 x50) (wrap64 (-x3)) x3).bind fun t181 => (if t181 = true then (if x50 < (x1002.length : Int) then ((impl_inside.f (rd x1002 x50) (wrap64 ((rd x48 x50) + 1)) x3).bind fun t183 => (if t183 = true then (if x4 = true then (impl_isBox.l0 k x3 true x48 x49 (wrap64 (x50 + 1)) x1000 x1001 x1002) else (if (Int.tmod (rd x48 x50) 2) = 0 then (impl_isBox.l0 k x3 ((Int.tmod (rd x1002 x50) 2) != 0) x48 x49 (wrap64 (x50 + 1)) x1000 x1001 x1002) else (impl_isBox.l0 k x3 true x48 x49 (wrap64 (x50 + 1)) x1000 x1001 x1002))) else (some (false, x1000)))) else (none)) else (some (false, x1000)))) else (none)) else (none)) else (some (x4, x1000))
end
def impl_isBox.f (k : Nat) (s0_0 : Int) (s0_1 : List Int) (s0_2 : List Int) : Option (Bool × Int) := (impl_inside.f s0_0 0 8).bind fun t178 => (if t178 = true then ((impl_inside.f (s0_1.length : Int) 1 3).bind fun t179 => (if t179 = true then (impl_isBox.j0 k ((s0_2.length : Int) != (s0_1.length : Int)) s0_0 s0_1 s0_2) else (impl_isBox.j0 k true s0_0 s0_1 s0_2))) else (impl_isBox.j0 k true s0_0 s0_1 s0_2))
/-! impl_Box_has -/
def impl_Box_has.f (s0_0 : Int) (s0_1 : List Int) (s0_2 : List Int) (a1 : Int) : Option (Bool × Int) := (impl_inside.f a1 0 (wrap64 ((s0_1.length : Int) - 1))).bind fun t185 => (some (t185, s0_0))
/-! slices_Clone_int_int -/
-- HAND rounds=0 making=1
def slices_Clone_int_int.f (l0 : List Int) : Option (List Int) := (some (([] : List Int) : List Int)).bind fun y227 => (if y227.length + l0.length < 17592186044416 then (some (y227 ++ l0)) else (none))
/-! impl_boxOf -/
-- HAND rounds=1 making=1
/-- Whether a number is odd. -/
def impl_boxOf.p (n : Int) : Bool := (Int.tmod n 2) != 0
def impl_boxOf.ix : Nat → List Int → Int → Option Int
  | 0, _, _ => none
  | k + 1, l, i => if i < (l.length : Int) then (if 0 ≤ i then (if impl_boxOf.p (rd l i) = true then some i else impl_boxOf.ix k l (wrap64 (i + 1))) else none) else some (-1)
def impl_boxOf.hv : Nat → Int → List Int → Int → Option (List Int)
  | 0, _, _, _ => none
  | k + 1, n, x, i => if i < n then (if 0 ≤ i then (if i < (x.length : Int) then impl_boxOf.hv k n (x.set (i : Int).toNat (wrap64 (Int.tdiv (rd x i) 2))) (wrap64 (i + 1)) else none) else none) else some x
def impl_boxOf.fin (k : Nat) (K : Int) (L H : List Int) : Option (Int × List Int × List Int × Bool) := (impl_isBox.f k K L H).bind fun p => if p.1 = true then some (K, L, H, true) else some (0, [], [], false)
def impl_boxOf.l0 : Nat → Int → List Int → List Int → Option (Int × List Int × List Int × Bool)
  | 0, _, _, _ => none
  | k + 1, K, L, H => if K > 0 then (if L.length + H.length < 17592186044416 then ((impl_boxOf.ix k (L ++ H) 0).bind fun r => if r ≥ 0 then impl_boxOf.fin k K L H else ((impl_boxOf.hv k (L.length : Int) L 0).bind fun x => (impl_boxOf.hv k (H.length : Int) H 0).bind fun y => impl_boxOf.l0 k (wrap64 (K - 1)) x y)) else none) else impl_boxOf.fin k K L H
def impl_boxOf.f (k : Nat) (a0 : Int) (l1 : List Int) (l2 : List Int) : Option (Int × List Int × List Int × Bool) := if l1.length + l2.length < 17592186044416 then impl_boxOf.l0 k a0 l1 l2 else none
/-! impl_scaled -/
def impl_scaled.l0 : Nat → Int → List Int → List Int → Int → Int → Option (List Int)
  | 0, _, _, _, _, _ => none
  | k + 1, x1, x5, x8, x9, x10 => if x10 < x9 then (if 0 ≤ x10 then (if x10 < (x8.length : Int) then (if 0 ≤ x1 then (if x5.length < 17592186044416 then (impl_scaled.l0 k x1 (x5 ++ [shl .i64 (rd x8 x10) x1]) x8 x9 (wrap64 (x10 + 1))) else (none)) else (none)) else (none)) else (none)) else (some x5)
def impl_scaled.f (k : Nat) (l0 : List Int) (a1 : Int) : Option (List Int) := impl_scaled.l0 k a1 ([] : List Int) l0 (l0.length : Int) 0
/-! impl_Box_halves -/
-- HAND rounds=1 making=1
def impl_Box_halves.g (k : Nat) (a0_0 : Int) (l0_1 : List Int) (l0_2 : List Int) (a1 : Int) : Option ((List (S27)) × Bool) := (impl_scaled.f k l0_1 1).bind fun t242 => ((impl_scaled.f k l0_2 1).bind fun t245 => (if 0 ≤ a1 then (if a1 < (l0_1.length : Int) then (if a1 < (l0_2.length : Int) then ((slices_Clone_int_int.f t245).bind fun t250 => ((slices_Clone_int_int.f t242).bind fun t253 => (if a1 < (t250.length : Int) then (if a1 < (t253.length : Int) then ((impl_boxOf.f k (wrap64 (a0_0 + 1)) t242 (t250.set (a1 : Int).toNat (wrap64 ((rd l0_1 a1) + (rd l0_2 a1))))).bind fun bt258 => ((impl_boxOf.f k (wrap64 (a0_0 + 1)) (t253.set (a1 : Int).toNat (wrap64 ((rd l0_1 a1) + (rd l0_2 a1)))) t245).bind fun bt267 => (if bt258.2.2.2 = true then (if bt267.2.2.2 = true then (some ((([(⟨bt258.1, bt258.2.1, bt258.2.2.1⟩ : S27), (⟨bt267.1, bt267.2.1, bt267.2.2.1⟩ : S27)] : List (S27))), true)) else (some (([] : List (S27)), false))) else (some (([] : List (S27)), false))))) else (none)) else (none)))) else (none)) else (none)) else (none)))
def impl_Box_halves.f (k : Nat) (s0_0 : Int) (s0_1 : List Int) (s0_2 : List Int) (a1 : Int) : Option (List (S27) × Bool × Int) := (impl_Box_halves.g k s0_0 s0_1 s0_2 a1).bind fun u => some (u.1, u.2, s0_0)
/-! impl_HalvesOf -/
-- HAND rounds=1 making=1
def impl_HalvesOf.f (k : Nat) (a0_0 : Int) (l0_1 : List Int) (l0_2 : List Int) (a1 : Int) : Option ((List (S27)) × Bool) := (impl_isBox.f k a0_0 l0_1 l0_2).bind fun bt236 => (if bt236.1 = true then ((impl_Box_has.f bt236.2 l0_1 l0_2 a1).bind fun bt238 => (if bt238.1 = true then ((impl_Box_halves.f k bt238.2 l0_1 l0_2 a1).bind fun bt240 => (some (bt240.1, bt240.2.1))) else (some (([] : List (S27)), false)))) else (some (([] : List (S27)), false)))
/-! laws_eqBox -/
def laws_eqBox.f (k : Nat) (a0_0 : Int) (l0_1 : List Int) (l0_2 : List Int) (a1_0 : Int) (l1_1 : List Int) (l1_2 : List Int) : Option (Bool) := if a0_0 = a1_0 then ((laws_eqIntS.f k l0_1 l1_1).bind fun t193 => (if t193 = true then ((laws_eqIntS.f k l0_2 l1_2).bind fun t194 => (if t194 = true then (some true) else (some false))) else (some false))) else (some false)
/-! laws_eqBoxS -/
def laws_eqBoxS.l0 : Nat → List (S27) → List (S27) → Int → Option (Bool)
  | 0, _, _, _ => none
  | k + 1, x0, x1, x5 => if x5 < (x0.length : Int) then (if 0 ≤ x5 then (if x5 < (x1.length : Int) then ((laws_eqBox.f k ((rd_T27 x0 x5).f0) ((rd_T27 x0 x5).f1) ((rd_T27 x0 x5).f2) ((rd_T27 x1 x5).f0) ((rd_T27 x1 x5).f1) ((rd_T27 x1 x5).f2)).bind fun t197 => (if t197 = true then (laws_eqBoxS.l0 k x0 x1 (wrap64 (x5 + 1))) else (some false))) else (none)) else (none)) else (some true)
def laws_eqBoxS.f (k : Nat) (l0 : List (S27)) (l1 : List (S27)) : Option (Bool) := if (l0.length : Int) = (l1.length : Int) then (laws_eqBoxS.l0 k l0 l1 0) else (some false)
/-! laws_markBoxS -/
-- HAND rounds=1 making=1
def laws_markBoxS.l0 : Nat → List (S27) → Int → Int → Option (Int × List (S27))
  | 0, _, _, _ => none
  | k + 1, x0, x1, x5 => if x5 < (x0.length : Int) then (if 0 ≤ x5 then ((laws_markIntS.f k (rd_T27 x0 x5).f1 (wrap64 (x1 + 1))).bind fun t => (laws_markIntS.f k (rd_T27 x0 x5).f2 t.1).bind fun u => (laws_markBoxS.l0 k (x0.set x5.toNat (⟨x1, t.2, u.2⟩ : S27)) u.1 (wrap64 (x5 + 1)))) else (none)) else (some (x1, x0))
def laws_markBoxS.f (k : Nat) (l0 : List (S27)) (a1 : Int) : Option (Int × List (S27)) := laws_markBoxS.l0 k l0 a1 0
/-! laws_heldIntS -/
def laws_heldIntS.l0 : Nat → List Int → Int → Int → Option (Int)
  | 0, _, _, _ => none
  | k + 1, x0, x1, x5 => if x5 < (x0.length : Int) then (if 0 ≤ x5 then (if (rd x0 x5) = x1 then (laws_heldIntS.l0 k x0 (wrap64 (x1 + 1)) (wrap64 (x5 + 1))) else (some (-1))) else (none)) else (some x1)
def laws_heldIntS.f (k : Nat) (l0 : List Int) (a1 : Int) : Option (Int) := laws_heldIntS.l0 k l0 a1 0
/-! laws_heldBoxS -/
def laws_heldBoxS.l0 : Nat → List (S27) → Int → Int → Option (Int)
  | 0, _, _, _ => none
  | k + 1, x0, x1, x5 => if x5 < (x0.length : Int) then (if 0 ≤ x5 then (if ((rd_T27 x0 x5).f0) = x1 then ((laws_heldIntS.f k ((rd_T27 x0 x5).f1) (wrap64 (x1 + 1))).bind fun t201 => (if t201 < 0 then (some (-1)) else ((laws_heldIntS.f k ((rd_T27 x0 x5).f2) t201).bind fun t203 => (if t203 < 0 then (some (-1)) else (laws_heldBoxS.l0 k x0 t203 (wrap64 (x5 + 1))))))) else (some (-1))) else (none)) else (some x1)
def laws_heldBoxS.f (k : Nat) (l0 : List (S27)) (a1 : Int) : Option (Int) := laws_heldBoxS.l0 k l0 a1 0
/-! laws_FnExactHalvesOf -/
-- HAND rounds=1 making=1
def laws_FnExactHalvesOf.f (k : Nat) (a0_0 : Int) (l0_1 : List Int) (l0_2 : List Int) (a1 : Int) : Option (Bool) := (laws_szBox.f a0_0 l0_1 l0_2 1000000).bind fun t205 => (if t205 < 0 then (some true) else ((laws_toBox.f k a0_0 l0_1 l0_2 false).bind fun bt206 => ((spec_HalvesOf.f k bt206.1 bt206.2.1 bt206.2.2 a1).bind fun bt213 => ((laws_toBox.f k a0_0 l0_1 l0_2 false).bind fun bt217 => ((impl_HalvesOf.f k bt217.1 bt217.2.1 bt217.2.2 a1).bind fun bt225 => ((laws_eqBoxS.f k bt225.1 bt213.1).bind fun t229 => (if t229 = true then (if (bt225.2 != bt213.2) = true then (none) else ((laws_toBox.f k a0_0 l0_1 l0_2 false).bind fun bt230 => ((laws_intactBox.f bt217.1 bt217.2.1 bt217.2.2 bt230.1 bt230.2.1 bt230.2.2).bind fun t237 => (if t237 = true then ((laws_markBox.f k bt217.1 bt217.2.1 bt217.2.2 101).bind fun bt238 => (if bt238.1 < 0 then (none) else ((laws_eqBoxS.f k bt225.1 bt213.1).bind fun t241 => (if t241 = true then ((laws_markBoxS.f k bt225.1 101).bind fun bt242 => ((laws_heldBoxS.f k bt242.2 101).bind fun t243 => (if t243 < 0 then (none) else (if t243 = bt242.1 then ((laws_toBox.f k a0_0 l0_1 l0_2 true).bind fun bt244 => ((impl_HalvesOf.f k bt244.1 bt244.2.1 bt244.2.2 a1).bind fun bt251 => ((laws_eqBoxS.f k bt251.1 bt213.1).bind fun t255 => (if t255 = true then (if (bt251.2 != bt213.2) = true then (none) else ((laws_heldBoxS.f k bt242.2 101).bind fun t256 => (if t256 < 0 then (none) else (if t256 = bt242.1 then (some true) else (none))))) else (none))))) else (none))))) else (none))))) else (none))))) else (none))))))))
end Go.Proofs.Ytgaoniapddpaaaa.PD
