-- By wip/mk/drv.py
import Derived.Test.YtgaoniapddpaaaaQCommoxPDx0
namespace Go.Proofs.Ytgaoniapddpaaaa.PD
open Go.RowKit Go.Proofs.YtgaoniapddpaaaaW.PrintWords Go.Proofs.YtgaoniapddpaaaaW.PrintLast Go.Proofs.YtgaoniapddpaaaaW.PrintMore
attribute [local go_sem] max2_int min2_int max_two min_two max_three min_three max_four min_four
set_option linter.unusedVariables false
set_option linter.unusedSimpArgs false
/-! laws_szIntS -/
def laws_szIntS.f (l0 : List Int) (a1 : Int) : Option (Int) := if (wrap64 (a1 - (l0.length : Int))) < 0 then (some (-1)) else (some (wrap64 (a1 - (l0.length : Int))))
/-! laws_szBox -/
def laws_szBox.f (a0_0 : Int) (l0_1 : List Int) (l0_2 : List Int) (a1 : Int) : Option (Int) := (laws_szIntS.f l0_1 a1).bind fun t102 => (if t102 < 0 then (some (-1)) else ((laws_szIntS.f l0_2 t102).bind fun t103 => (if t103 < 0 then (some (-1)) else (some t103))))
/-! laws_roomBehind -/
def laws_roomBehind.f (a0 : Int) : Option (Int) := if (Int.tmod a0 6) = 5 then (some 0) else (if (Int.tmod a0 3) = 0 then (some 1) else (some a0))
/-! laws_toIntS -/
mutual
def laws_toIntS.j0 : Nat → List Int → Bool → Option (List Int)
  | 0, _, _ => none
  | k + 1, x0, x13 => if x13 = true then (some ([] : List Int)) else ((laws_roomBehind.f (x0.length : Int)).bind fun t104 => (if 0 ≤ (wrap64 ((x0.length : Int) + t104)) then (if (wrap64 ((x0.length : Int) + t104) : Int).toNat ≤ 35184372088832 then (laws_toIntS.l0 k x0 (List.replicate (wrap64 ((x0.length : Int) + t104) : Int).toNat 0) 0) else (none)) else (none)))
def laws_toIntS.l0 : Nat → List Int → List Int → Int → Option (List Int)
  | 0, _, _, _ => none
  | k + 1, x0, x5, x6 => if x6 < (x0.length : Int) then (if 0 ≤ x6 then (if x6 < (x5.length : Int) then (laws_toIntS.l0 k x0 (x5.set (x6 : Int).toNat (rd x0 x6)) (wrap64 (x6 + 1))) else (none)) else (none)) else (laws_toIntS.l1 k x0 x5 (x0.length : Int))
def laws_toIntS.l1 : Nat → List Int → List Int → Int → Option (List Int)
  | 0, _, _, _ => none
  | k + 1, x0, x5, x7 => if x7 < (x5.length : Int) then (if 0 ≤ x7 then (laws_toIntS.l1 k x0 (x5.set (x7 : Int).toNat (-7000000000000000101)) (wrap64 (x7 + 1))) else (none)) else (if 0 ≤ (x0.length : Int) then (if (x0.length : Int) ≤ (x5.length : Int) then (some (x5.take ((x0.length : Int) : Int).toNat)) else (none)) else (none))
end
def laws_toIntS.f (k : Nat) (l0 : List Int) (a1 : Bool) : Option (List Int) := if a1 = true then (laws_toIntS.j0 k l0 ((l0.length : Int) == 0)) else (laws_toIntS.j0 k l0 false)
/-! laws_toBox -/
def laws_toBox.f (k : Nat) (a0_0 : Int) (l0_1 : List Int) (l0_2 : List Int) (a1 : Bool) : Option (Int × List Int × List Int) := (laws_toIntS.f k l0_1 a1).bind fun t117 => ((laws_toIntS.f k l0_2 a1).bind fun t120 => (some (a0_0, t117, t120)))
/-! laws_eqIntS -/
def laws_eqIntS.l0 : Nat → List Int → List Int → Int → Option (Bool)
  | 0, _, _, _ => none
  | k + 1, x0, x1, x5 => if x5 < (x0.length : Int) then (if 0 ≤ x5 then (if x5 < (x1.length : Int) then (if (rd x0 x5) = (rd x1 x5) then (laws_eqIntS.l0 k x0 x1 (wrap64 (x5 + 1))) else (some false)) else (none)) else (none)) else (some true)
def laws_eqIntS.f (k : Nat) (l0 : List Int) (l1 : List Int) : Option (Bool) := if (l0.length : Int) = (l1.length : Int) then (laws_eqIntS.l0 k l0 l1 0) else (some false)
/-! laws_intactIntS -/
-- HAND rounds=0 making=0
/-- Whether two lists are one, their spare cells as toIntS lays them. -/
def laws_intactIntS.f (l0 : List Int) (l1 : List Int) : Option (Bool) := if l0 = l1 then some true else none
/-! laws_intactBox -/
def laws_intactBox.f (a0_0 : Int) (l0_1 : List Int) (l0_2 : List Int) (a1_0 : Int) (l1_1 : List Int) (l1_2 : List Int) : Option (Bool) := if a0_0 = a1_0 then ((laws_intactIntS.f l0_1 l1_1).bind fun t127 => (if t127 = true then ((laws_intactIntS.f l0_2 l1_2).bind fun t128 => (if t128 = true then (some true) else (some false))) else (some false))) else (some false)
/-! spec_l1In -/
def spec_l1In.f (a0 : Int) (a1 : Int) (a2 : Int) : Option (Bool) := if a0 ≥ a1 then (some (decide (a0 ≤ a2))) else (some false)
/-! spec_dyPower -/
def spec_dyPower.f (a0 : Int) : Option (Int) := if 0 ≤ (IntKind.u64.wrap (a0)) then (some (shl .i64 1 (IntKind.u64.wrap (a0)))) else (none)
/-! spec_bxGood -/
mutual
def spec_bxGood.j0 : Nat → Bool → Int → List Int → List Int → Option (Bool)
  | 0, _, _, _, _ => none
  | k + 1, x27, x130000, x130001, x130002 => if x27 = true then (some false) else ((spec_dyPower.f x130000).bind fun t132 => (spec_bxGood.l0 k (wrap64 (8 * t132)) (x130000 == 0) x130001 (x130001.length : Int) 0 x130000 x130001 x130002))
def spec_bxGood.l0 : Nat → Int → Bool → List Int → Int → Int → Int → List Int → List Int → Option (Bool)
  | 0, _, _, _, _, _, _, _, _ => none
  | k + 1, x3, x4, x36, x37, x38, x130000, x130001, x130002 => if x38 < x37 then (if 0 ≤ x38 then (if x38 < (x36.length : Int) then (if x38 < (x130002.length : Int) then ((spec_l1In.f (rd x36 x38) (wrap64 (-x3)) x3).bind fun t135 => (if t135 = true then ((spec_l1In.f (rd x130002 x38) (wrap64 (-x3)) x3).bind fun t136 => (if t136 = true then (if (rd x36 x38) ≥ (rd x130002 x38) then (some false) else (if x4 = true then (spec_bxGood.l0 k x3 true x36 x37 (wrap64 (x38 + 1)) x130000 x130001 x130002) else (if (Int.tmod (rd x36 x38) 2) = 0 then (spec_bxGood.l0 k x3 ((Int.tmod (rd x130002 x38) 2) != 0) x36 x37 (wrap64 (x38 + 1)) x130000 x130001 x130002) else (spec_bxGood.l0 k x3 true x36 x37 (wrap64 (x38 + 1)) x130000 x130001 x130002)))) else (some false))) else (some false))) else (none)) else (none)) else (none)) else (some x4)
end
def spec_bxGood.f (k : Nat) (a0_0 : Int) (l0_1 : List Int) (l0_2 : List Int) : Option (Bool) := (spec_l1In.f a0_0 0 8).bind fun t130 => (if t130 = true then ((spec_l1In.f (l0_1.length : Int) 1 3).bind fun t131 => (if t131 = true then (spec_bxGood.j0 k ((l0_2.length : Int) != (l0_1.length : Int)) a0_0 l0_1 l0_2) else (spec_bxGood.j0 k true a0_0 l0_1 l0_2))) else (spec_bxGood.j0 k true a0_0 l0_1 l0_2))
/-! spec_bxTwo -/
def spec_bxTwo.f (k : Nat) (a0_0 : Int) (l0_1 : List Int) (l0_2 : List Int) (a1_0 : Int) (l1_1 : List Int) (l1_2 : List Int) : Option (Bool) := (spec_bxGood.f k a0_0 l0_1 l0_2).bind fun t139 => (if t139 = true then ((spec_bxGood.f k a1_0 l1_1 l1_2).bind fun t140 => (if t140 = true then (some ((l0_1.length : Int) == (l1_1.length : Int))) else (some false))) else (some false))
/-! spec_bxAt -/
def spec_bxAt.l0 : Nat → List Int → List Int → Int → List Int → Int → Int → Int → List Int → List Int → Option (List Int × List Int)
  | 0, _, _, _, _, _, _, _, _, _ => none
  | k + 1, x4, x5, x6, x14, x15, x16, x142000, x142001, x142002 => if x16 < x15 then (if 0 ≤ x16 then (if x16 < (x14.length : Int) then (if x4.length < 17592186044416 then (if x16 < (x142002.length : Int) then (if x5.length < 17592186044416 then (spec_bxAt.l0 k (x4 ++ [wrap64 ((rd x14 x16) * x6)]) (x5 ++ [wrap64 ((rd x142002 x16) * x6)]) x6 x14 x15 (wrap64 (x16 + 1)) x142000 x142001 x142002) else (none)) else (none)) else (none)) else (none)) else (none)) else (some (x4, x5))
def spec_bxAt.f (k : Nat) (a0_0 : Int) (l0_1 : List Int) (l0_2 : List Int) : Option (List Int × List Int) := (spec_dyPower.f (wrap64 (8 - a0_0))).bind fun t142 => (spec_bxAt.l0 k ([] : List Int) ([] : List Int) t142 l0_1 (l0_1.length : Int) 0 a0_0 l0_1 l0_2)
/-! spec_bxIn -/
/-! spec_IsBoxInside -/
/-! impl_inside -/
def impl_inside.f (a0 : Int) (a1 : Int) (a2 : Int) : Option (Bool) := if a0 ≥ a1 then (some (decide (a0 ≤ a2))) else (some false)
/-! impl_isBox -/
mutual
def impl_isBox.j0 : Nat → Bool → Int → List Int → List Int → Option (Bool × Int)
  | 0, _, _, _, _ => none
  | k + 1, x34, x1000, x1001, x1002 => if x34 = true then (some (false, x1000)) else (if 0 ≤ x1000 then (impl_isBox.l0 k (shl .i64 8 x1000) (x1000 == 0) x1001 (x1001.length : Int) 0 x1000 x1001 x1002) else (none))
def impl_isBox.l0 : Nat → Int → Bool → List Int → Int → Int → Int → List Int → List Int → Option (Bool × Int)
  | 0, _, _, _, _, _, _, _, _ => none
  | k + 1, x3, x4, x48, x49, x50, x1000, x1001, x1002 => if x50 < x49 then (if 0 ≤ x50 then (if x50 < (x48.length : Int) then ((impl_inside.f (rd x48 x50) (wrap64 (-x3)) x3).bind fun t176 => (if t176 = true then (if x50 < (x1002.length : Int) then ((impl_inside.f (rd x1002 x50) (wrap64 ((rd x48 x50) + 1)) x3).bind fun t178 => (if t178 = true then (if x4 = true then (impl_isBox.l0 k x3 true x48 x49 (wrap64 (x50 + 1)) x1000 x1001 x1002) else (if (Int.tmod (rd x48 x50) 2) = 0 then (impl_isBox.l0 k x3 ((Int.tmod (rd x1002 x50) 2) != 0) x48 x49 (wrap64 (x50 + 1)) x1000 x1001 x1002) else (impl_isBox.l0 k x3 true x48 x49 (wrap64 (x50 + 1)) x1000 x1001 x1002))) else (some (false, x1000)))) else (none)) else (some (false, x1000)))) else (none)) else (none)) else (some (x4, x1000))
end
def impl_isBox.f (k : Nat) (s0_0 : Int) (s0_1 : List Int) (s0_2 : List Int) : Option (Bool × Int) := (impl_inside.f s0_0 0 8).bind fun t173 => (if t173 = true then ((impl_inside.f (s0_1.length : Int) 1 3).bind fun t174 => (if t174 = true then (impl_isBox.j0 k ((s0_2.length : Int) != (s0_1.length : Int)) s0_0 s0_1 s0_2) else (impl_isBox.j0 k true s0_0 s0_1 s0_2))) else (impl_isBox.j0 k true s0_0 s0_1 s0_2))
/-! impl_scaled -/
def impl_scaled.l0 : Nat → Int → List Int → List Int → Int → Int → Option (List Int)
  | 0, _, _, _, _, _ => none
  | k + 1, x1, x5, x8, x9, x10 => if x10 < x9 then (if 0 ≤ x10 then (if x10 < (x8.length : Int) then (if 0 ≤ x1 then (if x5.length < 17592186044416 then (impl_scaled.l0 k x1 (x5 ++ [shl .i64 (rd x8 x10) x1]) x8 x9 (wrap64 (x10 + 1))) else (none)) else (none)) else (none)) else (none)) else (some x5)
def impl_scaled.f (k : Nat) (l0 : List Int) (a1 : Int) : Option (List Int) := impl_scaled.l0 k a1 ([] : List Int) l0 (l0.length : Int) 0
/-! impl_align -/
-- HAND rounds=1 making=1
/-- The rows of two boxes with a common K. -/
def impl_align.f (k : Nat) (Ka : Int) (La Ma : List Int) (Kb : Int) (Lb Mb : List Int) : Option (List Int × List Int × List Int × List Int) := (impl_scaled.f k La (wrap64 (mx Ka Kb - Ka))).bind fun x1 => (impl_scaled.f k Ma (wrap64 (mx Ka Kb - Ka))).bind fun x2 => (impl_scaled.f k Lb (wrap64 (mx Ka Kb - Kb))).bind fun x3 => (impl_scaled.f k Mb (wrap64 (mx Ka Kb - Kb))).bind fun x4 => some (x1, x2, x3, x4)
/-! impl_IsBoxInside -/
-- HAND rounds=1 making=1
/-! laws_FnExactIsBoxInside -/
/-! spec_l1All -/
/-! spec_l1Own -/
def spec_l1Own.f (l0 : List Int) : Option (List Int) := (some (([] : List Int) : List Int)).bind fun y256 => (if y256.length + l0.length < 17592186044416 then (some (y256 ++ l0)) else (none))
/-! spec_bxEven -/
def spec_bxEven.l0 : Nat → List Int → Int → Int → Int → List Int → List Int → Option (Bool)
  | 0, _, _, _, _, _, _ => none
  | k + 1, x6, x7, x8, x263000, x263001, x263002 => if x8 < x7 then (if 0 ≤ x8 then (if x8 < (x6.length : Int) then (if (Int.tmod (rd x6 x8) 2) = 0 then (if x8 < (x263002.length : Int) then (if (Int.tmod (rd x263002 x8) 2) = 0 then (spec_bxEven.l0 k x6 x7 (wrap64 (x8 + 1)) x263000 x263001 x263002) else (some false)) else (none)) else (some false)) else (none)) else (none)) else (some true)
def spec_bxEven.f (k : Nat) (a0_0 : Int) (l0_1 : List Int) (l0_2 : List Int) : Option (Bool) := spec_bxEven.l0 k l0_1 (l0_1.length : Int) 0 a0_0 l0_1 l0_2
/-! spec_bxMake -/
mutual
def spec_bxMake.l0 : Nat → Int → List Int → List Int → Option (Int × List Int × List Int × Bool)
  | 0, _, _, _ => none
  | k + 1, x273000, x273001, x273002 => if x273000 > 0 then ((spec_bxEven.f k x273000 x273001 x273002).bind fun t273 => (spec_bxMake.j1 k t273 x273000 x273001 x273002)) else (spec_bxMake.j1 k false x273000 x273001 x273002)
def spec_bxMake.j1 : Nat → Bool → Int → List Int → List Int → Option (Int × List Int × List Int × Bool)
  | 0, _, _, _, _ => none
  | k + 1, x22, x273000, x273001, x273002 => if x22 = true then (spec_bxMake.l1 k (x273001.length : Int) 0 (wrap64 (x273000 - 1)) x273001 x273002) else ((spec_bxGood.f k x273000 x273001 x273002).bind fun t274 => (if t274 = true then (some (x273000, x273001, x273002, true)) else (some (0, ([] : List Int), ([] : List Int), false))))
def spec_bxMake.l1 : Nat → Int → Int → Int → List Int → List Int → Option (Int × List Int × List Int × Bool)
  | 0, _, _, _, _, _ => none
  | k + 1, x29, x30, x273000, x273001, x273002 => if x30 < x29 then (if 0 ≤ x30 then (if x30 < (x273001.length : Int) then (if x30 < (x273002.length : Int) then (spec_bxMake.l1 k x29 (wrap64 (x30 + 1)) x273000 (x273001.set (x30 : Int).toNat (wrap64 (Int.tdiv (rd x273001 x30) 2))) (x273002.set (x30 : Int).toNat (wrap64 (Int.tdiv (rd x273002 x30) 2)))) else (none)) else (none)) else (none)) else (spec_bxMake.l0 k x273000 x273001 x273002)
end
def spec_bxMake.f (k : Nat) (a0 : Int) (l1 : List Int) (l2 : List Int) : Option (Int × List Int × List Int × Bool) := (spec_l1Own.f l1).bind fun t266 => ((spec_l1Own.f l2).bind fun t269 => (spec_bxMake.l0 k a0 t266 t269))
/-! spec_BoxOf -/
/-! impl_boxOf -/
-- HAND rounds=1 making=1
/-- Whether a number is odd. -/
def impl_boxOf.p (n : Int) : Bool := (Int.tmod n 2) != 0
def impl_boxOf.ix : Nat → List Int → Int → Option Int
  | 0, _, _ => none
  | k + 1, l, i => if i < (l.length : Int) then (if 0 ≤ i then (if impl_boxOf.p (rd l i) = true then some i else impl_boxOf.ix k l (wrap64 (i + 1))) else none) else some (-1)
def impl_boxOf.hv : Nat → Int → List Int → Int → Option (List Int)
  | 0, _, _, _ => none
  | k + 1, n, x, i => if i < n then (if 0 ≤ i then (if i < (x.length : Int) then impl_boxOf.hv k n (x.set (i : Int).toNat (wrap64 (Int.tdiv (rd x i) 2))) (wrap64 (i + 1)) else none) else none) else some x
def impl_boxOf.fin (k : Nat) (K : Int) (L H : List Int) : Option (Int × List Int × List Int × Bool) := (impl_isBox.f k K L H).bind fun p => if p.1 = true then some (K, L, H, true) else some (0, [], [], false)
def impl_boxOf.l0 : Nat → Int → List Int → List Int → Option (Int × List Int × List Int × Bool)
  | 0, _, _, _ => none
  | k + 1, K, L, H => if K > 0 then (if L.length + H.length < 17592186044416 then ((impl_boxOf.ix k (L ++ H) 0).bind fun r => if r ≥ 0 then impl_boxOf.fin k K L H else ((impl_boxOf.hv k (L.length : Int) L 0).bind fun x => (impl_boxOf.hv k (H.length : Int) H 0).bind fun y => impl_boxOf.l0 k (wrap64 (K - 1)) x y)) else none) else impl_boxOf.fin k K L H
def impl_boxOf.f (k : Nat) (a0 : Int) (l1 : List Int) (l2 : List Int) : Option (Int × List Int × List Int × Bool) := if l1.length + l2.length < 17592186044416 then impl_boxOf.l0 k a0 l1 l2 else none
/-! impl_BoxOf -/
-- HAND rounds=1 making=1
/-- Whether a number is outside. -/
def impl_BoxOf.p (n : Int) : Bool := !((impl_inside.f n (-1099511627776) 1099511627776).getD false)
def impl_BoxOf.ix : Nat → List Int → Int → Option Int
  | 0, _, _ => none
  | k + 1, l, i => if i < (l.length : Int) then (if 0 ≤ i then (if impl_BoxOf.p (rd l i) = true then some i else impl_BoxOf.ix k l (wrap64 (i + 1))) else none) else some (-1)
/-! laws_eqBox -/
def laws_eqBox.f (k : Nat) (a0_0 : Int) (l0_1 : List Int) (l0_2 : List Int) (a1_0 : Int) (l1_1 : List Int) (l1_2 : List Int) : Option (Bool) := if a0_0 = a1_0 then ((laws_eqIntS.f k l0_1 l1_1).bind fun t295 => (if t295 = true then ((laws_eqIntS.f k l0_2 l1_2).bind fun t296 => (if t296 = true then (some true) else (some false))) else (some false))) else (some false)
/-! laws_markIntS -/
def laws_markIntS.l0 : Nat → List Int → Int → Int → Option (Int × List Int)
  | 0, _, _, _ => none
  | k + 1, x0, x1, x5 => if x5 < (x0.length : Int) then (if 0 ≤ x5 then (laws_markIntS.l0 k (x0.set (x5 : Int).toNat x1) (wrap64 (x1 + 1)) (wrap64 (x5 + 1))) else (none)) else (some (x1, x0))
def laws_markIntS.f (k : Nat) (l0 : List Int) (a1 : Int) : Option (Int × List Int) := laws_markIntS.l0 k l0 a1 0
/-! laws_markBox -/
def laws_markBox.f (k : Nat) (a0_0 : Int) (l0_1 : List Int) (l0_2 : List Int) (a1 : Int) : Option (Int × List Int × List Int) := (laws_markIntS.f k l0_1 a1).bind fun bt299 => ((laws_markIntS.f k l0_2 bt299.1).bind fun bt301 => (some (bt301.1, bt299.2, bt301.2)))
/-! laws_heldIntS -/
def laws_heldIntS.l0 : Nat → List Int → Int → Int → Option (Int)
  | 0, _, _, _ => none
  | k + 1, x0, x1, x5 => if x5 < (x0.length : Int) then (if 0 ≤ x5 then (if (rd x0 x5) = x1 then (laws_heldIntS.l0 k x0 (wrap64 (x1 + 1)) (wrap64 (x5 + 1))) else (some (-1))) else (none)) else (some x1)
def laws_heldIntS.f (k : Nat) (l0 : List Int) (a1 : Int) : Option (Int) := laws_heldIntS.l0 k l0 a1 0
/-! laws_heldBox -/
def laws_heldBox.f (k : Nat) (a0_0 : Int) (l0_1 : List Int) (l0_2 : List Int) (a1 : Int) : Option (Int) := (laws_heldIntS.f k l0_1 a1).bind fun t305 => (if t305 < 0 then (some (-1)) else ((laws_heldIntS.f k l0_2 t305).bind fun t306 => (if t306 < 0 then (some (-1)) else (some t306))))
/-! laws_FnExactBoxOf -/
/-! spec_l1Least -/
def spec_l1Least.f (a0 : Int) (a1 : Int) : Option (Int) := if a0 < a1 then (some a0) else (some a1)
/-! spec_l1Most -/
def spec_l1Most.f (a0 : Int) (a1 : Int) : Option (Int) := if a0 > a1 then (some a0) else (some a1)
/-! spec_HullOfBoxes -/
/-! impl_HullOfBoxes -/
-- HAND rounds=1 making=1
/-! laws_FnExactHullOfBoxes -/
/-! spec_bxCommon -/
def spec_bxCommon.l0 : Nat → List Int → List Int → List Int → List Int → Int → Int → Option (Int × List Int × List Int × Bool)
  | 0, _, _, _, _, _, _ => none
  | k + 1, x6, x7, x9, x22, x23, x24 => if x24 < x23 then (if 0 ≤ x24 then (if x24 < (x22.length : Int) then (if x24 < (x6.length : Int) then ((spec_l1Most.f (rd x6 x24) (rd x22 x24)).bind fun t526 => (if x24 < (x7.length : Int) then (if x24 < (x9.length : Int) then ((spec_l1Least.f (rd x7 x24) (rd x9 x24)).bind fun t530 => (spec_bxCommon.l0 k (x6.set (x24 : Int).toNat t526) (x7.set (x24 : Int).toNat t530) x9 x22 x23 (wrap64 (x24 + 1)))) else (none)) else (none))) else (none)) else (none)) else (none)) else ((spec_bxMake.f k 8 x6 x7).bind fun bt532 => (some (bt532.1, bt532.2.1, bt532.2.2.1, bt532.2.2.2)))
def spec_bxCommon.f (k : Nat) (a0_0 : Int) (l0_1 : List Int) (l0_2 : List Int) (a1_0 : Int) (l1_1 : List Int) (l1_2 : List Int) : Option (Int × List Int × List Int × Bool) := (spec_bxAt.f k a0_0 l0_1 l0_2).bind fun bt512 => ((spec_bxAt.f k a1_0 l1_1 l1_2).bind fun bt518 => (spec_bxCommon.l0 k bt512.1 bt512.2 bt518.2 bt518.1 (bt518.1.length : Int) 0))
/-! spec_CommonBox -/
def spec_CommonBox.f (k : Nat) (a0_0 : Int) (l0_1 : List Int) (l0_2 : List Int) (a1_0 : Int) (l1_1 : List Int) (l1_2 : List Int) : Option (Int × List Int × List Int × Bool) := (spec_bxTwo.f k a0_0 l0_1 l0_2 a1_0 l1_1 l1_2).bind fun t543 => (if t543 = true then ((spec_bxCommon.f k a0_0 l0_1 l0_2 a1_0 l1_1 l1_2).bind fun bt544 => (some (bt544.1, bt544.2.1, bt544.2.2.1, bt544.2.2.2))) else (some (0, ([] : List Int), ([] : List Int), false)))
/-! impl_CommonBox -/
-- HAND rounds=1 making=1
/-- The rows of two boxes, number by number. -/
def impl_CommonBox.l0 : Nat → Int → List Int → List Int → List Int → List Int → Int → Option (List Int × List Int)
  | 0, _, _, _, _, _, _ => none
  | k + 1, n, y1, y2, x3, x4, i => if i < n then (if 0 ≤ i then (if i < (y1.length : Int) then (if i < (y2.length : Int) then (if i < (x3.length : Int) then (if i < (x4.length : Int) then impl_CommonBox.l0 k n (y1.set (i : Int).toNat (mx (rd y1 i) (rd x3 i))) (y2.set (i : Int).toNat (mn (rd y2 i) (rd x4 i))) x3 x4 (wrap64 (i + 1)) else none) else none) else none) else none) else none) else some (y1, y2)
def impl_CommonBox.f (k : Nat) (a0_0 : Int) (l0_1 : List Int) (l0_2 : List Int) (a1_0 : Int) (l1_1 : List Int) (l1_2 : List Int) : Option (Int × List Int × List Int × Bool) := (impl_isBox.f k a0_0 l0_1 l0_2).bind fun p => if p.1 = true then ((impl_isBox.f k a1_0 l1_1 l1_2).bind fun q => if q.1 = true then (if l0_1.length = l1_1.length then ((impl_align.f k a0_0 l0_1 l0_2 a1_0 l1_1 l1_2).bind fun x => (impl_CommonBox.l0 k (x.1.length : Int) x.1 x.2.1 x.2.2.1 x.2.2.2 0).bind fun y => impl_boxOf.f k (mx a0_0 a1_0) y.1 y.2) else some (0, [], [], false)) else some (0, [], [], false)) else some (0, [], [], false)
/-! laws_FnExactCommonBox -/
def laws_FnExactCommonBox.f (k : Nat) (a0_0 : Int) (l0_1 : List Int) (l0_2 : List Int) (a1_0 : Int) (l1_1 : List Int) (l1_2 : List Int) : Option (Bool) := (laws_szBox.f a0_0 l0_1 l0_2 1000000).bind fun t554 => (if t554 < 0 then (some true) else ((laws_szBox.f a1_0 l1_1 l1_2 t554).bind fun t555 => (if t555 < 0 then (some true) else ((laws_toBox.f k a0_0 l0_1 l0_2 false).bind fun bt556 => ((laws_toBox.f k a1_0 l1_1 l1_2 false).bind fun bt563 => ((spec_CommonBox.f k bt556.1 bt556.2.1 bt556.2.2 bt563.1 bt563.2.1 bt563.2.2).bind fun bt570 => ((laws_toBox.f k a0_0 l0_1 l0_2 false).bind fun bt579 => ((laws_toBox.f k a1_0 l1_1 l1_2 false).bind fun bt587 => ((impl_CommonBox.f k bt579.1 bt579.2.1 bt579.2.2 bt587.1 bt587.2.1 bt587.2.2).bind fun bt595 => ((laws_eqBox.f k bt595.1 bt595.2.1 bt595.2.2.1 bt570.1 bt570.2.1 bt570.2.2.1).bind fun t604 => (if t604 = true then (if (bt595.2.2.2 != bt570.2.2.2) = true then (none) else ((laws_toBox.f k a0_0 l0_1 l0_2 false).bind fun bt605 => ((laws_intactBox.f bt579.1 bt579.2.1 bt579.2.2 bt605.1 bt605.2.1 bt605.2.2).bind fun t612 => (if t612 = true then ((laws_toBox.f k a1_0 l1_1 l1_2 false).bind fun bt613 => ((laws_intactBox.f bt587.1 bt587.2.1 bt587.2.2 bt613.1 bt613.2.1 bt613.2.2).bind fun t620 => (if t620 = true then ((laws_markBox.f k bt579.1 bt579.2.1 bt579.2.2 101).bind fun bt621 => ((laws_markBox.f k bt587.1 bt587.2.1 bt587.2.2 bt621.1).bind fun bt624 => (if bt624.1 < 0 then (none) else ((laws_eqBox.f k bt595.1 bt595.2.1 bt595.2.2.1 bt570.1 bt570.2.1 bt570.2.2.1).bind fun t627 => (if t627 = true then ((laws_markBox.f k bt595.1 bt595.2.1 bt595.2.2.1 101).bind fun bt628 => ((laws_heldBox.f k bt595.1 bt628.2.1 bt628.2.2 101).bind fun t631 => (if t631 < 0 then (none) else (if t631 = bt628.1 then ((laws_toBox.f k a0_0 l0_1 l0_2 true).bind fun bt632 => ((laws_toBox.f k a1_0 l1_1 l1_2 true).bind fun bt639 => ((impl_CommonBox.f k bt632.1 bt632.2.1 bt632.2.2 bt639.1 bt639.2.1 bt639.2.2).bind fun bt646 => ((laws_eqBox.f k bt646.1 bt646.2.1 bt646.2.2.1 bt570.1 bt570.2.1 bt570.2.2.1).bind fun t655 => (if t655 = true then (if (bt646.2.2.2 != bt570.2.2.2) = true then (none) else ((laws_heldBox.f k bt595.1 bt628.2.1 bt628.2.2 101).bind fun t656 => (if t656 < 0 then (none) else (if t656 = bt628.1 then (some true) else (none))))) else (none)))))) else (none))))) else (none)))))) else (none)))) else (none))))) else (none))))))))))))
end Go.Proofs.Ytgaoniapddpaaaa.PD
