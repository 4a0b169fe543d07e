-- By wip/mk/drv.py
import Derived.Test.YtgaoniapddpaaaaQBoxOOfPDx0
namespace Go.Proofs.Ytgaoniapddpaaaa.PD
open Go.RowKit Go.Proofs.YtgaoniapddpaaaaW.PrintWords Go.Proofs.YtgaoniapddpaaaaW.PrintLast Go.Proofs.YtgaoniapddpaaaaW.PrintMore
attribute [local go_sem] max2_int min2_int max_two min_two max_three min_three max_four min_four
set_option linter.unusedVariables false
set_option linter.unusedSimpArgs false
/-! laws_szIntS -/
/-! laws_szBox -/
/-! spec_l1In -/
def spec_l1In.f (a0 : Int) (a1 : Int) (a2 : Int) : Option (Bool) := if a0 ≥ a1 then (some (decide (a0 ≤ a2))) else (some false)
/-! spec_dyPower -/
def spec_dyPower.f (a0 : Int) : Option (Int) := if 0 ≤ (IntKind.u64.wrap (a0)) then (some (shl .i64 1 (IntKind.u64.wrap (a0)))) else (none)
/-! spec_bxGood -/
mutual
def spec_bxGood.j0 : Nat → Bool → Int → List Int → List Int → Option (Bool)
  | 0, _, _, _, _ => none
  | k + 1, x27, x105000, x105001, x105002 => if x27 = true then (some false) else ((spec_dyPower.f x105000).bind fun t107 => (spec_bxGood.l0 k (wrap64 (8 * t107)) (x105000 == 0) x105001 (x105001.length : Int) 0 x105000 x105001 x105002))
def spec_bxGood.l0 : Nat → Int → Bool → List Int → Int → Int → Int → List Int → List Int → Option (Bool)
  | 0, _, _, _, _, _, _, _, _ => none
  | k + 1, x3, x4, x36, x37, x38, x105000, x105001, x105002 => if x38 < x37 then (if 0 ≤ x38 then (if x38 < (x36.length : Int) then (if x38 < (x105002.length : Int) then ((spec_l1In.f (rd x36 x38) (wrap64 (-x3)) x3).bind fun t110 => (if t110 = true then ((spec_l1In.f (rd x105002 x38) (wrap64 (-x3)) x3).bind fun t111 => (if t111 = true then (if (rd x36 x38) ≥ (rd x105002 x38) then (some false) else (if x4 = true then (spec_bxGood.l0 k x3 true x36 x37 (wrap64 (x38 + 1)) x105000 x105001 x105002) else (if (Int.tmod (rd x36 x38) 2) = 0 then (spec_bxGood.l0 k x3 ((Int.tmod (rd x105002 x38) 2) != 0) x36 x37 (wrap64 (x38 + 1)) x105000 x105001 x105002) else (spec_bxGood.l0 k x3 true x36 x37 (wrap64 (x38 + 1)) x105000 x105001 x105002)))) else (some false))) else (some false))) else (none)) else (none)) else (none)) else (some x4)
end
def spec_bxGood.f (k : Nat) (a0_0 : Int) (l0_1 : List Int) (l0_2 : List Int) : Option (Bool) := (spec_l1In.f a0_0 0 8).bind fun t105 => (if t105 = true then ((spec_l1In.f (l0_1.length : Int) 1 3).bind fun t106 => (if t106 = true then (spec_bxGood.j0 k ((l0_2.length : Int) != (l0_1.length : Int)) a0_0 l0_1 l0_2) else (spec_bxGood.j0 k true a0_0 l0_1 l0_2))) else (spec_bxGood.j0 k true a0_0 l0_1 l0_2))
/-! spec_IsBox -/
/-! laws_roomBehind -/
def laws_roomBehind.f (a0 : Int) : Option (Int) := if (Int.tmod a0 6) = 5 then (some 0) else (if (Int.tmod a0 3) = 0 then (some 1) else (some a0))
/-! laws_toIntS -/
mutual
def laws_toIntS.j0 : Nat → List Int → Bool → Option (List Int)
  | 0, _, _ => none
  | k + 1, x0, x13 => if x13 = true then (some ([] : List Int)) else ((laws_roomBehind.f (x0.length : Int)).bind fun t114 => (if 0 ≤ (wrap64 ((x0.length : Int) + t114)) then (if (wrap64 ((x0.length : Int) + t114) : Int).toNat ≤ 35184372088832 then (laws_toIntS.l0 k x0 (List.replicate (wrap64 ((x0.length : Int) + t114) : Int).toNat 0) 0) else (none)) else (none)))
def laws_toIntS.l0 : Nat → List Int → List Int → Int → Option (List Int)
  | 0, _, _, _ => none
  | k + 1, x0, x5, x6 => if x6 < (x0.length : Int) then (if 0 ≤ x6 then (if x6 < (x5.length : Int) then (laws_toIntS.l0 k x0 (x5.set (x6 : Int).toNat (rd x0 x6)) (wrap64 (x6 + 1))) else (none)) else (none)) else (laws_toIntS.l1 k x0 x5 (x0.length : Int))
def laws_toIntS.l1 : Nat → List Int → List Int → Int → Option (List Int)
  | 0, _, _, _ => none
  | k + 1, x0, x5, x7 => if x7 < (x5.length : Int) then (if 0 ≤ x7 then (laws_toIntS.l1 k x0 (x5.set (x7 : Int).toNat (-7000000000000000101)) (wrap64 (x7 + 1))) else (none)) else (if 0 ≤ (x0.length : Int) then (if (x0.length : Int) ≤ (x5.length : Int) then (some (x5.take ((x0.length : Int) : Int).toNat)) else (none)) else (none))
end
def laws_toIntS.f (k : Nat) (l0 : List Int) (a1 : Bool) : Option (List Int) := if a1 = true then (laws_toIntS.j0 k l0 ((l0.length : Int) == 0)) else (laws_toIntS.j0 k l0 false)
/-! laws_toBox -/
/-! impl_inside -/
def impl_inside.f (a0 : Int) (a1 : Int) (a2 : Int) : Option (Bool) := if a0 ≥ a1 then (some (decide (a0 ≤ a2))) else (some false)
/-! impl_isBox -/
mutual
def impl_isBox.j0 : Nat → Bool → Int → List Int → List Int → Option (Bool × Int)
  | 0, _, _, _, _ => none
  | k + 1, x34, x1000, x1001, x1002 => if x34 = true then (some (false, x1000)) else (if 0 ≤ x1000 then (impl_isBox.l0 k (shl .i64 8 x1000) (x1000 == 0) x1001 (x1001.length : Int) 0 x1000 x1001 x1002) else (none))
def impl_isBox.l0 : Nat → Int → Bool → List Int → Int → Int → Int → List Int → List Int → Option (Bool × Int)
  | 0, _, _, _, _, _, _, _, _ => none
  | k + 1, x3, x4, x48, x49, x50, x1000, x1001, x1002 => if x50 < x49 then (if 0 ≤ x50 then (if x50 < (x48.length : Int) then ((impl_inside.f (rd x48 x50) (wrap64 (-x3)) x3).bind fun t136 => (if t136 = true then (if x50 < (x1002.length : Int) then ((impl_inside.f (rd x1002 x50) (wrap64 ((rd x48 x50) + 1)) x3).bind fun t138 => (if t138 = true then (if x4 = true then (impl_isBox.l0 k x3 true x48 x49 (wrap64 (x50 + 1)) x1000 x1001 x1002) else (if (Int.tmod (rd x48 x50) 2) = 0 then (impl_isBox.l0 k x3 ((Int.tmod (rd x1002 x50) 2) != 0) x48 x49 (wrap64 (x50 + 1)) x1000 x1001 x1002) else (impl_isBox.l0 k x3 true x48 x49 (wrap64 (x50 + 1)) x1000 x1001 x1002))) else (some (false, x1000)))) else (none)) else (some (false, x1000)))) else (none)) else (none)) else (some (x4, x1000))
end
def impl_isBox.f (k : Nat) (s0_0 : Int) (s0_1 : List Int) (s0_2 : List Int) : Option (Bool × Int) := (impl_inside.f s0_0 0 8).bind fun t133 => (if t133 = true then ((impl_inside.f (s0_1.length : Int) 1 3).bind fun t134 => (if t134 = true then (impl_isBox.j0 k ((s0_2.length : Int) != (s0_1.length : Int)) s0_0 s0_1 s0_2) else (impl_isBox.j0 k true s0_0 s0_1 s0_2))) else (impl_isBox.j0 k true s0_0 s0_1 s0_2))
/-! impl_IsBox -/
/-! laws_eqIntS -/
def laws_eqIntS.l0 : Nat → List Int → List Int → Int → Option (Bool)
  | 0, _, _, _ => none
  | k + 1, x0, x1, x5 => if x5 < (x0.length : Int) then (if 0 ≤ x5 then (if x5 < (x1.length : Int) then (if (rd x0 x5) = (rd x1 x5) then (laws_eqIntS.l0 k x0 x1 (wrap64 (x5 + 1))) else (some false)) else (none)) else (none)) else (some true)
def laws_eqIntS.f (k : Nat) (l0 : List Int) (l1 : List Int) : Option (Bool) := if (l0.length : Int) = (l1.length : Int) then (laws_eqIntS.l0 k l0 l1 0) else (some false)
/-! laws_intactIntS -/
-- HAND rounds=0 making=0
/-- Whether two lists are one, their spare cells as toIntS lays them. -/
def laws_intactIntS.f (l0 : List Int) (l1 : List Int) : Option (Bool) := if l0 = l1 then some true else none
/-! laws_intactBox -/
/-! laws_FnExactIsBox -/
/-! spec_bxWidest -/
/-! spec_WidestSide -/
/-! impl_Box_length -/
/-! impl_WidestSide -/
/-! laws_FnExactWidestSide -/
/-! spec_bxSide -/
/-! spec_dyGood -/
/-! spec_dyMake -/
/-! spec_bxNumber -/
/-! spec_SideOf -/
/-! impl_Box_has -/
/-! impl_size -/
/-! impl_wideOf -/
/-! impl_wide_isZero -/
/-! impl_wide_shift -/
/-! impl_wide_fit -/
/-! impl_Box_dyadic -/
-- HAND rounds=1 making=1
/-! impl_Box_side -/
-- HAND rounds=1 making=1
/-! impl_SideOf -/
/-! laws_eqDyadic -/
/-! laws_FnExactSideOf -/
/-! spec_bxVolume -/
/-! spec_VolumeOf -/
/-! impl_Box_volume -/
-- HAND rounds=1 making=1
/-! impl_VolumeOf -/
/-! laws_FnExactVolumeOf -/
/-! laws_markIntS -/
def laws_markIntS.l0 : Nat → List Int → Int → Int → Option (Int × List Int)
  | 0, _, _, _ => none
  | k + 1, x0, x1, x5 => if x5 < (x0.length : Int) then (if 0 ≤ x5 then (laws_markIntS.l0 k (x0.set (x5 : Int).toNat x1) (wrap64 (x1 + 1)) (wrap64 (x5 + 1))) else (none)) else (some (x1, x0))
def laws_markIntS.f (k : Nat) (l0 : List Int) (a1 : Int) : Option (Int × List Int) := laws_markIntS.l0 k l0 a1 0
/-! laws_markBox -/
def laws_markBox.f (k : Nat) (a0_0 : Int) (l0_1 : List Int) (l0_2 : List Int) (a1 : Int) : Option (Int × List Int × List Int) := (laws_markIntS.f k l0_1 a1).bind fun bt417 => ((laws_markIntS.f k l0_2 bt417.1).bind fun bt419 => (some (bt419.1, bt417.2, bt419.2)))
/-! spec_bxMiddle -/
/-! spec_MiddlePoint -/
/-! impl_Box_middle -/
-- HAND rounds=1 making=1
/-! impl_MiddlePoint -/
/-! laws_eqDyadicS -/
/-! laws_markDyadicS -/
/-! laws_heldDyadicS -/
/-! laws_FnExactMiddlePoint -/
/-! spec_bxTwo -/
/-! spec_bxAt -/
/-! spec_bxIn -/
/-! spec_IsBoxInside -/
/-! impl_scaled -/
/-! impl_align -/
-- HAND rounds=1 making=1
/-! impl_IsBoxInside -/
-- HAND rounds=1 making=1
/-! laws_FnExactIsBoxInside -/
/-! spec_l1All -/
def spec_l1All.l0 : Nat → Int → Int → List Int → Int → Int → Option (Bool)
  | 0, _, _, _, _, _ => none
  | k + 1, x1, x2, x9, x10, x11 => if x11 < x10 then (if 0 ≤ x11 then (if x11 < (x9.length : Int) then ((spec_l1In.f (rd x9 x11) x1 x2).bind fun t613 => (if t613 = true then (spec_l1All.l0 k x1 x2 x9 x10 (wrap64 (x11 + 1))) else (some false))) else (none)) else (none)) else (some true)
def spec_l1All.f (k : Nat) (l0 : List Int) (a1 : Int) (a2 : Int) : Option (Bool) := spec_l1All.l0 k a1 a2 l0 (l0.length : Int) 0
/-! spec_l1Own -/
def spec_l1Own.f (l0 : List Int) : Option (List Int) := (some (([] : List Int) : List Int)).bind fun y614 => (if y614.length + l0.length < 17592186044416 then (some (y614 ++ l0)) else (none))
/-! spec_bxEven -/
def spec_bxEven.l0 : Nat → List Int → Int → Int → Int → List Int → List Int → Option (Bool)
  | 0, _, _, _, _, _, _ => none
  | k + 1, x6, x7, x8, x621000, x621001, x621002 => if x8 < x7 then (if 0 ≤ x8 then (if x8 < (x6.length : Int) then (if (Int.tmod (rd x6 x8) 2) = 0 then (if x8 < (x621002.length : Int) then (if (Int.tmod (rd x621002 x8) 2) = 0 then (spec_bxEven.l0 k x6 x7 (wrap64 (x8 + 1)) x621000 x621001 x621002) else (some false)) else (none)) else (some false)) else (none)) else (none)) else (some true)
def spec_bxEven.f (k : Nat) (a0_0 : Int) (l0_1 : List Int) (l0_2 : List Int) : Option (Bool) := spec_bxEven.l0 k l0_1 (l0_1.length : Int) 0 a0_0 l0_1 l0_2
/-! spec_bxMake -/
mutual
def spec_bxMake.l0 : Nat → Int → List Int → List Int → Option (Int × List Int × List Int × Bool)
  | 0, _, _, _ => none
  | k + 1, x631000, x631001, x631002 => if x631000 > 0 then ((spec_bxEven.f k x631000 x631001 x631002).bind fun t631 => (spec_bxMake.j1 k t631 x631000 x631001 x631002)) else (spec_bxMake.j1 k false x631000 x631001 x631002)
def spec_bxMake.j1 : Nat → Bool → Int → List Int → List Int → Option (Int × List Int × List Int × Bool)
  | 0, _, _, _, _ => none
  | k + 1, x22, x631000, x631001, x631002 => if x22 = true then (spec_bxMake.l1 k (x631001.length : Int) 0 (wrap64 (x631000 - 1)) x631001 x631002) else ((spec_bxGood.f k x631000 x631001 x631002).bind fun t632 => (if t632 = true then (some (x631000, x631001, x631002, true)) else (some (0, ([] : List Int), ([] : List Int), false))))
def spec_bxMake.l1 : Nat → Int → Int → Int → List Int → List Int → Option (Int × List Int × List Int × Bool)
  | 0, _, _, _, _, _ => none
  | k + 1, x29, x30, x631000, x631001, x631002 => if x30 < x29 then (if 0 ≤ x30 then (if x30 < (x631001.length : Int) then (if x30 < (x631002.length : Int) then (spec_bxMake.l1 k x29 (wrap64 (x30 + 1)) x631000 (x631001.set (x30 : Int).toNat (wrap64 (Int.tdiv (rd x631001 x30) 2))) (x631002.set (x30 : Int).toNat (wrap64 (Int.tdiv (rd x631002 x30) 2)))) else (none)) else (none)) else (none)) else (spec_bxMake.l0 k x631000 x631001 x631002)
end
def spec_bxMake.f (k : Nat) (a0 : Int) (l1 : List Int) (l2 : List Int) : Option (Int × List Int × List Int × Bool) := (spec_l1Own.f l1).bind fun t624 => ((spec_l1Own.f l2).bind fun t627 => (spec_bxMake.l0 k a0 t624 t627))
/-! spec_BoxOf -/
def spec_BoxOf.f (k : Nat) (a0 : Int) (l1 : List Int) (l2 : List Int) : Option (Int × List Int × List Int × Bool) := (spec_l1In.f a0 0 20).bind fun t638 => (if t638 = true then (if (l1.length : Int) = (l2.length : Int) then ((spec_l1In.f (l1.length : Int) 1 3).bind fun t639 => (if t639 = true then ((spec_l1All.f k l1 (-1099511627776) 1099511627776).bind fun t640 => (if t640 = true then ((spec_l1All.f k l2 (-1099511627776) 1099511627776).bind fun t641 => (if t641 = true then ((spec_bxMake.f k a0 l1 l2).bind fun bt642 => (some (bt642.1, bt642.2.1, bt642.2.2.1, bt642.2.2.2))) else (some (0, ([] : List Int), ([] : List Int), false)))) else (some (0, ([] : List Int), ([] : List Int), false)))) else (some (0, ([] : List Int), ([] : List Int), false)))) else (some (0, ([] : List Int), ([] : List Int), false))) else (some (0, ([] : List Int), ([] : List Int), false)))
/-! impl_boxOf -/
-- HAND rounds=1 making=1
/-- Whether a number is odd. -/
def impl_boxOf.p (n : Int) : Bool := (Int.tmod n 2) != 0
def impl_boxOf.ix : Nat → List Int → Int → Option Int
  | 0, _, _ => none
  | k + 1, l, i => if i < (l.length : Int) then (if 0 ≤ i then (if impl_boxOf.p (rd l i) = true then some i else impl_boxOf.ix k l (wrap64 (i + 1))) else none) else some (-1)
def impl_boxOf.hv : Nat → Int → List Int → Int → Option (List Int)
  | 0, _, _, _ => none
  | k + 1, n, x, i => if i < n then (if 0 ≤ i then (if i < (x.length : Int) then impl_boxOf.hv k n (x.set (i : Int).toNat (wrap64 (Int.tdiv (rd x i) 2))) (wrap64 (i + 1)) else none) else none) else some x
def impl_boxOf.fin (k : Nat) (K : Int) (L H : List Int) : Option (Int × List Int × List Int × Bool) := (impl_isBox.f k K L H).bind fun p => if p.1 = true then some (K, L, H, true) else some (0, [], [], false)
def impl_boxOf.l0 : Nat → Int → List Int → List Int → Option (Int × List Int × List Int × Bool)
  | 0, _, _, _ => none
  | k + 1, K, L, H => if K > 0 then (if L.length + H.length < 17592186044416 then ((impl_boxOf.ix k (L ++ H) 0).bind fun r => if r ≥ 0 then impl_boxOf.fin k K L H else ((impl_boxOf.hv k (L.length : Int) L 0).bind fun x => (impl_boxOf.hv k (H.length : Int) H 0).bind fun y => impl_boxOf.l0 k (wrap64 (K - 1)) x y)) else none) else impl_boxOf.fin k K L H
def impl_boxOf.f (k : Nat) (a0 : Int) (l1 : List Int) (l2 : List Int) : Option (Int × List Int × List Int × Bool) := if l1.length + l2.length < 17592186044416 then impl_boxOf.l0 k a0 l1 l2 else none
/-! impl_BoxOf -/
-- HAND rounds=1 making=1
/-- Whether a number is outside. -/
def impl_BoxOf.p (n : Int) : Bool := !((impl_inside.f n (-1099511627776) 1099511627776).getD false)
def impl_BoxOf.ix : Nat → List Int → Int → Option Int
  | 0, _, _ => none
  | k + 1, l, i => if i < (l.length : Int) then (if 0 ≤ i then (if impl_BoxOf.p (rd l i) = true then some i else impl_BoxOf.ix k l (wrap64 (i + 1))) else none) else some (-1)
def impl_BoxOf.f (k : Nat) (a0 : Int) (l1 : List Int) (l2 : List Int) : Option (Int × List Int × List Int × Bool) := (impl_inside.f a0 0 20).bind fun t => if t = true then (if l1.length + l2.length < 17592186044416 then ((impl_BoxOf.ix k (l1 ++ l2) 0).bind fun r => if r ≥ 0 then some (0, [], [], false) else impl_boxOf.f k a0 l1 l2) else none) else some (0, [], [], false)
/-! laws_eqBox -/
def laws_eqBox.f (k : Nat) (a0_0 : Int) (l0_1 : List Int) (l0_2 : List Int) (a1_0 : Int) (l1_1 : List Int) (l1_2 : List Int) : Option (Bool) := if a0_0 = a1_0 then ((laws_eqIntS.f k l0_1 l1_1).bind fun t653 => (if t653 = true then ((laws_eqIntS.f k l0_2 l1_2).bind fun t654 => (if t654 = true then (some true) else (some false))) else (some false))) else (some false)
/-! laws_heldIntS -/
def laws_heldIntS.l0 : Nat → List Int → Int → Int → Option (Int)
  | 0, _, _, _ => none
  | k + 1, x0, x1, x5 => if x5 < (x0.length : Int) then (if 0 ≤ x5 then (if (rd x0 x5) = x1 then (laws_heldIntS.l0 k x0 (wrap64 (x1 + 1)) (wrap64 (x5 + 1))) else (some (-1))) else (none)) else (some x1)
def laws_heldIntS.f (k : Nat) (l0 : List Int) (a1 : Int) : Option (Int) := laws_heldIntS.l0 k l0 a1 0
/-! laws_heldBox -/
def laws_heldBox.f (k : Nat) (a0_0 : Int) (l0_1 : List Int) (l0_2 : List Int) (a1 : Int) : Option (Int) := (laws_heldIntS.f k l0_1 a1).bind fun t657 => (if t657 < 0 then (some (-1)) else ((laws_heldIntS.f k l0_2 t657).bind fun t658 => (if t658 < 0 then (some (-1)) else (some t658))))
/-! laws_FnExactBoxOf -/
def laws_FnExactBoxOf.f (k : Nat) (a0 : Int) (l1 : List Int) (l2 : List Int) : Option (Bool) := if (wrap64 ((l1.length : Int) + (l2.length : Int))) > 1000000 then (some true) else ((laws_toIntS.f k l1 false).bind fun t659 => ((laws_toIntS.f k l2 false).bind fun t662 => ((spec_BoxOf.f k a0 t659 t662).bind fun bt665 => ((laws_toIntS.f k l1 false).bind fun t674 => ((laws_toIntS.f k l2 false).bind fun t677 => ((impl_BoxOf.f k a0 t674 t677).bind fun bt680 => ((laws_eqBox.f k bt680.1 bt680.2.1 bt680.2.2.1 bt665.1 bt665.2.1 bt665.2.2.1).bind fun t689 => (if t689 = true then (if (bt680.2.2.2 != bt665.2.2.2) = true then (none) else ((laws_toIntS.f k l1 false).bind fun t690 => ((laws_intactIntS.f t674 t690).bind fun t693 => (if t693 = true then ((laws_toIntS.f k l2 false).bind fun t694 => ((laws_intactIntS.f t677 t694).bind fun t697 => (if t697 = true then ((laws_markIntS.f k t674 101).bind fun bt698 => ((laws_markIntS.f k t677 bt698.1).bind fun bt700 => (if bt700.1 < 0 then (none) else ((laws_eqBox.f k bt680.1 bt680.2.1 bt680.2.2.1 bt665.1 bt665.2.1 bt665.2.2.1).bind fun t702 => (if t702 = true then ((laws_markBox.f k bt680.1 bt680.2.1 bt680.2.2.1 101).bind fun bt703 => ((laws_heldBox.f k bt680.1 bt703.2.1 bt703.2.2 101).bind fun t706 => (if t706 < 0 then (none) else (if t706 = bt703.1 then ((laws_toIntS.f k l1 true).bind fun t707 => ((laws_toIntS.f k l2 true).bind fun t710 => ((impl_BoxOf.f k a0 t707 t710).bind fun bt713 => ((laws_eqBox.f k bt713.1 bt713.2.1 bt713.2.2.1 bt665.1 bt665.2.1 bt665.2.2.1).bind fun t722 => (if t722 = true then (if (bt713.2.2.2 != bt665.2.2.2) = true then (none) else ((laws_heldBox.f k bt680.1 bt703.2.1 bt703.2.2 101).bind fun t723 => (if t723 < 0 then (none) else (if t723 = bt703.1 then (some true) else (none))))) else (none)))))) else (none))))) else (none)))))) else (none)))) else (none))))) else (none)))))))))
end Go.Proofs.Ytgaoniapddpaaaa.PD
