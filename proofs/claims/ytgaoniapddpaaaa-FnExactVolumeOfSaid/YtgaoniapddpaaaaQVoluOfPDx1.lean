-- By wip/mk/drv.py
import Derived.Test.YtgaoniapddpaaaaQVoluOfPDx0
namespace Go.Proofs.Ytgaoniapddpaaaa.PD
open Go.RowKit Go.Proofs.YtgaoniapddpaaaaW.PrintWords Go.Proofs.YtgaoniapddpaaaaW.PrintLast Go.Proofs.YtgaoniapddpaaaaW.PrintMore
attribute [local go_sem] max2_int min2_int max_two min_two max_three min_three max_four min_four
set_option linter.unusedVariables false
set_option linter.unusedSimpArgs false
/-! laws_szIntS -/
def laws_szIntS.f (l0 : List Int) (a1 : Int) : Option (Int) := if (wrap64 (a1 - (l0.length : Int))) < 0 then (some (-1)) else (some (wrap64 (a1 - (l0.length : Int))))
/-! laws_szBox -/
def laws_szBox.f (a0_0 : Int) (l0_1 : List Int) (l0_2 : List Int) (a1 : Int) : Option (Int) := (laws_szIntS.f l0_1 a1).bind fun t102 => (if t102 < 0 then (some (-1)) else ((laws_szIntS.f l0_2 t102).bind fun t103 => (if t103 < 0 then (some (-1)) else (some t103))))
/-! spec_l1In -/
def spec_l1In.f (a0 : Int) (a1 : Int) (a2 : Int) : Option (Bool) := if a0 ≥ a1 then (some (decide (a0 ≤ a2))) else (some false)
/-! spec_dyPower -/
def spec_dyPower.f (a0 : Int) : Option (Int) := if 0 ≤ (IntKind.u64.wrap (a0)) then (some (shl .i64 1 (IntKind.u64.wrap (a0)))) else (none)
/-! spec_bxGood -/
mutual
def spec_bxGood.j0 : Nat → Bool → Int → List Int → List Int → Option (Bool)
  | 0, _, _, _, _ => none
  | k + 1, x27, x105000, x105001, x105002 => if x27 = true then (some false) else ((spec_dyPower.f x105000).bind fun t107 => (spec_bxGood.l0 k (wrap64 (8 * t107)) (x105000 == 0) x105001 (x105001.length : Int) 0 x105000 x105001 x105002))
def spec_bxGood.l0 : Nat → Int → Bool → List Int → Int → Int → Int → List Int → List Int → Option (Bool)
  | 0, _, _, _, _, _, _, _, _ => none
  | k + 1, x3, x4, x36, x37, x38, x105000, x105001, x105002 => if x38 < x37 then (if 0 ≤ x38 then (if x38 < (x36.length : Int) then (if x38 < (x105002.length : Int) then ((spec_l1In.f (rd x36 x38) (wrap64 (-x3)) x3).bind fun t110 => (if t110 = true then ((spec_l1In.f (rd x105002 x38) (wrap64 (-x3)) x3).bind fun t111 => (if t111 = true then (if (rd x36 x38) ≥ (rd x105002 x38) then (some false) else (if x4 = true then (spec_bxGood.l0 k x3 true x36 x37 (wrap64 (x38 + 1)) x105000 x105001 x105002) else (if (Int.tmod (rd x36 x38) 2) = 0 then (spec_bxGood.l0 k x3 ((Int.tmod (rd x105002 x38) 2) != 0) x36 x37 (wrap64 (x38 + 1)) x105000 x105001 x105002) else (spec_bxGood.l0 k x3 true x36 x37 (wrap64 (x38 + 1)) x105000 x105001 x105002)))) else (some false))) else (some false))) else (none)) else (none)) else (none)) else (some x4)
end
def spec_bxGood.f (k : Nat) (a0_0 : Int) (l0_1 : List Int) (l0_2 : List Int) : Option (Bool) := (spec_l1In.f a0_0 0 8).bind fun t105 => (if t105 = true then ((spec_l1In.f (l0_1.length : Int) 1 3).bind fun t106 => (if t106 = true then (spec_bxGood.j0 k ((l0_2.length : Int) != (l0_1.length : Int)) a0_0 l0_1 l0_2) else (spec_bxGood.j0 k true a0_0 l0_1 l0_2))) else (spec_bxGood.j0 k true a0_0 l0_1 l0_2))
/-! spec_IsBox -/
/-! laws_roomBehind -/
def laws_roomBehind.f (a0 : Int) : Option (Int) := if (Int.tmod a0 6) = 5 then (some 0) else (if (Int.tmod a0 3) = 0 then (some 1) else (some a0))
/-! laws_toIntS -/
mutual
def laws_toIntS.j0 : Nat → List Int → Bool → Option (List Int)
  | 0, _, _ => none
  | k + 1, x0, x13 => if x13 = true then (some ([] : List Int)) else ((laws_roomBehind.f (x0.length : Int)).bind fun t114 => (if 0 ≤ (wrap64 ((x0.length : Int) + t114)) then (if (wrap64 ((x0.length : Int) + t114) : Int).toNat ≤ 35184372088832 then (laws_toIntS.l0 k x0 (List.replicate (wrap64 ((x0.length : Int) + t114) : Int).toNat 0) 0) else (none)) else (none)))
def laws_toIntS.l0 : Nat → List Int → List Int → Int → Option (List Int)
  | 0, _, _, _ => none
  | k + 1, x0, x5, x6 => if x6 < (x0.length : Int) then (if 0 ≤ x6 then (if x6 < (x5.length : Int) then (laws_toIntS.l0 k x0 (x5.set (x6 : Int).toNat (rd x0 x6)) (wrap64 (x6 + 1))) else (none)) else (none)) else (laws_toIntS.l1 k x0 x5 (x0.length : Int))
def laws_toIntS.l1 : Nat → List Int → List Int → Int → Option (List Int)
  | 0, _, _, _ => none
  | k + 1, x0, x5, x7 => if x7 < (x5.length : Int) then (if 0 ≤ x7 then (laws_toIntS.l1 k x0 (x5.set (x7 : Int).toNat (-7000000000000000101)) (wrap64 (x7 + 1))) else (none)) else (if 0 ≤ (x0.length : Int) then (if (x0.length : Int) ≤ (x5.length : Int) then (some (x5.take ((x0.length : Int) : Int).toNat)) else (none)) else (none))
end
def laws_toIntS.f (k : Nat) (l0 : List Int) (a1 : Bool) : Option (List Int) := if a1 = true then (laws_toIntS.j0 k l0 ((l0.length : Int) == 0)) else (laws_toIntS.j0 k l0 false)
/-! laws_toBox -/
def laws_toBox.f (k : Nat) (a0_0 : Int) (l0_1 : List Int) (l0_2 : List Int) (a1 : Bool) : Option (Int × List Int × List Int) := (laws_toIntS.f k l0_1 a1).bind fun t127 => ((laws_toIntS.f k l0_2 a1).bind fun t130 => (some (a0_0, t127, t130)))
/-! impl_inside -/
def impl_inside.f (a0 : Int) (a1 : Int) (a2 : Int) : Option (Bool) := if a0 ≥ a1 then (some (decide (a0 ≤ a2))) else (some false)
/-! impl_isBox -/
mutual
def impl_isBox.j0 : Nat → Bool → Int → List Int → List Int → Option (Bool × Int)
  | 0, _, _, _, _ => none
  | k + 1, x34, x1000, x1001, x1002 => if x34 = true then (some (false, x1000)) else (if 0 ≤ x1000 then (impl_isBox.l0 k (shl .i64 8 x1000) (x1000 == 0) x1001 (x1001.length : Int) 0 x1000 x1001 x1002) else (none))
def impl_isBox.l0 : Nat → Int → Bool → List Int → Int → Int → Int → List Int → List Int → Option (Bool × Int)
  | 0, _, _, _, _, _, _, _, _ => none
  | k + 1, x3, x4, x48, x49, x50, x1000, x1001, x1002 => if x50 < x49 then (if 0 ≤ x50 then (if x50 < (x48.length : Int) then ((impl_inside.f (rd x48 x50) (wrap64 (-x3)) x3).bind fun t136 => (if t136 = true then (if x50 < (x1002.length : Int) then ((impl_inside.f (rd x1002 x50) (wrap64 ((rd x48 x50) + 1)) x3).bind fun t138 => (if t138 = true then (if x4 = true then (impl_isBox.l0 k x3 true x48 x49 (wrap64 (x50 + 1)) x1000 x1001 x1002) else (if (Int.tmod (rd x48 x50) 2) = 0 then (impl_isBox.l0 k x3 ((Int.tmod (rd x1002 x50) 2) != 0) x48 x49 (wrap64 (x50 + 1)) x1000 x1001 x1002) else (impl_isBox.l0 k x3 true x48 x49 (wrap64 (x50 + 1)) x1000 x1001 x1002))) else (some (false, x1000)))) else (none)) else (some (false, x1000)))) else (none)) else (none)) else (some (x4, x1000))
end
def impl_isBox.f (k : Nat) (s0_0 : Int) (s0_1 : List Int) (s0_2 : List Int) : Option (Bool × Int) := (impl_inside.f s0_0 0 8).bind fun t133 => (if t133 = true then ((impl_inside.f (s0_1.length : Int) 1 3).bind fun t134 => (if t134 = true then (impl_isBox.j0 k ((s0_2.length : Int) != (s0_1.length : Int)) s0_0 s0_1 s0_2) else (impl_isBox.j0 k true s0_0 s0_1 s0_2))) else (impl_isBox.j0 k true s0_0 s0_1 s0_2))
/-! impl_IsBox -/
/-! laws_eqIntS -/
def laws_eqIntS.l0 : Nat → List Int → List Int → Int → Option (Bool)
  | 0, _, _, _ => none
  | k + 1, x0, x1, x5 => if x5 < (x0.length : Int) then (if 0 ≤ x5 then (if x5 < (x1.length : Int) then (if (rd x0 x5) = (rd x1 x5) then (laws_eqIntS.l0 k x0 x1 (wrap64 (x5 + 1))) else (some false)) else (none)) else (none)) else (some true)
def laws_eqIntS.f (k : Nat) (l0 : List Int) (l1 : List Int) : Option (Bool) := if (l0.length : Int) = (l1.length : Int) then (laws_eqIntS.l0 k l0 l1 0) else (some false)
/-! laws_intactIntS -/
-- HAND rounds=0 making=0
/-- Whether two lists are one, their spare cells as toIntS lays them. -/
def laws_intactIntS.f (l0 : List Int) (l1 : List Int) : Option (Bool) := if l0 = l1 then some true else none
/-! laws_intactBox -/
def laws_intactBox.f (a0_0 : Int) (l0_1 : List Int) (l0_2 : List Int) (a1_0 : Int) (l1_1 : List Int) (l1_2 : List Int) : Option (Bool) := if a0_0 = a1_0 then ((laws_intactIntS.f l0_1 l1_1).bind fun t147 => (if t147 = true then ((laws_intactIntS.f l0_2 l1_2).bind fun t148 => (if t148 = true then (some true) else (some false))) else (some false))) else (some false)
/-! laws_FnExactIsBox -/
/-! spec_bxWidest -/
/-! spec_WidestSide -/
/-! impl_Box_length -/
def impl_Box_length.f (s0_0 : Int) (s0_1 : List Int) (s0_2 : List Int) (a1 : Int) : Option (Int × Int) := if 0 ≤ a1 then (if a1 < (s0_2.length : Int) then (if a1 < (s0_1.length : Int) then (some (wrap64 ((rd s0_2 a1) - (rd s0_1 a1)), s0_0)) else (none)) else (none)) else (none)
/-! impl_WidestSide -/
/-! laws_FnExactWidestSide -/
/-! spec_bxSide -/
/-! spec_dyGood -/
def spec_dyGood.f (a0_0 : Int) (a0_1 : Int) : Option (Bool) := (spec_l1In.f a0_1 0 24).bind fun t243 => (if t243 = true then ((spec_l1In.f a0_0 (-1099511627776) 1099511627776).bind fun t244 => (if t244 = true then (if a0_1 = 0 then (some true) else (some ((Int.tmod a0_0 2) != 0))) else (some false))) else (some false))
/-! spec_dyMake -/
mutual
def spec_dyMake.j0 : Nat → Int → Int → Bool → Option (Int × Int × Bool)
  | 0, _, _, _ => none
  | k + 1, x0, x1, x12 => if x12 = true then (spec_dyMake.j1 k x0 0) else (spec_dyMake.j1 k x0 x1)
def spec_dyMake.j1 : Nat → Int → Int → Option (Int × Int × Bool)
  | 0, _, _ => none
  | k + 1, x0, x1 => spec_dyMake.l0 k x0 x1
def spec_dyMake.l0 : Nat → Int → Int → Option (Int × Int × Bool)
  | 0, _, _ => none
  | k + 1, x0, x1 => if x1 > 0 then (if (Int.tmod x0 2) = 0 then (spec_dyMake.l0 k (wrap64 (Int.tdiv x0 2)) (wrap64 (x1 - 1))) else ((spec_dyGood.f x0 x1).bind fun t247 => (if t247 = true then (some (x0, x1, true)) else (some (0, 0, false))))) else ((spec_dyGood.f x0 x1).bind fun t249 => (if t249 = true then (some (x0, x1, true)) else (some (0, 0, false))))
end
def spec_dyMake.f (k : Nat) (a0 : Int) (a1 : Int) : Option (Int × Int × Bool) := if a0 = 0 then (spec_dyMake.j0 k a0 a1 (decide (a1 > 0))) else (spec_dyMake.j0 k a0 a1 false)
/-! spec_bxNumber -/
def spec_bxNumber.f (k : Nat) (a0 : Int) (a1 : Int) : Option (Int × Int) := (spec_dyMake.f k a0 a1).bind fun bt251 => (some (bt251.1, bt251.2.1))
/-! spec_SideOf -/
/-! impl_Box_has -/
/-! impl_size -/
def impl_size.f (a0 : Int) : Option (Int) := if a0 < 0 then (some (IntKind.u64.wrap (wrap64 (-a0)))) else (some (IntKind.u64.wrap (a0)))
/-! impl_wideOf -/
def impl_wideOf.f (a0 : Int) : Option (Bool × Int × Int) := (impl_size.f a0).bind fun t267 => (some (decide (a0 < 0), 0, t267))
/-! impl_wide_isZero -/
def impl_wide_isZero.f (a0_0 : Bool) (a0_1 : Int) (a0_2 : Int) : Option (Bool) := if a0_1 = 0 then (some (a0_2 == 0)) else (some false)
/-! impl_wide_shift -/
def impl_wide_shift.f (a0_0 : Bool) (a0_1 : Int) (a0_2 : Int) (a1 : Int) : Option (Bool × Int × Int) := if a1 ≥ 0 then (if a1 ≥ 64 then (if 0 ≤ (wrap64 (a1 - 64)) then (some (a0_0, shl .u64 a0_2 (wrap64 (a1 - 64)), 0)) else (none)) else (if 0 ≤ a1 then (if 0 ≤ (wrap64 (64 - a1)) then (some (a0_0, Go.bits .or .u64 (shl .u64 a0_1 a1) (shr .u64 a0_2 (wrap64 (64 - a1))), shl .u64 a0_2 a1)) else (none)) else (none))) else (if (wrap64 (-a1)) ≥ 64 then (if 0 ≤ (wrap64 ((wrap64 (-a1)) - 64)) then (some (a0_0, 0, shr .u64 a0_1 (wrap64 ((wrap64 (-a1)) - 64)))) else (none)) else (if 0 ≤ (wrap64 (-a1)) then (if 0 ≤ (wrap64 (64 - (wrap64 (-a1)))) then (some (a0_0, shr .u64 a0_1 (wrap64 (-a1)), Go.bits .or .u64 (shr .u64 a0_2 (wrap64 (-a1))) (shl .u64 a0_1 (wrap64 (64 - (wrap64 (-a1))))))) else (none)) else (none)))
/-! impl_wide_fit -/
mutual
def impl_wide_fit.j1 : Nat → Int → Bool → Int → Int → Option (Int × Int × Bool)
  | 0, _, _, _, _ => none
  | k + 1, x1, x272000, x272001, x272002 => if x1 > 24 then (impl_wide_fit.j2 k x1 true x272000 x272001 x272002) else (if x272001 > 0 then (impl_wide_fit.j2 k x1 true x272000 x272001 x272002) else (impl_wide_fit.j2 k x1 (decide (x272002 > 1099511627776)) x272000 x272001 x272002))
def impl_wide_fit.j2 : Nat → Int → Bool → Bool → Int → Int → Option (Int × Int × Bool)
  | 0, _, _, _, _, _ => none
  | k + 1, x1, x33, x272000, x272001, x272002 => if x33 = true then (some (0, 0, false)) else (if x272000 = true then (some (wrap64 (-(wrap64 (x272002))), x1, true)) else (some (wrap64 (x272002), x1, true)))
def impl_wide_fit.l0 : Nat → Int → Bool → Int → Int → Option (Int × Int × Bool)
  | 0, _, _, _, _ => none
  | k + 1, x1, x272000, x272001, x272002 => if x1 > 0 then (if (Int.tmod x272002 2) = 0 then ((impl_wide_shift.f x272000 x272001 x272002 (-1)).bind fun bt274 => (impl_wide_fit.l0 k (wrap64 (x1 - 1)) bt274.1 bt274.2.1 bt274.2.2)) else (impl_wide_fit.j1 k x1 x272000 x272001 x272002)) else (impl_wide_fit.j1 k x1 x272000 x272001 x272002)
end
def impl_wide_fit.f (k : Nat) (a0_0 : Bool) (a0_1 : Int) (a0_2 : Int) (a1 : Int) : Option (Int × Int × Bool) := (impl_wide_isZero.f a0_0 a0_1 a0_2).bind fun t273 => (if t273 = true then (some (0, 0, true)) else (impl_wide_fit.l0 k a1 a0_0 a0_1 a0_2))
/-! impl_Box_dyadic -/
-- HAND rounds=1 making=1
/-! impl_Box_side -/
-- HAND rounds=1 making=1
/-! impl_SideOf -/
/-! laws_eqDyadic -/
def laws_eqDyadic.f (a0_0 : Int) (a0_1 : Int) (a1_0 : Int) (a1_1 : Int) : Option (Bool) := if a0_0 = a1_0 then (if a0_1 = a1_1 then (some true) else (some false)) else (some false)
/-! laws_FnExactSideOf -/
/-! spec_bxVolume -/
def spec_bxVolume.l0 : Nat → Int → List Int → Int → Int → Int → List Int → List Int → Option (Int × Int)
  | 0, _, _, _, _, _, _, _ => none
  | k + 1, x3, x7, x8, x9, x351000, x351001, x351002 => if x9 < x8 then (if 0 ≤ x9 then (if x9 < (x7.length : Int) then (if x9 < (x351002.length : Int) then (spec_bxVolume.l0 k (wrap64 (x3 * (wrap64 ((rd x351002 x9) - (rd x7 x9))))) x7 x8 (wrap64 (x9 + 1)) x351000 x351001 x351002) else (none)) else (none)) else (none)) else ((spec_bxNumber.f k x3 (wrap64 ((x351001.length : Int) * x351000))).bind fun bt354 => (some (bt354.1, bt354.2)))
def spec_bxVolume.f (k : Nat) (a0_0 : Int) (l0_1 : List Int) (l0_2 : List Int) : Option (Int × Int) := spec_bxVolume.l0 k 1 l0_1 (l0_1.length : Int) 0 a0_0 l0_1 l0_2
/-! spec_VolumeOf -/
def spec_VolumeOf.f (k : Nat) (a0_0 : Int) (l0_1 : List Int) (l0_2 : List Int) : Option (Int × Int × Bool) := (spec_bxGood.f k a0_0 l0_1 l0_2).bind fun t358 => (if t358 = true then ((spec_bxVolume.f k a0_0 l0_1 l0_2).bind fun bt359 => (some (bt359.1, bt359.2, true))) else (some (0, 0, false)))
/-! impl_Box_volume -/
-- HAND rounds=1 making=1
/-- The product of the lengths of all sides, as a dyadic number; the box stays. -/
def impl_Box_volume.l0 : Nat → Int → List Int → List Int → Int → Int → Option (Int × Int × Bool)
  | 0, _, _, _, _, _ => none
  | k + 1, K, L, M, n, i => if i < (L.length : Int) then ((impl_Box_length.f K L M i).bind fun t => impl_Box_volume.l0 k K L M (wrap64 (n * t.1)) (wrap64 (i + 1))) else ((impl_wideOf.f n).bind fun t => impl_wide_fit.f k t.1 t.2.1 t.2.2 (wrap64 (K * (L.length : Int))))
def impl_Box_volume.f (k : Nat) (s0_0 : Int) (s0_1 : List Int) (s0_2 : List Int) : Option (Int × Int × Bool × Int) := (impl_Box_volume.l0 k s0_0 s0_1 s0_2 1 0).bind fun u => some (u.1, u.2.1, u.2.2, s0_0)
/-! impl_VolumeOf -/
def impl_VolumeOf.f (k : Nat) (a0_0 : Int) (l0_1 : List Int) (l0_2 : List Int) : Option (Int × Int × Bool) := (impl_isBox.f k a0_0 l0_1 l0_2).bind fun bt363 => (if bt363.1 = true then ((impl_Box_volume.f k bt363.2 l0_1 l0_2).bind fun bt365 => (some (bt365.1, bt365.2.1, bt365.2.2.1))) else (some (0, 0, false)))
/-! laws_FnExactVolumeOf -/
def laws_FnExactVolumeOf.f (k : Nat) (a0_0 : Int) (l0_1 : List Int) (l0_2 : List Int) : Option (Bool) := (laws_szBox.f a0_0 l0_1 l0_2 1000000).bind fun t370 => (if t370 < 0 then (some true) else ((laws_toBox.f k a0_0 l0_1 l0_2 false).bind fun bt371 => ((spec_VolumeOf.f k bt371.1 bt371.2.1 bt371.2.2).bind fun bt378 => ((laws_toBox.f k a0_0 l0_1 l0_2 false).bind fun bt382 => ((impl_VolumeOf.f k bt382.1 bt382.2.1 bt382.2.2).bind fun bt390 => ((laws_eqDyadic.f bt390.1 bt390.2.1 bt378.1 bt378.2.1).bind fun t394 => (if t394 = true then (if (bt390.2.2 != bt378.2.2) = true then (none) else ((laws_toBox.f k a0_0 l0_1 l0_2 false).bind fun bt395 => ((laws_intactBox.f bt382.1 bt382.2.1 bt382.2.2 bt395.1 bt395.2.1 bt395.2.2).bind fun t402 => (if t402 = true then ((laws_toBox.f k a0_0 l0_1 l0_2 true).bind fun bt403 => ((impl_VolumeOf.f k bt403.1 bt403.2.1 bt403.2.2).bind fun bt410 => ((laws_eqDyadic.f bt410.1 bt410.2.1 bt378.1 bt378.2.1).bind fun t414 => (if t414 = true then (if (bt410.2.2 != bt378.2.2) = true then (none) else (some true)) else (none))))) else (none))))) else (none))))))))
end Go.Proofs.Ytgaoniapddpaaaa.PD
