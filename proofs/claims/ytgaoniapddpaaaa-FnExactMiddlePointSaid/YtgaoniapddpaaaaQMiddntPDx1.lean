-- By wip/mk/drv.py
import Derived.Test.YtgaoniapddpaaaaQMiddntPDx0
namespace Go.Proofs.Ytgaoniapddpaaaa.PD
open Go.RowKit Go.Proofs.YtgaoniapddpaaaaW.PrintWords Go.Proofs.YtgaoniapddpaaaaW.PrintLast Go.Proofs.YtgaoniapddpaaaaW.PrintMore
attribute [local go_sem] max2_int min2_int max_two min_two max_three min_three max_four min_four
set_option linter.unusedVariables false
set_option linter.unusedSimpArgs false
/-! laws_szIntS -/
def laws_szIntS.f (l0 : List Int) (a1 : Int) : Option (Int) := if (wrap64 (a1 - (l0.length : Int))) < 0 then (some (-1)) else (some (wrap64 (a1 - (l0.length : Int))))
/-! laws_szBox -/
def laws_szBox.f (a0_0 : Int) (l0_1 : List Int) (l0_2 : List Int) (a1 : Int) : Option (Int) := (laws_szIntS.f l0_1 a1).bind fun t102 => (if t102 < 0 then (some (-1)) else ((laws_szIntS.f l0_2 t102).bind fun t103 => (if t103 < 0 then (some (-1)) else (some t103))))
/-! spec_l1In -/
def spec_l1In.f (a0 : Int) (a1 : Int) (a2 : Int) : Option (Bool) := if a0 ≥ a1 then (some (decide (a0 ≤ a2))) else (some false)
/-! spec_dyPower -/
def spec_dyPower.f (a0 : Int) : Option (Int) := if 0 ≤ (IntKind.u64.wrap (a0)) then (some (shl .i64 1 (IntKind.u64.wrap (a0)))) else (none)
/-! spec_bxGood -/
mutual
def spec_bxGood.j0 : Nat → Bool → Int → List Int → List Int → Option (Bool)
  | 0, _, _, _, _ => none
  | k + 1, x27, x105000, x105001, x105002 => if x27 = true then (some false) else ((spec_dyPower.f x105000).bind fun t107 => (spec_bxGood.l0 k (wrap64 (8 * t107)) (x105000 == 0) x105001 (x105001.length : Int) 0 x105000 x105001 x105002))
def spec_bxGood.l0 : Nat → Int → Bool → List Int → Int → Int → Int → List Int → List Int → Option (Bool)
  | 0, _, _, _, _, _, _, _, _ => none
  | k + 1, x3, x4, x36, x37, x38, x105000, x105001, x105002 => if x38 < x37 then (if 0 ≤ x38 then (if x38 < (x36.length : Int) then (if x38 < (x105002.length : Int) then ((spec_l1In.f (rd x36 x38) (wrap64 (-x3)) x3).bind fun t110 => (if t110 = true then ((spec_l1In.f (rd x105002 x38) (wrap64 (-x3)) x3).bind fun t111 => (if t111 = true then (if (rd x36 x38) ≥ (rd x105002 x38) then (some false) else (if x4 = true then (spec_bxGood.l0 k x3 true x36 x37 (wrap64 (x38 + 1)) x105000 x105001 x105002) else (if (Int.tmod (rd x36 x38) 2) = 0 then (spec_bxGood.l0 k x3 ((Int.tmod (rd x105002 x38) 2) != 0) x36 x37 (wrap64 (x38 + 1)) x105000 x105001 x105002) else (spec_bxGood.l0 k x3 true x36 x37 (wrap64 (x38 + 1)) x105000 x105001 x105002)))) else (some false))) else (some false))) else (none)) else (none)) else (none)) else (some x4)
end
def spec_bxGood.f (k : Nat) (a0_0 : Int) (l0_1 : List Int) (l0_2 : List Int) : Option (Bool) := (spec_l1In.f a0_0 0 8).bind fun t105 => (if t105 = true then ((spec_l1In.f (l0_1.length : Int) 1 3).bind fun t106 => (if t106 = true then (spec_bxGood.j0 k ((l0_2.length : Int) != (l0_1.length : Int)) a0_0 l0_1 l0_2) else (spec_bxGood.j0 k true a0_0 l0_1 l0_2))) else (spec_bxGood.j0 k true a0_0 l0_1 l0_2))
/-! spec_IsBox -/
/-! laws_roomBehind -/
def laws_roomBehind.f (a0 : Int) : Option (Int) := if (Int.tmod a0 6) = 5 then (some 0) else (if (Int.tmod a0 3) = 0 then (some 1) else (some a0))
/-! laws_toIntS -/
mutual
def laws_toIntS.j0 : Nat → List Int → Bool → Option (List Int)
  | 0, _, _ => none
  | k + 1, x0, x13 => if x13 = true then (some ([] : List Int)) else ((laws_roomBehind.f (x0.length : Int)).bind fun t114 => (if 0 ≤ (wrap64 ((x0.length : Int) + t114)) then (if (wrap64 ((x0.length : Int) + t114) : Int).toNat ≤ 35184372088832 then (laws_toIntS.l0 k x0 (List.replicate (wrap64 ((x0.length : Int) + t114) : Int).toNat 0) 0) else (none)) else (none)))
def laws_toIntS.l0 : Nat → List Int → List Int → Int → Option (List Int)
  | 0, _, _, _ => none
  | k + 1, x0, x5, x6 => if x6 < (x0.length : Int) then (if 0 ≤ x6 then (if x6 < (x5.length : Int) then (laws_toIntS.l0 k x0 (x5.set (x6 : Int).toNat (rd x0 x6)) (wrap64 (x6 + 1))) else (none)) else (none)) else (laws_toIntS.l1 k x0 x5 (x0.length : Int))
def laws_toIntS.l1 : Nat → List Int → List Int → Int → Option (List Int)
  | 0, _, _, _ => none
  | k + 1, x0, x5, x7 => if x7 < (x5.length : Int) then (if 0 ≤ x7 then (laws_toIntS.l1 k x0 (x5.set (x7 : Int).toNat (-7000000000000000101)) (wrap64 (x7 + 1))) else (none)) else (if 0 ≤ (x0.length : Int) then (if (x0.length : Int) ≤ (x5.length : Int) then (some (x5.take ((x0.length : Int) : Int).toNat)) else (none)) else (none))
end
def laws_toIntS.f (k : Nat) (l0 : List Int) (a1 : Bool) : Option (List Int) := if a1 = true then (laws_toIntS.j0 k l0 ((l0.length : Int) == 0)) else (laws_toIntS.j0 k l0 false)
/-! laws_toBox -/
def laws_toBox.f (k : Nat) (a0_0 : Int) (l0_1 : List Int) (l0_2 : List Int) (a1 : Bool) : Option (Int × List Int × List Int) := (laws_toIntS.f k l0_1 a1).bind fun t127 => ((laws_toIntS.f k l0_2 a1).bind fun t130 => (some (a0_0, t127, t130)))
/-! impl_inside -/
def impl_inside.f (a0 : Int) (a1 : Int) (a2 : Int) : Option (Bool) := if a0 ≥ a1 then (some (decide (a0 ≤ a2))) else (some false)
/-! impl_isBox -/
mutual
def impl_isBox.j0 : Nat → Bool → Int → List Int → List Int → Option (Bool × Int)
  | 0, _, _, _, _ => none
  | k + 1, x34, x1000, x1001, x1002 => if x34 = true then (some (false, x1000)) else (if 0 ≤ x1000 then (impl_isBox.l0 k (shl .i64 8 x1000) (x1000 == 0) x1001 (x1001.length : Int) 0 x1000 x1001 x1002) else (none))
def impl_isBox.l0 : Nat → Int → Bool → List Int → Int → Int → Int → List Int → List Int → Option (Bool × Int)
  | 0, _, _, _, _, _, _, _, _ => none
  | k + 1, x3, x4, x48, x49, x50, x1000, x1001, x1002 => if x50 < x49 then (if 0 ≤ x50 then (if x50 < (x48.length : Int) then ((impl_inside.f (rd x48 x50) (wrap64 (-x3)) x3).bind fun t136 => (if t136 = true then (if x50 < (x1002.length : Int) then ((impl_inside.f (rd x1002 x50) (wrap64 ((rd x48 x50) + 1)) x3).bind fun t138 => (if t138 = true then (if x4 = true then (impl_isBox.l0 k x3 true x48 x49 (wrap64 (x50 + 1)) x1000 x1001 x1002) else (if (Int.tmod (rd x48 x50) 2) = 0 then (impl_isBox.l0 k x3 ((Int.tmod (rd x1002 x50) 2) != 0) x48 x49 (wrap64 (x50 + 1)) x1000 x1001 x1002) else (impl_isBox.l0 k x3 true x48 x49 (wrap64 (x50 + 1)) x1000 x1001 x1002))) else (some (false, x1000)))) else (none)) else (some (false, x1000)))) else (none)) else (none)) else (some (x4, x1000))
end
def impl_isBox.f (k : Nat) (s0_0 : Int) (s0_1 : List Int) (s0_2 : List Int) : Option (Bool × Int) := (impl_inside.f s0_0 0 8).bind fun t133 => (if t133 = true then ((impl_inside.f (s0_1.length : Int) 1 3).bind fun t134 => (if t134 = true then (impl_isBox.j0 k ((s0_2.length : Int) != (s0_1.length : Int)) s0_0 s0_1 s0_2) else (impl_isBox.j0 k true s0_0 s0_1 s0_2))) else (impl_isBox.j0 k true s0_0 s0_1 s0_2))
/-! impl_IsBox -/
/-! laws_eqIntS -/
def laws_eqIntS.l0 : Nat → List Int → List Int → Int → Option (Bool)
  | 0, _, _, _ => none
  | k + 1, x0, x1, x5 => if x5 < (x0.length : Int) then (if 0 ≤ x5 then (if x5 < (x1.length : Int) then (if (rd x0 x5) = (rd x1 x5) then (laws_eqIntS.l0 k x0 x1 (wrap64 (x5 + 1))) else (some false)) else (none)) else (none)) else (some true)
def laws_eqIntS.f (k : Nat) (l0 : List Int) (l1 : List Int) : Option (Bool) := if (l0.length : Int) = (l1.length : Int) then (laws_eqIntS.l0 k l0 l1 0) else (some false)
/-! laws_intactIntS -/
-- HAND rounds=0 making=0
/-- Whether two lists are one, their spare cells as toIntS lays them. -/
def laws_intactIntS.f (l0 : List Int) (l1 : List Int) : Option (Bool) := if l0 = l1 then some true else none
/-! laws_intactBox -/
def laws_intactBox.f (a0_0 : Int) (l0_1 : List Int) (l0_2 : List Int) (a1_0 : Int) (l1_1 : List Int) (l1_2 : List Int) : Option (Bool) := if a0_0 = a1_0 then ((laws_intactIntS.f l0_1 l1_1).bind fun t147 => (if t147 = true then ((laws_intactIntS.f l0_2 l1_2).bind fun t148 => (if t148 = true then (some true) else (some false))) else (some false))) else (some false)
/-! laws_FnExactIsBox -/
/-! spec_bxWidest -/
/-! spec_WidestSide -/
/-! impl_Box_length -/
/-! impl_WidestSide -/
/-! laws_FnExactWidestSide -/
/-! spec_bxSide -/
/-! spec_dyGood -/
def spec_dyGood.f (a0_0 : Int) (a0_1 : Int) : Option (Bool) := (spec_l1In.f a0_1 0 24).bind fun t243 => (if t243 = true then ((spec_l1In.f a0_0 (-1099511627776) 1099511627776).bind fun t244 => (if t244 = true then (if a0_1 = 0 then (some true) else (some ((Int.tmod a0_0 2) != 0))) else (some false))) else (some false))
/-! spec_dyMake -/
mutual
def spec_dyMake.j0 : Nat → Int → Int → Bool → Option (Int × Int × Bool)
  | 0, _, _, _ => none
  | k + 1, x0, x1, x12 => if x12 = true then (spec_dyMake.j1 k x0 0) else (spec_dyMake.j1 k x0 x1)
def spec_dyMake.j1 : Nat → Int → Int → Option (Int × Int × Bool)
  | 0, _, _ => none
  | k + 1, x0, x1 => spec_dyMake.l0 k x0 x1
def spec_dyMake.l0 : Nat → Int → Int → Option (Int × Int × Bool)
  | 0, _, _ => none
  | k + 1, x0, x1 => if x1 > 0 then (if (Int.tmod x0 2) = 0 then (spec_dyMake.l0 k (wrap64 (Int.tdiv x0 2)) (wrap64 (x1 - 1))) else ((spec_dyGood.f x0 x1).bind fun t247 => (if t247 = true then (some (x0, x1, true)) else (some (0, 0, false))))) else ((spec_dyGood.f x0 x1).bind fun t249 => (if t249 = true then (some (x0, x1, true)) else (some (0, 0, false))))
end
def spec_dyMake.f (k : Nat) (a0 : Int) (a1 : Int) : Option (Int × Int × Bool) := if a0 = 0 then (spec_dyMake.j0 k a0 a1 (decide (a1 > 0))) else (spec_dyMake.j0 k a0 a1 false)
/-! spec_bxNumber -/
def spec_bxNumber.f (k : Nat) (a0 : Int) (a1 : Int) : Option (Int × Int) := (spec_dyMake.f k a0 a1).bind fun bt251 => (some (bt251.1, bt251.2.1))
/-! spec_SideOf -/
/-! impl_Box_has -/
/-! impl_size -/
def impl_size.f (a0 : Int) : Option (Int) := if a0 < 0 then (some (IntKind.u64.wrap (wrap64 (-a0)))) else (some (IntKind.u64.wrap (a0)))
/-! impl_wideOf -/
def impl_wideOf.f (a0 : Int) : Option (Bool × Int × Int) := (impl_size.f a0).bind fun t267 => (some (decide (a0 < 0), 0, t267))
/-! impl_wide_isZero -/
def impl_wide_isZero.f (a0_0 : Bool) (a0_1 : Int) (a0_2 : Int) : Option (Bool) := if a0_1 = 0 then (some (a0_2 == 0)) else (some false)
/-! impl_wide_shift -/
def impl_wide_shift.f (a0_0 : Bool) (a0_1 : Int) (a0_2 : Int) (a1 : Int) : Option (Bool × Int × Int) := if a1 ≥ 0 then (if a1 ≥ 64 then (if 0 ≤ (wrap64 (a1 - 64)) then (some (a0_0, shl .u64 a0_2 (wrap64 (a1 - 64)), 0)) else (none)) else (if 0 ≤ a1 then (if 0 ≤ (wrap64 (64 - a1)) then (some (a0_0, Go.bits .or .u64 (shl .u64 a0_1 a1) (shr .u64 a0_2 (wrap64 (64 - a1))), shl .u64 a0_2 a1)) else (none)) else (none))) else (if (wrap64 (-a1)) ≥ 64 then (if 0 ≤ (wrap64 ((wrap64 (-a1)) - 64)) then (some (a0_0, 0, shr .u64 a0_1 (wrap64 ((wrap64 (-a1)) - 64)))) else (none)) else (if 0 ≤ (wrap64 (-a1)) then (if 0 ≤ (wrap64 (64 - (wrap64 (-a1)))) then (some (a0_0, shr .u64 a0_1 (wrap64 (-a1)), Go.bits .or .u64 (shr .u64 a0_2 (wrap64 (-a1))) (shl .u64 a0_1 (wrap64 (64 - (wrap64 (-a1))))))) else (none)) else (none)))
/-! impl_wide_fit -/
mutual
def impl_wide_fit.j1 : Nat → Int → Bool → Int → Int → Option (Int × Int × Bool)
  | 0, _, _, _, _ => none
  | k + 1, x1, x272000, x272001, x272002 => if x1 > 24 then (impl_wide_fit.j2 k x1 true x272000 x272001 x272002) else (if x272001 > 0 then (impl_wide_fit.j2 k x1 true x272000 x272001 x272002) else (impl_wide_fit.j2 k x1 (decide (x272002 > 1099511627776)) x272000 x272001 x272002))
def impl_wide_fit.j2 : Nat → Int → Bool → Bool → Int → Int → Option (Int × Int × Bool)
  | 0, _, _, _, _, _ => none
  | k + 1, x1, x33, x272000, x272001, x272002 => if x33 = true then (some (0, 0, false)) else (if x272000 = true then (some (wrap64 (-(wrap64 (x272002))), x1, true)) else (some (wrap64 (x272002), x1, true)))
def impl_wide_fit.l0 : Nat → Int → Bool → Int → Int → Option (Int × Int × Bool)
  | 0, _, _, _, _ => none
  | k + 1, x1, x272000, x272001, x272002 => if x1 > 0 then (if (Int.tmod x272002 2) = 0 then ((impl_wide_shift.f x272000 x272001 x272002 (-1)).bind fun bt274 => (impl_wide_fit.l0 k (wrap64 (x1 - 1)) bt274.1 bt274.2.1 bt274.2.2)) else (impl_wide_fit.j1 k x1 x272000 x272001 x272002)) else (impl_wide_fit.j1 k x1 x272000 x272001 x272002)
end
def impl_wide_fit.f (k : Nat) (a0_0 : Bool) (a0_1 : Int) (a0_2 : Int) (a1 : Int) : Option (Int × Int × Bool) := (impl_wide_isZero.f a0_0 a0_1 a0_2).bind fun t273 => (if t273 = true then (some (0, 0, true)) else (impl_wide_fit.l0 k a1 a0_0 a0_1 a0_2))
/-! impl_Box_dyadic -/
-- HAND rounds=1 making=1
/-! impl_Box_side -/
-- HAND rounds=1 making=1
/-! impl_SideOf -/
/-! laws_eqDyadic -/
def laws_eqDyadic.f (a0_0 : Int) (a0_1 : Int) (a1_0 : Int) (a1_1 : Int) : Option (Bool) := if a0_0 = a1_0 then (if a0_1 = a1_1 then (some true) else (some false)) else (some false)
/-! laws_FnExactSideOf -/
/-! spec_bxVolume -/
/-! spec_VolumeOf -/
/-! impl_Box_volume -/
-- HAND rounds=1 making=1
/-! impl_VolumeOf -/
/-! laws_FnExactVolumeOf -/
/-! laws_markIntS -/
def laws_markIntS.l0 : Nat → List Int → Int → Int → Option (Int × List Int)
  | 0, _, _, _ => none
  | k + 1, x0, x1, x5 => if x5 < (x0.length : Int) then (if 0 ≤ x5 then (laws_markIntS.l0 k (x0.set (x5 : Int).toNat x1) (wrap64 (x1 + 1)) (wrap64 (x5 + 1))) else (none)) else (some (x1, x0))
def laws_markIntS.f (k : Nat) (l0 : List Int) (a1 : Int) : Option (Int × List Int) := laws_markIntS.l0 k l0 a1 0
/-! laws_markBox -/
def laws_markBox.f (k : Nat) (a0_0 : Int) (l0_1 : List Int) (l0_2 : List Int) (a1 : Int) : Option (Int × List Int × List Int) := (laws_markIntS.f k l0_1 a1).bind fun bt417 => ((laws_markIntS.f k l0_2 bt417.1).bind fun bt419 => (some (bt419.1, bt417.2, bt419.2)))
/-! spec_bxMiddle -/
def spec_bxMiddle.l0 : Nat → List (S37) → List Int → Int → Int → Int → List Int → List Int → Option ((List (S37)))
  | 0, _, _, _, _, _, _, _ => none
  | k + 1, x3, x7, x8, x9, x422000, x422001, x422002 => if x9 < x8 then (if 0 ≤ x9 then (if x9 < (x7.length : Int) then (if x9 < (x422002.length : Int) then ((spec_bxNumber.f k (wrap64 ((rd x7 x9) + (rd x422002 x9))) (wrap64 (x422000 + 1))).bind fun bt424 => (if x3.length < 8796093022208 then (spec_bxMiddle.l0 k (x3 ++ [(⟨bt424.1, bt424.2⟩ : S37)]) x7 x8 (wrap64 (x9 + 1)) x422000 x422001 x422002) else (none))) else (none)) else (none)) else (none)) else (some x3)
def spec_bxMiddle.f (k : Nat) (a0_0 : Int) (l0_1 : List Int) (l0_2 : List Int) : Option ((List (S37))) := spec_bxMiddle.l0 k ([] : List (S37)) l0_1 (l0_1.length : Int) 0 a0_0 l0_1 l0_2
/-! spec_MiddlePoint -/
def spec_MiddlePoint.f (k : Nat) (a0_0 : Int) (l0_1 : List Int) (l0_2 : List Int) : Option ((List (S37)) × Bool) := (spec_bxGood.f k a0_0 l0_1 l0_2).bind fun t430 => (if t430 = true then ((spec_bxMiddle.f k a0_0 l0_1 l0_2).bind fun t431 => (some (t431, true))) else (some (([] : List (S37)), false)))
/-! impl_Box_middle -/
-- HAND rounds=1 making=1
/-- The middle of a box; the box stays. -/
def impl_Box_middle.l0 : Nat → Int → List Int → List Int → List S37 → Int → Option (List S37)
  | 0, _, _, _, _, _ => none
  | k + 1, K, L, M, xs, i => if i < (L.length : Int) then (if 0 ≤ i then (if i < (M.length : Int) then ((impl_wideOf.f (wrap64 ((rd L i) + (rd M i)))).bind fun t => (impl_wide_fit.f k t.1 t.2.1 t.2.2 (wrap64 (K + 1))).bind fun u => if xs.length < 8796093022208 then impl_Box_middle.l0 k K L M (xs ++ [(⟨u.1, u.2.1⟩ : S37)]) (wrap64 (i + 1)) else none) else none) else none) else some xs
def impl_Box_middle.f (k : Nat) (s0_0 : Int) (s0_1 : List Int) (s0_2 : List Int) : Option (List (S37) × Int) := (impl_Box_middle.l0 k s0_0 s0_1 s0_2 [] 0).bind fun u => some (u, s0_0)
/-! impl_MiddlePoint -/
def impl_MiddlePoint.f (k : Nat) (a0_0 : Int) (l0_1 : List Int) (l0_2 : List Int) : Option ((List (S37)) × Bool) := (impl_isBox.f k a0_0 l0_1 l0_2).bind fun bt435 => (if bt435.1 = true then ((impl_Box_middle.f k bt435.2 l0_1 l0_2).bind fun bt437 => (some (bt437.1, true))) else (some (([] : List (S37)), false)))
/-! laws_eqDyadicS -/
def laws_eqDyadicS.l0 : Nat → List (S37) → List (S37) → Int → Option (Bool)
  | 0, _, _, _ => none
  | k + 1, x0, x1, x5 => if x5 < (x0.length : Int) then (if 0 ≤ x5 then (if x5 < (x1.length : Int) then ((laws_eqDyadic.f ((rd_T37 x0 x5).f0) ((rd_T37 x0 x5).f1) ((rd_T37 x1 x5).f0) ((rd_T37 x1 x5).f1)).bind fun t443 => (if t443 = true then (laws_eqDyadicS.l0 k x0 x1 (wrap64 (x5 + 1))) else (some false))) else (none)) else (none)) else (some true)
def laws_eqDyadicS.f (k : Nat) (l0 : List (S37)) (l1 : List (S37)) : Option (Bool) := if (l0.length : Int) = (l1.length : Int) then (laws_eqDyadicS.l0 k l0 l1 0) else (some false)
/-! laws_markDyadicS -/
def laws_markDyadicS.l0 : Nat → List (S37) → Int → Int → Option (Int × (List (S37)))
  | 0, _, _, _ => none
  | k + 1, x0, x1, x5 => if x5 < (x0.length : Int) then (if 0 ≤ x5 then ((some (x0.set (x5 : Int).toNat (⟨x1, (rd_T37 x0 x5).f1⟩ : S37) : List (S37))).bind fun y444 => (laws_markDyadicS.l0 k (y444.set (x5 : Int).toNat (⟨(rd_T37 y444 x5).f0, wrap64 (x1 + 1)⟩ : S37)) (wrap64 ((wrap64 (x1 + 1)) + 1)) (wrap64 (x5 + 1)))) else (none)) else (some (x1, x0))
def laws_markDyadicS.f (k : Nat) (l0 : List (S37)) (a1 : Int) : Option (Int × (List (S37))) := laws_markDyadicS.l0 k l0 a1 0
/-! laws_heldDyadicS -/
def laws_heldDyadicS.l0 : Nat → List (S37) → Int → Int → Option (Int)
  | 0, _, _, _ => none
  | k + 1, x0, x1, x5 => if x5 < (x0.length : Int) then (if 0 ≤ x5 then (if ((rd_T37 x0 x5).f0) = x1 then (if ((rd_T37 x0 x5).f1) = (wrap64 (x1 + 1)) then (laws_heldDyadicS.l0 k x0 (wrap64 ((wrap64 (x1 + 1)) + 1)) (wrap64 (x5 + 1))) else (some (-1))) else (some (-1))) else (none)) else (some x1)
def laws_heldDyadicS.f (k : Nat) (l0 : List (S37)) (a1 : Int) : Option (Int) := laws_heldDyadicS.l0 k l0 a1 0
/-! laws_FnExactMiddlePoint -/
def laws_FnExactMiddlePoint.f (k : Nat) (a0_0 : Int) (l0_1 : List Int) (l0_2 : List Int) : Option (Bool) := (laws_szBox.f a0_0 l0_1 l0_2 1000000).bind fun t449 => (if t449 < 0 then (some true) else ((laws_toBox.f k a0_0 l0_1 l0_2 false).bind fun bt450 => ((spec_MiddlePoint.f k bt450.1 bt450.2.1 bt450.2.2).bind fun bt457 => ((laws_toBox.f k a0_0 l0_1 l0_2 false).bind fun bt461 => ((impl_MiddlePoint.f k bt461.1 bt461.2.1 bt461.2.2).bind fun bt469 => ((laws_eqDyadicS.f k bt469.1 bt457.1).bind fun t473 => (if t473 = true then (if (bt469.2 != bt457.2) = true then (none) else ((laws_toBox.f k a0_0 l0_1 l0_2 false).bind fun bt474 => ((laws_intactBox.f bt461.1 bt461.2.1 bt461.2.2 bt474.1 bt474.2.1 bt474.2.2).bind fun t481 => (if t481 = true then ((laws_markBox.f k bt461.1 bt461.2.1 bt461.2.2 101).bind fun bt482 => (if bt482.1 < 0 then (none) else ((laws_eqDyadicS.f k bt469.1 bt457.1).bind fun t485 => (if t485 = true then ((laws_markDyadicS.f k bt469.1 101).bind fun bt486 => ((laws_heldDyadicS.f k bt486.2 101).bind fun t488 => (if t488 < 0 then (none) else (if t488 = bt486.1 then ((laws_toBox.f k a0_0 l0_1 l0_2 true).bind fun bt489 => ((impl_MiddlePoint.f k bt489.1 bt489.2.1 bt489.2.2).bind fun bt496 => ((laws_eqDyadicS.f k bt496.1 bt457.1).bind fun t500 => (if t500 = true then (if (bt496.2 != bt457.2) = true then (none) else ((laws_heldDyadicS.f k bt486.2 101).bind fun t501 => (if t501 < 0 then (none) else (if t501 = bt486.1 then (some true) else (none))))) else (none))))) else (none))))) else (none))))) else (none))))) else (none))))))))
end Go.Proofs.Ytgaoniapddpaaaa.PD
