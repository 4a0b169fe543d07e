-- By wip/mk/drv.py
import Derived.Test.YtgaoniapddpaaaaQCornOfPDx0
namespace Go.Proofs.Ytgaoniapddpaaaa.PD
open Go.RowKit Go.Proofs.YtgaoniapddpaaaaW.PrintWords Go.Proofs.YtgaoniapddpaaaaW.PrintLast Go.Proofs.YtgaoniapddpaaaaW.PrintMore
attribute [local go_sem] max2_int min2_int max_two min_two max_three min_three max_four min_four
set_option linter.unusedVariables false
set_option linter.unusedSimpArgs false
/-! laws_szIntS -/
def laws_szIntS.f (l0 : List Int) (a1 : Int) : Option (Int) := if (wrap64 (a1 - (l0.length : Int))) < 0 then (some (-1)) else (some (wrap64 (a1 - (l0.length : Int))))
/-! laws_szBox -/
def laws_szBox.f (a0_0 : Int) (l0_1 : List Int) (l0_2 : List Int) (a1 : Int) : Option (Int) := (laws_szIntS.f l0_1 a1).bind fun t102 => (if t102 < 0 then (some (-1)) else ((laws_szIntS.f l0_2 t102).bind fun t103 => (if t103 < 0 then (some (-1)) else (some t103))))
/-! laws_roomBehind -/
def laws_roomBehind.f (a0 : Int) : Option (Int) := if (Int.tmod a0 6) = 5 then (some 0) else (if (Int.tmod a0 3) = 0 then (some 1) else (some a0))
/-! laws_toIntS -/
mutual
def laws_toIntS.j0 : Nat → List Int → Bool → Option (List Int)
  | 0, _, _ => none
  | k + 1, x0, x13 => if x13 = true then (some ([] : List Int)) else ((laws_roomBehind.f (x0.length : Int)).bind fun t104 => (if 0 ≤ (wrap64 ((x0.length : Int) + t104)) then (if (wrap64 ((x0.length : Int) + t104) : Int).toNat ≤ 35184372088832 then (laws_toIntS.l0 k x0 (List.replicate (wrap64 ((x0.length : Int) + t104) : Int).toNat 0) 0) else (none)) else (none)))
def laws_toIntS.l0 : Nat → List Int → List Int → Int → Option (List Int)
  | 0, _, _, _ => none
  | k + 1, x0, x5, x6 => if x6 < (x0.length : Int) then (if 0 ≤ x6 then (if x6 < (x5.length : Int) then (laws_toIntS.l0 k x0 (x5.set (x6 : Int).toNat (rd x0 x6)) (wrap64 (x6 + 1))) else (none)) else (none)) else (laws_toIntS.l1 k x0 x5 (x0.length : Int))
def laws_toIntS.l1 : Nat → List Int → List Int → Int → Option (List Int)
  | 0, _, _, _ => none
  | k + 1, x0, x5, x7 => if x7 < (x5.length : Int) then (if 0 ≤ x7 then (laws_toIntS.l1 k x0 (x5.set (x7 : Int).toNat (-7000000000000000101)) (wrap64 (x7 + 1))) else (none)) else (if 0 ≤ (x0.length : Int) then (if (x0.length : Int) ≤ (x5.length : Int) then (some (x5.take ((x0.length : Int) : Int).toNat)) else (none)) else (none))
end
def laws_toIntS.f (k : Nat) (l0 : List Int) (a1 : Bool) : Option (List Int) := if a1 = true then (laws_toIntS.j0 k l0 ((l0.length : Int) == 0)) else (laws_toIntS.j0 k l0 false)
/-! laws_toBox -/
def laws_toBox.f (k : Nat) (a0_0 : Int) (l0_1 : List Int) (l0_2 : List Int) (a1 : Bool) : Option (Int × List Int × List Int) := (laws_toIntS.f k l0_1 a1).bind fun t117 => ((laws_toIntS.f k l0_2 a1).bind fun t120 => (some (a0_0, t117, t120)))
/-! laws_eqIntS -/
def laws_eqIntS.l0 : Nat → List Int → List Int → Int → Option (Bool)
  | 0, _, _, _ => none
  | k + 1, x0, x1, x5 => if x5 < (x0.length : Int) then (if 0 ≤ x5 then (if x5 < (x1.length : Int) then (if (rd x0 x5) = (rd x1 x5) then (laws_eqIntS.l0 k x0 x1 (wrap64 (x5 + 1))) else (some false)) else (none)) else (none)) else (some true)
def laws_eqIntS.f (k : Nat) (l0 : List Int) (l1 : List Int) : Option (Bool) := if (l0.length : Int) = (l1.length : Int) then (laws_eqIntS.l0 k l0 l1 0) else (some false)
/-! laws_intactIntS -/
-- HAND rounds=0 making=0
/-- Whether two lists are one, their spare cells as toIntS lays them. -/
def laws_intactIntS.f (l0 : List Int) (l1 : List Int) : Option (Bool) := if l0 = l1 then some true else none
/-! laws_intactBox -/
def laws_intactBox.f (a0_0 : Int) (l0_1 : List Int) (l0_2 : List Int) (a1_0 : Int) (l1_1 : List Int) (l1_2 : List Int) : Option (Bool) := if a0_0 = a1_0 then ((laws_intactIntS.f l0_1 l1_1).bind fun t127 => (if t127 = true then ((laws_intactIntS.f l0_2 l1_2).bind fun t128 => (if t128 = true then (some true) else (some false))) else (some false))) else (some false)
/-! laws_markIntS -/
def laws_markIntS.l0 : Nat → List Int → Int → Int → Option (Int × List Int)
  | 0, _, _, _ => none
  | k + 1, x0, x1, x5 => if x5 < (x0.length : Int) then (if 0 ≤ x5 then (laws_markIntS.l0 k (x0.set (x5 : Int).toNat x1) (wrap64 (x1 + 1)) (wrap64 (x5 + 1))) else (none)) else (some (x1, x0))
def laws_markIntS.f (k : Nat) (l0 : List Int) (a1 : Int) : Option (Int × List Int) := laws_markIntS.l0 k l0 a1 0
/-! laws_markBox -/
def laws_markBox.f (k : Nat) (a0_0 : Int) (l0_1 : List Int) (l0_2 : List Int) (a1 : Int) : Option (Int × List Int × List Int) := (laws_markIntS.f k l0_1 a1).bind fun bt131 => ((laws_markIntS.f k l0_2 bt131.1).bind fun bt133 => (some (bt133.1, bt131.2, bt133.2)))
/-! spec_l1In -/
def spec_l1In.f (a0 : Int) (a1 : Int) (a2 : Int) : Option (Bool) := if a0 ≥ a1 then (some (decide (a0 ≤ a2))) else (some false)
/-! spec_dyPower -/
def spec_dyPower.f (a0 : Int) : Option (Int) := if 0 ≤ (IntKind.u64.wrap (a0)) then (some (shl .i64 1 (IntKind.u64.wrap (a0)))) else (none)
/-! spec_bxGood -/
mutual
def spec_bxGood.j0 : Nat → Bool → Int → List Int → List Int → Option (Bool)
  | 0, _, _, _, _ => none
  | k + 1, x27, x136000, x136001, x136002 => if x27 = true then (some false) else ((spec_dyPower.f x136000).bind fun t138 => (spec_bxGood.l0 k (wrap64 (8 * t138)) (x136000 == 0) x136001 (x136001.length : Int) 0 x136000 x136001 x136002))
def spec_bxGood.l0 : Nat → Int → Bool → List Int → Int → Int → Int → List Int → List Int → Option (Bool)
  | 0, _, _, _, _, _, _, _, _ => none
  | k + 1, x3, x4, x36, x37, x38, x136000, x136001, x136002 => if x38 < x37 then (if 0 ≤ x38 then (if x38 < (x36.length : Int) then (if x38 < (x136002.length : Int) then ((spec_l1In.f (rd x36 x38) (wrap64 (-x3)) x3).bind fun t141 => (if t141 = true then ((spec_l1In.f (rd x136002 x38) (wrap64 (-x3)) x3).bind fun t142 => (if t142 = true then (if (rd x36 x38) ≥ (rd x136002 x38) then (some false) else (if x4 = true then (spec_bxGood.l0 k x3 true x36 x37 (wrap64 (x38 + 1)) x136000 x136001 x136002) else (if (Int.tmod (rd x36 x38) 2) = 0 then (spec_bxGood.l0 k x3 ((Int.tmod (rd x136002 x38) 2) != 0) x36 x37 (wrap64 (x38 + 1)) x136000 x136001 x136002) else (spec_bxGood.l0 k x3 true x36 x37 (wrap64 (x38 + 1)) x136000 x136001 x136002)))) else (some false))) else (some false))) else (none)) else (none)) else (none)) else (some x4)
end
def spec_bxGood.f (k : Nat) (a0_0 : Int) (l0_1 : List Int) (l0_2 : List Int) : Option (Bool) := (spec_l1In.f a0_0 0 8).bind fun t136 => (if t136 = true then ((spec_l1In.f (l0_1.length : Int) 1 3).bind fun t137 => (if t137 = true then (spec_bxGood.j0 k ((l0_2.length : Int) != (l0_1.length : Int)) a0_0 l0_1 l0_2) else (spec_bxGood.j0 k true a0_0 l0_1 l0_2))) else (spec_bxGood.j0 k true a0_0 l0_1 l0_2))
/-! spec_bxSide -/
/-! spec_l1Own -/
/-! spec_bxEven -/
/-! spec_bxMake -/
/-! spec_bxFine -/
/-! impl_inside -/
def impl_inside.f (a0 : Int) (a1 : Int) (a2 : Int) : Option (Bool) := if a0 ≥ a1 then (some (decide (a0 ≤ a2))) else (some false)
/-! impl_isBox -/
mutual
def impl_isBox.j0 : Nat → Bool → Int → List Int → List Int → Option (Bool × Int)
  | 0, _, _, _, _ => none
  | k + 1, x34, x1000, x1001, x1002 => if x34 = true then (some (false, x1000)) else (if 0 ≤ x1000 then (impl_isBox.l0 k (shl .i64 8 x1000) (x1000 == 0) x1001 (x1001.length : Int) 0 x1000 x1001 x1002) else (none))
def impl_isBox.l0 : Nat → Int → Bool → List Int → Int → Int → Int → List Int → List Int → Option (Bool × Int)
  | 0, _, _, _, _, _, _, _, _ => none
  | k + 1, x3, x4, x48, x49, x50, x1000, x1001, x1002 => if x50 < x49 then (if 0 ≤ x50 then (if x50 < (x48.length : Int) then ((impl_inside.f (rd x48 x50) (wrap64 (-x3)) x3).bind fun t221 => (if t221 = true then (if x50 < (x1002.length : Int) then ((impl_inside.f (rd x1002 x50) (wrap64 ((rd x48 x50) + 1)) x3).bind fun t223 => (if t223 = true then (if x4 = true then (impl_isBox.l0 k x3 true x48 x49 (wrap64 (x50 + 1)) x1000 x1001 x1002) else (if (Int.tmod (rd x48 x50) 2) = 0 then (impl_isBox.l0 k x3 ((Int.tmod (rd x1002 x50) 2) != 0) x48 x49 (wrap64 (x50 + 1)) x1000 x1001 x1002) else (impl_isBox.l0 k x3 true x48 x49 (wrap64 (x50 + 1)) x1000 x1001 x1002))) else (some (false, x1000)))) else (none)) else (some (false, x1000)))) else (none)) else (none)) else (some (x4, x1000))
end
def impl_isBox.f (k : Nat) (s0_0 : Int) (s0_1 : List Int) (s0_2 : List Int) : Option (Bool × Int) := (impl_inside.f s0_0 0 8).bind fun t218 => (if t218 = true then ((impl_inside.f (s0_1.length : Int) 1 3).bind fun t219 => (if t219 = true then (impl_isBox.j0 k ((s0_2.length : Int) != (s0_1.length : Int)) s0_0 s0_1 s0_2) else (impl_isBox.j0 k true s0_0 s0_1 s0_2))) else (impl_isBox.j0 k true s0_0 s0_1 s0_2))
/-! impl_Box_has -/
/-! slices_Clone_int_int -/
-- HAND rounds=0 making=1
def slices_Clone_int_int.f (l0 : List Int) : Option (List Int) := (some (([] : List Int) : List Int)).bind fun y227 => (if y227.length + l0.length < 17592186044416 then (some (y227 ++ l0)) else (none))
/-! impl_boxOf -/
-- HAND rounds=1 making=1
/-- Whether a number is odd. -/
def impl_boxOf.p (n : Int) : Bool := (Int.tmod n 2) != 0
def impl_boxOf.hv : Nat → Int → List Int → Int → Option (List Int)
  | 0, _, _, _ => none
  | k + 1, n, x, i => if i < n then (if 0 ≤ i then (if i < (x.length : Int) then impl_boxOf.hv k n (x.set (i : Int).toNat (wrap64 (Int.tdiv (rd x i) 2))) (wrap64 (i + 1)) else none) else none) else some x
def impl_boxOf.fin (k : Nat) (K : Int) (L H : List Int) : Option (Int × List Int × List Int × Bool) := (impl_isBox.f k K L H).bind fun p => if p.1 = true then some (K, L, H, true) else some (0, [], [], false)
/-! impl_scaled -/
/-! laws_eqBox -/
/-! laws_eqBoxS -/
/-! laws_heldIntS -/
/-! laws_heldBoxS -/
/-! spec_dyGood -/
def spec_dyGood.f (a0_0 : Int) (a0_1 : Int) : Option (Bool) := (spec_l1In.f a0_1 0 24).bind fun t296 => (if t296 = true then ((spec_l1In.f a0_0 (-1099511627776) 1099511627776).bind fun t297 => (if t297 = true then (if a0_1 = 0 then (some true) else (some ((Int.tmod a0_0 2) != 0))) else (some false))) else (some false))
/-! spec_dyMake -/
mutual
def spec_dyMake.j0 : Nat → Int → Int → Bool → Option (Int × Int × Bool)
  | 0, _, _, _ => none
  | k + 1, x0, x1, x12 => if x12 = true then (spec_dyMake.j1 k x0 0) else (spec_dyMake.j1 k x0 x1)
def spec_dyMake.j1 : Nat → Int → Int → Option (Int × Int × Bool)
  | 0, _, _ => none
  | k + 1, x0, x1 => spec_dyMake.l0 k x0 x1
def spec_dyMake.l0 : Nat → Int → Int → Option (Int × Int × Bool)
  | 0, _, _ => none
  | k + 1, x0, x1 => if x1 > 0 then (if (Int.tmod x0 2) = 0 then (spec_dyMake.l0 k (wrap64 (Int.tdiv x0 2)) (wrap64 (x1 - 1))) else ((spec_dyGood.f x0 x1).bind fun t300 => (if t300 = true then (some (x0, x1, true)) else (some (0, 0, false))))) else ((spec_dyGood.f x0 x1).bind fun t302 => (if t302 = true then (some (x0, x1, true)) else (some (0, 0, false))))
end
def spec_dyMake.f (k : Nat) (a0 : Int) (a1 : Int) : Option (Int × Int × Bool) := if a0 = 0 then (spec_dyMake.j0 k a0 a1 (decide (a1 > 0))) else (spec_dyMake.j0 k a0 a1 false)
/-! spec_bxNumber -/
def spec_bxNumber.f (k : Nat) (a0 : Int) (a1 : Int) : Option (Int × Int) := (spec_dyMake.f k a0 a1).bind fun bt304 => (some (bt304.1, bt304.2.1))
/-! spec_bxCorners -/
mutual
def spec_bxCorners.l0 : Nat → Int → List (List (S37)) → List Int → Int → Int → Int → List Int → List Int → Option ((List (List (S37))))
  | 0, _, _, _, _, _, _, _, _ => none
  | k + 1, x1, x5, x26, x27, x28, x309000, x309001, x309002 => if x28 < x27 then (if 0 ≤ x28 then (if x28 < (x26.length : Int) then ((spec_bxCorners.f k x309000 x309001 x309002 (wrap64 (x1 + 1))).bind fun t318 => (spec_bxCorners.l1 k x1 x5 (rd x26 x28) x26 x27 x28 t318 (t318.length : Int) 0 x309000 x309001 x309002)) else (none)) else (none)) else (some x5)
def spec_bxCorners.l1 : Nat → Int → List (List (S37)) → Int → List Int → Int → Int → List (List (S37)) → Int → Int → Int → List Int → List Int → Option ((List (List (S37))))
  | 0, _, _, _, _, _, _, _, _, _, _, _, _ => none
  | k + 1, x1, x5, x7, x26, x27, x28, x35, x36, x37, x309000, x309001, x309002 => if x37 < x36 then (if 0 ≤ x37 then (if x37 < (x35.length : Int) then ((spec_bxNumber.f k x7 x309000).bind fun bt322 => ((some (([(⟨bt322.1, bt322.2⟩ : S37)] : List (S37)) : List (S37))).bind fun y324 => (if y324.length + (rd_L4 x35 x37).length < 8796093022208 then (if x5.length < 5864062014805 then (spec_bxCorners.l1 k x1 (x5 ++ [(y324 ++ (rd_L4 x35 x37))]) x7 x26 x27 x28 x35 x36 (wrap64 (x37 + 1)) x309000 x309001 x309002) else (none)) else (none)))) else (none)) else (none)) else (spec_bxCorners.l0 k x1 x5 x26 x27 (wrap64 (x28 + 1)) x309000 x309001 x309002)
def spec_bxCorners.f : Nat → Int → List Int → List Int → Int → Option ((List (List (S37))))
  | 0, _, _, _, _ => none
  | k + 1, a0_0, l0_1, l0_2, a1 => if a1 = (l0_1.length : Int) then (some (([[]] : List (List (S37))))) else (if 0 ≤ a1 then (if a1 < (l0_1.length : Int) then (if a1 < (l0_2.length : Int) then ((some (([rd l0_1 a1, rd l0_2 a1] : List Int) : List Int)).bind fun y314 => (spec_bxCorners.l0 k a1 ([] : List (List (S37))) y314 (y314.length : Int) 0 a0_0 l0_1 l0_2)) else (none)) else (none)) else (none))
end
/-! spec_CornersOf -/
def spec_CornersOf.f (k : Nat) (a0_0 : Int) (l0_1 : List Int) (l0_2 : List Int) : Option ((List (List (S37))) × Bool) := (spec_bxGood.f k a0_0 l0_1 l0_2).bind fun t334 => (if t334 = true then ((spec_bxCorners.f k a0_0 l0_1 l0_2 0).bind fun t335 => (some (t335, true))) else (some (([] : List (List (S37))), false)))
/-! impl_size -/
def impl_size.f (a0 : Int) : Option (Int) := if a0 < 0 then (some (IntKind.u64.wrap (wrap64 (-a0)))) else (some (IntKind.u64.wrap (a0)))
/-! impl_wideOf -/
def impl_wideOf.f (a0 : Int) : Option (Bool × Int × Int) := (impl_size.f a0).bind fun t339 => (some (decide (a0 < 0), 0, t339))
/-! impl_wide_isZero -/
def impl_wide_isZero.f (a0_0 : Bool) (a0_1 : Int) (a0_2 : Int) : Option (Bool) := if a0_1 = 0 then (some (a0_2 == 0)) else (some false)
/-! impl_wide_shift -/
def impl_wide_shift.f (a0_0 : Bool) (a0_1 : Int) (a0_2 : Int) (a1 : Int) : Option (Bool × Int × Int) := if a1 ≥ 0 then (if a1 ≥ 64 then (if 0 ≤ (wrap64 (a1 - 64)) then (some (a0_0, shl .u64 a0_2 (wrap64 (a1 - 64)), 0)) else (none)) else (if 0 ≤ a1 then (if 0 ≤ (wrap64 (64 - a1)) then (some (a0_0, Go.bits .or .u64 (shl .u64 a0_1 a1) (shr .u64 a0_2 (wrap64 (64 - a1))), shl .u64 a0_2 a1)) else (none)) else (none))) else (if (wrap64 (-a1)) ≥ 64 then (if 0 ≤ (wrap64 ((wrap64 (-a1)) - 64)) then (some (a0_0, 0, shr .u64 a0_1 (wrap64 ((wrap64 (-a1)) - 64)))) else (none)) else (if 0 ≤ (wrap64 (-a1)) then (if 0 ≤ (wrap64 (64 - (wrap64 (-a1)))) then (some (a0_0, shr .u64 a0_1 (wrap64 (-a1)), Go.bits .or .u64 (shr .u64 a0_2 (wrap64 (-a1))) (shl .u64 a0_1 (wrap64 (64 - (wrap64 (-a1))))))) else (none)) else (none)))
/-! impl_wide_fit -/
mutual
def impl_wide_fit.j1 : Nat → Int → Bool → Int → Int → Option (Int × Int × Bool)
  | 0, _, _, _, _ => none
  | k + 1, x1, x344000, x344001, x344002 => if x1 > 24 then (impl_wide_fit.j2 k x1 true x344000 x344001 x344002) else (if x344001 > 0 then (impl_wide_fit.j2 k x1 true x344000 x344001 x344002) else (impl_wide_fit.j2 k x1 (decide (x344002 > 1099511627776)) x344000 x344001 x344002))
def impl_wide_fit.j2 : Nat → Int → Bool → Bool → Int → Int → Option (Int × Int × Bool)
  | 0, _, _, _, _, _ => none
  | k + 1, x1, x33, x344000, x344001, x344002 => if x33 = true then (some (0, 0, false)) else (if x344000 = true then (some (wrap64 (-(wrap64 (x344002))), x1, true)) else (some (wrap64 (x344002), x1, true)))
def impl_wide_fit.l0 : Nat → Int → Bool → Int → Int → Option (Int × Int × Bool)
  | 0, _, _, _, _ => none
  | k + 1, x1, x344000, x344001, x344002 => if x1 > 0 then (if (Int.tmod x344002 2) = 0 then ((impl_wide_shift.f x344000 x344001 x344002 (-1)).bind fun bt346 => (impl_wide_fit.l0 k (wrap64 (x1 - 1)) bt346.1 bt346.2.1 bt346.2.2)) else (impl_wide_fit.j1 k x1 x344000 x344001 x344002)) else (impl_wide_fit.j1 k x1 x344000 x344001 x344002)
end
def impl_wide_fit.f (k : Nat) (a0_0 : Bool) (a0_1 : Int) (a0_2 : Int) (a1 : Int) : Option (Int × Int × Bool) := (impl_wide_isZero.f a0_0 a0_1 a0_2).bind fun t345 => (if t345 = true then (some (0, 0, true)) else (impl_wide_fit.l0 k a1 a0_0 a0_1 a0_2))
/-! impl_Box_dyadic -/
-- HAND rounds=1 making=1
/-- A number of a box, as a dyadic one; the box stays. -/
def impl_Box_dyadic.f (k : Nat) (s0_0 : Int) (s0_1 : List Int) (s0_2 : List Int) (a1 : Int) : Option (Int × Int × Int) := (impl_wideOf.f a1).bind fun t => (impl_wide_fit.f k t.1 t.2.1 t.2.2 s0_0).bind fun u => some (u.1, u.2.1, s0_0)
theorem impl_Box_dyadic.keep {k : Nat} {s i r1 r2 s' : Int} {a b : List Int} (h : impl_Box_dyadic.f k s a b i = some (r1, r2, s')) : s = s' := by
  unfold impl_Box_dyadic.f at h
  obtain ⟨t, _, h⟩ := Option.bind_eq_some_iff.mp h
  obtain ⟨u, _, h⟩ := Option.bind_eq_some_iff.mp h
  simp only [Option.some.injEq, Prod.mk.injEq] at h
  exact h.2.2
/-! impl_Box_side -/
-- HAND rounds=1 making=1
/-- Both numbers of a side; the box stays. -/
def impl_Box_side.f (k : Nat) (s0_0 : Int) (s0_1 : List Int) (s0_2 : List Int) (a1 : Int) : Option (Int × Int × Int × Int × Int) := if 0 ≤ a1 then (if a1 < (s0_1.length : Int) then (if a1 < (s0_2.length : Int) then ((impl_Box_dyadic.f k s0_0 s0_1 s0_2 (rd s0_1 a1)).bind fun t => (impl_Box_dyadic.f k s0_0 s0_1 s0_2 (rd s0_2 a1)).bind fun u => some (t.1, t.2.1, u.1, u.2.1, s0_0)) else (none)) else (none)) else (none)
/-! impl_Dyadic -/
-- HAND rounds=0 making=1
def impl_Dyadic.f (l0 : List (S37)) : Option ((List (S37))) := (some (([] : List (S37)) : List (S37))).bind fun y355 => (if y355.length + l0.length < 8796093022208 then (some (y355 ++ l0)) else (none))
/-! impl_CornersOf -/
-- HAND rounds=1 making=1
mutual
def impl_CornersOf.l0 : Nat → List (List (S37)) → Int → Int → Int → List Int → List Int → Option ((List (List (S37))) × Bool)
  | 0, _, _, _, _, _, _ => none
  | k + 1, x4, x16, x17, x350000, x350001, x350002 => if x17 < x16 then ((impl_Box_side.f k x350000 x350001 x350002 x17).bind fun bt355 => (impl_CornersOf.l1 k ([] : List (List (S37))) x16 x17 x4 (x4.length : Int) 0 bt355.2.2.2.2 x350001 x350002 bt355.1 bt355.2.1 bt355.2.2.1 bt355.2.2.2.1)) else (some (x4, true))
def impl_CornersOf.l1 : Nat → List (List (S37)) → Int → Int → List (List (S37)) → Int → Int → Int → List Int → List Int → Int → Int → Int → Int → Option ((List (List (S37))) × Bool)
  | 0, _, _, _, _, _, _, _, _, _, _, _, _, _ => none
  | k + 1, x8, x16, x17, x25, x26, x27, x350000, x350001, x350002, x361000, x361001, x362000, x362001 => if x27 < x26 then (if 0 ≤ x27 then (if x27 < (x25.length : Int) then ((impl_Dyadic.f (rd_L4 x25 x27)).bind fun t363 => ((some (([(⟨x361000, x361001⟩ : S37)] : List (S37)) : List (S37))).bind fun y366 => (if t363.length + y366.length < 8796093022208 then ((impl_Dyadic.f (rd_L4 x25 x27)).bind fun t372 => ((some (([(⟨x362000, x362001⟩ : S37)] : List (S37)) : List (S37))).bind fun y375 => (if t372.length + y375.length < 8796093022208 then ((some (([(t363 ++ y366), (t372 ++ y375)] : List (List (S37))) : List (List (S37)))).bind fun y381 => (if x8.length + y381.length < 5864062014805 then (impl_CornersOf.l1 k (x8 ++ y381) x16 x17 x25 x26 (wrap64 (x27 + 1)) x350000 x350001 x350002 x361000 x361001 x362000 x362001) else (none))) else (none)))) else (none)))) else (none)) else (none)) else (impl_CornersOf.l0 k x8 x16 (wrap64 (x17 + 1)) x350000 x350001 x350002)
end
def impl_CornersOf.f (k : Nat) (a0_0 : Int) (l0_1 : List Int) (l0_2 : List Int) : Option ((List (List (S37))) × Bool) := (impl_isBox.f k a0_0 l0_1 l0_2).bind fun bt350 => (if bt350.1 = true then (impl_CornersOf.l0 k (([[]] : List (List (S37)))) (l0_1.length : Int) 0 bt350.2 l0_1 l0_2) else (some (([] : List (List (S37))), false)))
/-! laws_eqDyadic -/
def laws_eqDyadic.f (a0_0 : Int) (a0_1 : Int) (a1_0 : Int) (a1_1 : Int) : Option (Bool) := if a0_0 = a1_0 then (if a0_1 = a1_1 then (some true) else (some false)) else (some false)
/-! laws_eqDyadicS -/
def laws_eqDyadicS.l0 : Nat → List (S37) → List (S37) → Int → Option (Bool)
  | 0, _, _, _ => none
  | k + 1, x0, x1, x5 => if x5 < (x0.length : Int) then (if 0 ≤ x5 then (if x5 < (x1.length : Int) then ((laws_eqDyadic.f ((rd_T37 x0 x5).f0) ((rd_T37 x0 x5).f1) ((rd_T37 x1 x5).f0) ((rd_T37 x1 x5).f1)).bind fun t353 => (if t353 = true then (laws_eqDyadicS.l0 k x0 x1 (wrap64 (x5 + 1))) else (some false))) else (none)) else (none)) else (some true)
def laws_eqDyadicS.f (k : Nat) (l0 : List (S37)) (l1 : List (S37)) : Option (Bool) := if (l0.length : Int) = (l1.length : Int) then (laws_eqDyadicS.l0 k l0 l1 0) else (some false)
/-! laws_eqDyadicSS -/
def laws_eqDyadicSS.l0 : Nat → List (List (S37)) → List (List (S37)) → Int → Option (Bool)
  | 0, _, _, _ => none
  | k + 1, x0, x1, x5 => if x5 < (x0.length : Int) then (if 0 ≤ x5 then (if x5 < (x1.length : Int) then ((laws_eqDyadicS.f k (rd_L4 x0 x5) (rd_L4 x1 x5)).bind fun t356 => (if t356 = true then (laws_eqDyadicSS.l0 k x0 x1 (wrap64 (x5 + 1))) else (some false))) else (none)) else (none)) else (some true)
def laws_eqDyadicSS.f (k : Nat) (l0 : List (List (S37))) (l1 : List (List (S37))) : Option (Bool) := if (l0.length : Int) = (l1.length : Int) then (laws_eqDyadicSS.l0 k l0 l1 0) else (some false)
/-! laws_markDyadicS -/
def laws_markDyadicS.l0 : Nat → List (S37) → Int → Int → Option (Int × (List (S37)))
  | 0, _, _, _ => none
  | k + 1, x0, x1, x5 => if x5 < (x0.length : Int) then (if 0 ≤ x5 then ((some (x0.set (x5 : Int).toNat (⟨x1, (rd_T37 x0 x5).f1⟩ : S37) : List (S37))).bind fun y357 => (laws_markDyadicS.l0 k (y357.set (x5 : Int).toNat (⟨(rd_T37 y357 x5).f0, wrap64 (x1 + 1)⟩ : S37)) (wrap64 ((wrap64 (x1 + 1)) + 1)) (wrap64 (x5 + 1)))) else (none)) else (some (x1, x0))
def laws_markDyadicS.f (k : Nat) (l0 : List (S37)) (a1 : Int) : Option (Int × (List (S37))) := laws_markDyadicS.l0 k l0 a1 0
/-! laws_markDyadicSS -/
-- HAND rounds=1 making=1
def laws_markDyadicSS.rd (xs : List (List S37)) (i : Int) : List S37 := xs.getD i.toNat []
def laws_markDyadicSS.l0 : Nat → List (List (S37)) → Int → Int → Option (Int × List (List (S37)))
  | 0, _, _, _ => none
  | k + 1, x0, x1, x5 => if x5 < (x0.length : Int) then (if 0 ≤ x5 then ((laws_markDyadicS.f k (laws_markDyadicSS.rd x0 x5) x1).bind fun t => (laws_markDyadicSS.l0 k (x0.set x5.toNat t.2) t.1 (wrap64 (x5 + 1)))) else (none)) else (some (x1, x0))
def laws_markDyadicSS.f (k : Nat) (l0 : List (List (S37))) (a1 : Int) : Option (Int × List (List (S37))) := laws_markDyadicSS.l0 k l0 a1 0
/-! laws_heldDyadicS -/
def laws_heldDyadicS.l0 : Nat → List (S37) → Int → Int → Option (Int)
  | 0, _, _, _ => none
  | k + 1, x0, x1, x5 => if x5 < (x0.length : Int) then (if 0 ≤ x5 then (if ((rd_T37 x0 x5).f0) = x1 then (if ((rd_T37 x0 x5).f1) = (wrap64 (x1 + 1)) then (laws_heldDyadicS.l0 k x0 (wrap64 ((wrap64 (x1 + 1)) + 1)) (wrap64 (x5 + 1))) else (some (-1))) else (some (-1))) else (none)) else (some x1)
def laws_heldDyadicS.f (k : Nat) (l0 : List (S37)) (a1 : Int) : Option (Int) := laws_heldDyadicS.l0 k l0 a1 0
/-! laws_heldDyadicSS -/
def laws_heldDyadicSS.l0 : Nat → List (List (S37)) → Int → Int → Option (Int)
  | 0, _, _, _ => none
  | k + 1, x0, x1, x5 => if x5 < (x0.length : Int) then (if 0 ≤ x5 then ((laws_heldDyadicS.f k (rd_L4 x0 x5) x1).bind fun t362 => (if t362 < 0 then (some (-1)) else (laws_heldDyadicSS.l0 k x0 t362 (wrap64 (x5 + 1))))) else (none)) else (some x1)
def laws_heldDyadicSS.f (k : Nat) (l0 : List (List (S37))) (a1 : Int) : Option (Int) := laws_heldDyadicSS.l0 k l0 a1 0
/-! laws_FnExactCornersOf -/
-- HAND rounds=1 making=1
def laws_FnExactCornersOf.f (k : Nat) (a0_0 : Int) (l0_1 : List Int) (l0_2 : List Int) : Option (Bool) := (laws_szBox.f a0_0 l0_1 l0_2 1000000).bind fun t364 => (if t364 < 0 then (some true) else ((laws_toBox.f k a0_0 l0_1 l0_2 false).bind fun bt365 => ((spec_CornersOf.f k bt365.1 bt365.2.1 bt365.2.2).bind fun bt372 => ((laws_toBox.f k a0_0 l0_1 l0_2 false).bind fun bt376 => ((impl_CornersOf.f k bt376.1 bt376.2.1 bt376.2.2).bind fun bt384 => ((laws_eqDyadicSS.f k bt384.1 bt372.1).bind fun t388 => (if t388 = true then (if (bt384.2 != bt372.2) = true then (none) else ((laws_toBox.f k a0_0 l0_1 l0_2 false).bind fun bt389 => ((laws_intactBox.f bt376.1 bt376.2.1 bt376.2.2 bt389.1 bt389.2.1 bt389.2.2).bind fun t396 => (if t396 = true then ((laws_markBox.f k bt376.1 bt376.2.1 bt376.2.2 101).bind fun bt397 => (if bt397.1 < 0 then (none) else ((laws_eqDyadicSS.f k bt384.1 bt372.1).bind fun t400 => (if t400 = true then ((laws_markDyadicSS.f k bt384.1 101).bind fun bt401 => ((laws_heldDyadicSS.f k bt401.2 101).bind fun t402 => (if t402 < 0 then (none) else (if t402 = bt401.1 then ((laws_toBox.f k a0_0 l0_1 l0_2 true).bind fun bt403 => ((impl_CornersOf.f k bt403.1 bt403.2.1 bt403.2.2).bind fun bt410 => ((laws_eqDyadicSS.f k bt410.1 bt372.1).bind fun t414 => (if t414 = true then (if (bt410.2 != bt372.2) = true then (none) else ((laws_heldDyadicSS.f k bt401.2 101).bind fun t415 => (if t415 < 0 then (none) else (if t415 = bt401.1 then (some true) else (none))))) else (none))))) else (none))))) else (none))))) else (none))))) else (none))))))))
end Go.Proofs.Ytgaoniapddpaaaa.PD
