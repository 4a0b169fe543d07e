-- By wip/mk/drv.py
import Derived.Test.YtgaoniapddpaaaaQIsBodePDx0
namespace Go.Proofs.Ytgaoniapddpaaaa.PD
open Go.RowKit Go.Proofs.YtgaoniapddpaaaaW.PrintWords Go.Proofs.YtgaoniapddpaaaaW.PrintLast Go.Proofs.YtgaoniapddpaaaaW.PrintMore
attribute [local go_sem] max2_int min2_int max_two min_two max_three min_three max_four min_four
set_option linter.unusedVariables false
set_option linter.unusedSimpArgs false
/-! laws_szIntS -/
def laws_szIntS.f (l0 : List Int) (a1 : Int) : Option (Int) := if (wrap64 (a1 - (l0.length : Int))) < 0 then (some (-1)) else (some (wrap64 (a1 - (l0.length : Int))))
/-! laws_szBox -/
def laws_szBox.f (a0_0 : Int) (l0_1 : List Int) (l0_2 : List Int) (a1 : Int) : Option (Int) := (laws_szIntS.f l0_1 a1).bind fun t102 => (if t102 < 0 then (some (-1)) else ((laws_szIntS.f l0_2 t102).bind fun t103 => (if t103 < 0 then (some (-1)) else (some t103))))
/-! spec_l1In -/
def spec_l1In.f (a0 : Int) (a1 : Int) (a2 : Int) : Option (Bool) := if a0 ≥ a1 then (some (decide (a0 ≤ a2))) else (some false)
/-! spec_dyPower -/
def spec_dyPower.f (a0 : Int) : Option (Int) := if 0 ≤ (IntKind.u64.wrap (a0)) then (some (shl .i64 1 (IntKind.u64.wrap (a0)))) else (none)
/-! spec_bxGood -/
mutual
def spec_bxGood.j0 : Nat → Bool → Int → List Int → List Int → Option (Bool)
  | 0, _, _, _, _ => none
  | k + 1, x27, x105000, x105001, x105002 => if x27 = true then (some false) else ((spec_dyPower.f x105000).bind fun t107 => (spec_bxGood.l0 k (wrap64 (8 * t107)) (x105000 == 0) x105001 (x105001.length : Int) 0 x105000 x105001 x105002))
def spec_bxGood.l0 : Nat → Int → Bool → List Int → Int → Int → Int → List Int → List Int → Option (Bool)
  | 0, _, _, _, _, _, _, _, _ => none
  | k + 1, x3, x4, x36, x37, x38, x105000, x105001, x105002 => if x38 < x37 then (if 0 ≤ x38 then (if x38 < (x36.length : Int) then (if x38 < (x105002.length : Int) then ((spec_l1In.f (rd x36 x38) (wrap64 (-x3)) x3).bind fun t110 => (if t110 = true then ((spec_l1In.f (rd x105002 x38) (wrap64 (-x3)) x3).bind fun t111 => (if t111 = true then (if (rd x36 x38) ≥ (rd x105002 x38) then (some false) else (if x4 = true then (spec_bxGood.l0 k x3 true x36 x37 (wrap64 (x38 + 1)) x105000 x105001 x105002) else (if (Int.tmod (rd x36 x38) 2) = 0 then (spec_bxGood.l0 k x3 ((Int.tmod (rd x105002 x38) 2) != 0) x36 x37 (wrap64 (x38 + 1)) x105000 x105001 x105002) else (spec_bxGood.l0 k x3 true x36 x37 (wrap64 (x38 + 1)) x105000 x105001 x105002)))) else (some false))) else (some false))) else (none)) else (none)) else (none)) else (some x4)
end
def spec_bxGood.f (k : Nat) (a0_0 : Int) (l0_1 : List Int) (l0_2 : List Int) : Option (Bool) := (spec_l1In.f a0_0 0 8).bind fun t105 => (if t105 = true then ((spec_l1In.f (l0_1.length : Int) 1 3).bind fun t106 => (if t106 = true then (spec_bxGood.j0 k ((l0_2.length : Int) != (l0_1.length : Int)) a0_0 l0_1 l0_2) else (spec_bxGood.j0 k true a0_0 l0_1 l0_2))) else (spec_bxGood.j0 k true a0_0 l0_1 l0_2))
/-! spec_IsBox -/
/-! laws_roomBehind -/
def laws_roomBehind.f (a0 : Int) : Option (Int) := if (Int.tmod a0 6) = 5 then (some 0) else (if (Int.tmod a0 3) = 0 then (some 1) else (some a0))
/-! laws_toIntS -/
mutual
def laws_toIntS.j0 : Nat → List Int → Bool → Option (List Int)
  | 0, _, _ => none
  | k + 1, x0, x13 => if x13 = true then (some ([] : List Int)) else ((laws_roomBehind.f (x0.length : Int)).bind fun t114 => (if 0 ≤ (wrap64 ((x0.length : Int) + t114)) then (if (wrap64 ((x0.length : Int) + t114) : Int).toNat ≤ 35184372088832 then (laws_toIntS.l0 k x0 (List.replicate (wrap64 ((x0.length : Int) + t114) : Int).toNat 0) 0) else (none)) else (none)))
def laws_toIntS.l0 : Nat → List Int → List Int → Int → Option (List Int)
  | 0, _, _, _ => none
  | k + 1, x0, x5, x6 => if x6 < (x0.length : Int) then (if 0 ≤ x6 then (if x6 < (x5.length : Int) then (laws_toIntS.l0 k x0 (x5.set (x6 : Int).toNat (rd x0 x6)) (wrap64 (x6 + 1))) else (none)) else (none)) else (laws_toIntS.l1 k x0 x5 (x0.length : Int))
def laws_toIntS.l1 : Nat → List Int → List Int → Int → Option (List Int)
  | 0, _, _, _ => none
  | k + 1, x0, x5, x7 => if x7 < (x5.length : Int) then (if 0 ≤ x7 then (laws_toIntS.l1 k x0 (x5.set (x7 : Int).toNat (-7000000000000000101)) (wrap64 (x7 + 1))) else (none)) else (if 0 ≤ (x0.length : Int) then (if (x0.length : Int) ≤ (x5.length : Int) then (some (x5.take ((x0.length : Int) : Int).toNat)) else (none)) else (none))
end
def laws_toIntS.f (k : Nat) (l0 : List Int) (a1 : Bool) : Option (List Int) := if a1 = true then (laws_toIntS.j0 k l0 ((l0.length : Int) == 0)) else (laws_toIntS.j0 k l0 false)
/-! laws_toBox -/
def laws_toBox.f (k : Nat) (a0_0 : Int) (l0_1 : List Int) (l0_2 : List Int) (a1 : Bool) : Option (Int × List Int × List Int) := (laws_toIntS.f k l0_1 a1).bind fun t127 => ((laws_toIntS.f k l0_2 a1).bind fun t130 => (some (a0_0, t127, t130)))
/-! impl_inside -/
def impl_inside.f (a0 : Int) (a1 : Int) (a2 : Int) : Option (Bool) := if a0 ≥ a1 then (some (decide (a0 ≤ a2))) else (some false)
/-! impl_isBox -/
mutual
def impl_isBox.j0 : Nat → Bool → Int → List Int → List Int → Option (Bool × Int)
  | 0, _, _, _, _ => none
  | k + 1, x34, x1000, x1001, x1002 => if x34 = true then (some (false, x1000)) else (if 0 ≤ x1000 then (impl_isBox.l0 k (shl .i64 8 x1000) (x1000 == 0) x1001 (x1001.length : Int) 0 x1000 x1001 x1002) else (none))
def impl_isBox.l0 : Nat → Int → Bool → List Int → Int → Int → Int → List Int → List Int → Option (Bool × Int)
  | 0, _, _, _, _, _, _, _, _ => none
  | k + 1, x3, x4, x48, x49, x50, x1000, x1001, x1002 => if x50 < x49 then (if 0 ≤ x50 then (if x50 < (x48.length : Int) then ((impl_inside.f (rd x48 x50) (wrap64 (-x3)) x3).bind fun t136 => (if t136 = true then (if x50 < (x1002.length : Int) then ((impl_inside.f (rd x1002 x50) (wrap64 ((rd x48 x50) + 1)) x3).bind fun t138 => (if t138 = true then (if x4 = true then (impl_isBox.l0 k x3 true x48 x49 (wrap64 (x50 + 1)) x1000 x1001 x1002) else (if (Int.tmod (rd x48 x50) 2) = 0 then (impl_isBox.l0 k x3 ((Int.tmod (rd x1002 x50) 2) != 0) x48 x49 (wrap64 (x50 + 1)) x1000 x1001 x1002) else (impl_isBox.l0 k x3 true x48 x49 (wrap64 (x50 + 1)) x1000 x1001 x1002))) else (some (false, x1000)))) else (none)) else (some (false, x1000)))) else (none)) else (none)) else (some (x4, x1000))
end
def impl_isBox.f (k : Nat) (s0_0 : Int) (s0_1 : List Int) (s0_2 : List Int) : Option (Bool × Int) := (impl_inside.f s0_0 0 8).bind fun t133 => (if t133 = true then ((impl_inside.f (s0_1.length : Int) 1 3).bind fun t134 => (if t134 = true then (impl_isBox.j0 k ((s0_2.length : Int) != (s0_1.length : Int)) s0_0 s0_1 s0_2) else (impl_isBox.j0 k true s0_0 s0_1 s0_2))) else (impl_isBox.j0 k true s0_0 s0_1 s0_2))
/-! impl_IsBox -/
/-! laws_eqIntS -/
def laws_eqIntS.l0 : Nat → List Int → List Int → Int → Option (Bool)
  | 0, _, _, _ => none
  | k + 1, x0, x1, x5 => if x5 < (x0.length : Int) then (if 0 ≤ x5 then (if x5 < (x1.length : Int) then (if (rd x0 x5) = (rd x1 x5) then (laws_eqIntS.l0 k x0 x1 (wrap64 (x5 + 1))) else (some false)) else (none)) else (none)) else (some true)
def laws_eqIntS.f (k : Nat) (l0 : List Int) (l1 : List Int) : Option (Bool) := if (l0.length : Int) = (l1.length : Int) then (laws_eqIntS.l0 k l0 l1 0) else (some false)
/-! laws_intactIntS -/
-- HAND rounds=0 making=0
/-- Whether two lists are one, their spare cells as toIntS lays them. -/
def laws_intactIntS.f (l0 : List Int) (l1 : List Int) : Option (Bool) := if l0 = l1 then some true else none
/-! laws_intactBox -/
def laws_intactBox.f (a0_0 : Int) (l0_1 : List Int) (l0_2 : List Int) (a1_0 : Int) (l1_1 : List Int) (l1_2 : List Int) : Option (Bool) := if a0_0 = a1_0 then ((laws_intactIntS.f l0_1 l1_1).bind fun t147 => (if t147 = true then ((laws_intactIntS.f l0_2 l1_2).bind fun t148 => (if t148 = true then (some true) else (some false))) else (some false))) else (some false)
/-! laws_FnExactIsBox -/
/-! spec_bxWidest -/
/-! spec_WidestSide -/
/-! impl_Box_length -/
/-! impl_WidestSide -/
/-! laws_FnExactWidestSide -/
/-! spec_bxSide -/
/-! spec_dyGood -/
/-! spec_dyMake -/
/-! spec_bxNumber -/
/-! spec_SideOf -/
/-! impl_Box_has -/
/-! impl_size -/
/-! impl_wideOf -/
/-! impl_wide_isZero -/
/-! impl_wide_shift -/
/-! impl_wide_fit -/
/-! impl_Box_dyadic -/
-- HAND rounds=1 making=1
/-! impl_Box_side -/
-- HAND rounds=1 making=1
/-! impl_SideOf -/
/-! laws_eqDyadic -/
/-! laws_FnExactSideOf -/
/-! spec_bxVolume -/
/-! spec_VolumeOf -/
/-! impl_Box_volume -/
-- HAND rounds=1 making=1
/-! impl_VolumeOf -/
/-! laws_FnExactVolumeOf -/
/-! laws_markIntS -/
/-! laws_markBox -/
/-! spec_bxMiddle -/
/-! spec_MiddlePoint -/
/-! impl_Box_middle -/
-- HAND rounds=1 making=1
/-! impl_MiddlePoint -/
/-! laws_eqDyadicS -/
/-! laws_markDyadicS -/
/-! laws_heldDyadicS -/
/-! laws_FnExactMiddlePoint -/
/-! spec_bxTwo -/
def spec_bxTwo.f (k : Nat) (a0_0 : Int) (l0_1 : List Int) (l0_2 : List Int) (a1_0 : Int) (l1_1 : List Int) (l1_2 : List Int) : Option (Bool) := (spec_bxGood.f k a0_0 l0_1 l0_2).bind fun t504 => (if t504 = true then ((spec_bxGood.f k a1_0 l1_1 l1_2).bind fun t505 => (if t505 = true then (some ((l0_1.length : Int) == (l1_1.length : Int))) else (some false))) else (some false))
/-! spec_bxAt -/
def spec_bxAt.l0 : Nat → List Int → List Int → Int → List Int → Int → Int → Int → List Int → List Int → Option (List Int × List Int)
  | 0, _, _, _, _, _, _, _, _, _ => none
  | k + 1, x4, x5, x6, x14, x15, x16, x507000, x507001, x507002 => if x16 < x15 then (if 0 ≤ x16 then (if x16 < (x14.length : Int) then (if x4.length < 17592186044416 then (if x16 < (x507002.length : Int) then (if x5.length < 17592186044416 then (spec_bxAt.l0 k (x4 ++ [wrap64 ((rd x14 x16) * x6)]) (x5 ++ [wrap64 ((rd x507002 x16) * x6)]) x6 x14 x15 (wrap64 (x16 + 1)) x507000 x507001 x507002) else (none)) else (none)) else (none)) else (none)) else (none)) else (some (x4, x5))
def spec_bxAt.f (k : Nat) (a0_0 : Int) (l0_1 : List Int) (l0_2 : List Int) : Option (List Int × List Int) := (spec_dyPower.f (wrap64 (8 - a0_0))).bind fun t507 => (spec_bxAt.l0 k ([] : List Int) ([] : List Int) t507 l0_1 (l0_1.length : Int) 0 a0_0 l0_1 l0_2)
theorem spec_bxAt.mono_l : ∀ k, (∀ y0 y1 y2 y3 y4 y5 y6 y7 y8, LeO (spec_bxAt.l0 k y0 y1 y2 y3 y4 y5 y6 y7 y8) (spec_bxAt.l0 (k + 1) y0 y1 y2 y3 y4 y5 y6 y7 y8))
  | 0 => fun _ _ _ _ _ _ _ _ _ r h => by simp [spec_bxAt.l0] at h
  | k + 1 => by
    have ih0 := spec_bxAt.mono_l k
    · intro y0 y1 y2 y3 y4 y5 y6 y7 y8
      unfold spec_bxAt.l0
      repeat' first
      | (with_reducible exact ih0 _ _ _ _ _ _ _ _ _)
      | (with_reducible exact LeO.refl _)
      | (with_reducible exact LeO.none _)
      | (with_reducible refine LeO.ite ?_ ?_)
      | (with_reducible refine LeO.bind ?_ (fun _ => ?_))
      | exact ih0 _ _ _ _ _ _ _ _ _
      | exact LeO.none _
      | refine LeO.ite ?_ ?_
      | refine LeO.bind ?_ (fun _ => ?_)
theorem spec_bxAt.mono : ∀ a0 a1 a2 k, LeO (spec_bxAt.f k a0 a1 a2) (spec_bxAt.f (k + 1) a0 a1 a2) := by
  intro a0 a1 a2 k
  have ih0 := spec_bxAt.mono_l k
  unfold spec_bxAt.f
  repeat' first
      | (with_reducible exact ih0 _ _ _ _ _ _ _ _ _)
      | (with_reducible exact LeO.refl _)
      | (with_reducible exact LeO.none _)
      | (with_reducible refine LeO.ite ?_ ?_)
      | (with_reducible refine LeO.bind ?_ (fun _ => ?_))
      | exact ih0 _ _ _ _ _ _ _ _ _
      | exact LeO.none _
      | refine LeO.ite ?_ ?_
      | refine LeO.bind ?_ (fun _ => ?_)
/-! spec_bxIn -/
def spec_bxIn.l0 : Nat → List Int → List Int → List Int → List Int → Int → Int → Option (Bool)
  | 0, _, _, _, _, _, _ => none
  | k + 1, x6, x7, x8, x21, x22, x23 => if x23 < x22 then (if 0 ≤ x23 then (if x23 < (x21.length : Int) then (if x23 < (x7.length : Int) then (if (rd x21 x23) < (rd x7 x23) then (some false) else (if x23 < (x6.length : Int) then (if x23 < (x8.length : Int) then (if (rd x6 x23) > (rd x8 x23) then (some false) else (spec_bxIn.l0 k x6 x7 x8 x21 x22 (wrap64 (x23 + 1)))) else (none)) else (none))) else (none)) else (none)) else (none)) else (some true)
def spec_bxIn.f (k : Nat) (a0_0 : Int) (l0_1 : List Int) (l0_2 : List Int) (a1_0 : Int) (l1_1 : List Int) (l1_2 : List Int) : Option (Bool) := (spec_bxAt.f k a0_0 l0_1 l0_2).bind fun bt518 => ((spec_bxAt.f k a1_0 l1_1 l1_2).bind fun bt524 => (spec_bxIn.l0 k bt518.2 bt524.1 bt524.2 bt518.1 (bt518.1.length : Int) 0))
theorem spec_bxIn.mono_l : ∀ k, (∀ y0 y1 y2 y3 y4 y5, LeO (spec_bxIn.l0 k y0 y1 y2 y3 y4 y5) (spec_bxIn.l0 (k + 1) y0 y1 y2 y3 y4 y5))
  | 0 => fun _ _ _ _ _ _ r h => by simp [spec_bxIn.l0] at h
  | k + 1 => by
    have ih0 := spec_bxIn.mono_l k
    · intro y0 y1 y2 y3 y4 y5
      unfold spec_bxIn.l0
      repeat' first
      | (with_reducible exact ih0 _ _ _ _ _ _)
      | (with_reducible exact spec_bxAt.mono _ _ _ _)
      | (with_reducible exact LeO.refl _)
      | (with_reducible exact LeO.none _)
      | (with_reducible refine LeO.ite ?_ ?_)
      | (with_reducible refine LeO.bind ?_ (fun _ => ?_))
      | exact ih0 _ _ _ _ _ _
      | exact spec_bxAt.mono _ _ _ _
      | exact LeO.none _
      | refine LeO.ite ?_ ?_
      | refine LeO.bind ?_ (fun _ => ?_)
/-! spec_IsBoxInside -/
def spec_IsBoxInside.f (k : Nat) (a0_0 : Int) (l0_1 : List Int) (l0_2 : List Int) (a1_0 : Int) (l1_1 : List Int) (l1_2 : List Int) : Option (Bool × Bool) := (spec_bxTwo.f k a0_0 l0_1 l0_2 a1_0 l1_1 l1_2).bind fun t536 => (if t536 = true then ((spec_bxIn.f k a0_0 l0_1 l0_2 a1_0 l1_1 l1_2).bind fun t537 => (some (t537, true))) else (some (false, false)))
/-! impl_scaled -/
def impl_scaled.l0 : Nat → Int → List Int → List Int → Int → Int → Option (List Int)
  | 0, _, _, _, _, _ => none
  | k + 1, x1, x5, x8, x9, x10 => if x10 < x9 then (if 0 ≤ x10 then (if x10 < (x8.length : Int) then (if 0 ≤ x1 then (if x5.length < 17592186044416 then (impl_scaled.l0 k x1 (x5 ++ [shl .i64 (rd x8 x10) x1]) x8 x9 (wrap64 (x10 + 1))) else (none)) else (none)) else (none)) else (none)) else (some x5)
def impl_scaled.f (k : Nat) (l0 : List Int) (a1 : Int) : Option (List Int) := impl_scaled.l0 k a1 ([] : List Int) l0 (l0.length : Int) 0
/-! impl_align -/
-- HAND rounds=1 making=1
/-- The rows of two boxes with a common K. -/
def impl_align.f (k : Nat) (Ka : Int) (La Ma : List Int) (Kb : Int) (Lb Mb : List Int) : Option (List Int × List Int × List Int × List Int) := (impl_scaled.f k La (wrap64 (mx Ka Kb - Ka))).bind fun x1 => (impl_scaled.f k Ma (wrap64 (mx Ka Kb - Ka))).bind fun x2 => (impl_scaled.f k Lb (wrap64 (mx Ka Kb - Kb))).bind fun x3 => (impl_scaled.f k Mb (wrap64 (mx Ka Kb - Kb))).bind fun x4 => some (x1, x2, x3, x4)
/-! impl_IsBoxInside -/
-- HAND rounds=1 making=1
/-- Whether all points of a box are points of another one: the rows side by side. -/
def impl_IsBoxInside.l0 : Nat → List Int → List Int → List Int → List Int → Int → Option (Bool × Bool)
  | 0, _, _, _, _, _ => none
  | k + 1, x1, x2, x3, x4, i => if i < (x1.length : Int) then (if 0 ≤ i then (if i < (x3.length : Int) then (if rd x1 i < rd x3 i then some (false, true) else (if i < (x2.length : Int) then (if i < (x4.length : Int) then (if rd x2 i > rd x4 i then some (false, true) else impl_IsBoxInside.l0 k x1 x2 x3 x4 (wrap64 (i + 1))) else none) else none)) else none) else none) else some (true, true)
def impl_IsBoxInside.f (k : Nat) (a0_0 : Int) (l0_1 : List Int) (l0_2 : List Int) (a1_0 : Int) (l1_1 : List Int) (l1_2 : List Int) : Option (Bool × Bool) := (impl_isBox.f k a0_0 l0_1 l0_2).bind fun p => if p.1 = true then ((impl_isBox.f k a1_0 l1_1 l1_2).bind fun q => if q.1 = true then (if l0_1.length = l1_1.length then ((impl_align.f k p.2 l0_1 l0_2 q.2 l1_1 l1_2).bind fun x => impl_IsBoxInside.l0 k x.1 x.2.1 x.2.2.1 x.2.2.2 0) else some (false, false)) else some (false, false)) else some (false, false)
theorem impl_IsBoxInside.mono_l : ∀ k, (∀ y0 y1 y2 y3 y4, LeO (impl_IsBoxInside.l0 k y0 y1 y2 y3 y4) (impl_IsBoxInside.l0 (k + 1) y0 y1 y2 y3 y4))
  | 0 => fun _ _ _ _ _ r h => by simp [impl_IsBoxInside.l0] at h
  | k + 1 => by
    have ih0 := impl_IsBoxInside.mono_l k
    intro y0 y1 y2 y3 y4
    unfold impl_IsBoxInside.l0
    exact LeO.ite (LeO.ite (LeO.ite (LeO.ite (LeO.refl _) (LeO.ite (LeO.ite (LeO.ite (LeO.refl _) (ih0 _ _ _ _ _)) (LeO.refl _)) (LeO.refl _))) (LeO.refl _)) (LeO.refl _)) (LeO.refl _)
/-! laws_FnExactIsBoxInside -/
def laws_FnExactIsBoxInside.f (k : Nat) (a0_0 : Int) (l0_1 : List Int) (l0_2 : List Int) (a1_0 : Int) (l1_1 : List Int) (l1_2 : List Int) : Option (Bool) := (laws_szBox.f a0_0 l0_1 l0_2 1000000).bind fun t544 => (if t544 < 0 then (some true) else ((laws_szBox.f a1_0 l1_1 l1_2 t544).bind fun t545 => (if t545 < 0 then (some true) else ((laws_toBox.f k a0_0 l0_1 l0_2 false).bind fun bt546 => ((laws_toBox.f k a1_0 l1_1 l1_2 false).bind fun bt553 => ((spec_IsBoxInside.f k bt546.1 bt546.2.1 bt546.2.2 bt553.1 bt553.2.1 bt553.2.2).bind fun bt560 => ((laws_toBox.f k a0_0 l0_1 l0_2 false).bind fun bt562 => ((laws_toBox.f k a1_0 l1_1 l1_2 false).bind fun bt570 => ((impl_IsBoxInside.f k bt562.1 bt562.2.1 bt562.2.2 bt570.1 bt570.2.1 bt570.2.2).bind fun bt578 => (if (bt578.1 != bt560.1) = true then (none) else (if (bt578.2 != bt560.2) = true then (none) else ((laws_toBox.f k a0_0 l0_1 l0_2 false).bind fun bt580 => ((laws_intactBox.f bt562.1 bt562.2.1 bt562.2.2 bt580.1 bt580.2.1 bt580.2.2).bind fun t587 => (if t587 = true then ((laws_toBox.f k a1_0 l1_1 l1_2 false).bind fun bt588 => ((laws_intactBox.f bt570.1 bt570.2.1 bt570.2.2 bt588.1 bt588.2.1 bt588.2.2).bind fun t595 => (if t595 = true then ((laws_toBox.f k a0_0 l0_1 l0_2 true).bind fun bt596 => ((laws_toBox.f k a1_0 l1_1 l1_2 true).bind fun bt603 => ((impl_IsBoxInside.f k bt596.1 bt596.2.1 bt596.2.2 bt603.1 bt603.2.1 bt603.2.2).bind fun bt610 => (if (bt610.1 != bt560.1) = true then (none) else (if (bt610.2 != bt560.2) = true then (none) else (some true)))))) else (none)))) else (none)))))))))))))))
end Go.Proofs.Ytgaoniapddpaaaa.PD
