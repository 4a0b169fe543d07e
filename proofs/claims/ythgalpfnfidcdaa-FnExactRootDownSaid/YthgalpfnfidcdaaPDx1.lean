-- Written by a program of this session (wip/mk/drv.py) out of the seat's translation; Lean checks it.
import Derived.Test.YthgalpfnfidcdaaPDx0
namespace Go.Proofs.Ythgalpfnfidcdaa.PD
open Go.RowKit Go.Proofs.YthgalpfnfidcdaaW.PrintWords Go.Proofs.YthgalpfnfidcdaaW.PrintLast Go.Proofs.YthgalpfnfidcdaaW.PrintMore
attribute [local go_sem] max2_int min2_int max_two min_two max_three min_three max_four min_four   -- for this text's walks alone
set_option linter.unusedVariables false
set_option linter.unusedSimpArgs false

/-! spec_l1In -/
def spec_l1In.f (a0 : Int) (a1 : Int) (a2 : Int) : Option (Bool) := if a0 ≥ a1 then (some (decide (a0 ≤ a2))) else (some false)

/-! spec_dyGood -/
def spec_dyGood.f (a0_0 : Int) (a0_1 : Int) : Option (Bool) := (spec_l1In.f a0_1 0 24).bind fun t102 => (if t102 = true then ((spec_l1In.f a0_0 (-1099511627776) 1099511627776).bind fun t103 => (if t103 = true then (if a0_1 = 0 then (some true) else (some ((Int.tmod a0_0 2) != 0))) else (some false))) else (some false))

/-! spec_IsDyadic -/
def spec_IsDyadic.f (a0_0 : Int) (a0_1 : Int) : Option (Bool) := (spec_dyGood.f a0_0 a0_1).bind fun t105 => (some t105)

/-! laws_toDyadic -/
def laws_toDyadic.f (a0_0 : Int) (a0_1 : Int) : Option (Int × Int) := some (a0_0, a0_1)

/-! impl_inside -/
def impl_inside.f (a0 : Int) (a1 : Int) (a2 : Int) : Option (Bool) := if a0 ≥ a1 then (some (decide (a0 ≤ a2))) else (some false)

/-! impl_isPlaces -/
def impl_isPlaces.f (a0 : Int) : Option (Bool) := (impl_inside.f a0 0 24).bind fun t109 => (some t109)

/-! impl_isDyadic -/
def impl_isDyadic.f (a0_0 : Int) (a0_1 : Int) : Option (Bool) := (impl_isPlaces.f a0_1).bind fun t111 => (if t111 = true then ((impl_inside.f a0_0 (-1099511627776) 1099511627776).bind fun t112 => (if t112 = true then (if a0_1 = 0 then (some true) else (some ((Int.tmod a0_0 2) != 0))) else (some false))) else (some false))

/-! impl_IsDyadic -/
def impl_IsDyadic.f (a0_0 : Int) (a0_1 : Int) : Option (Bool) := (impl_isDyadic.f a0_0 a0_1).bind fun t114 => (some t114)

/-! laws_FnExactIsDyadic -/
def laws_FnExactIsDyadic.f (a0_0 : Int) (a0_1 : Int) : Option (Bool) := (laws_toDyadic.f a0_0 a0_1).bind fun bt116 => ((spec_IsDyadic.f bt116.1 bt116.2).bind fun t118 => ((laws_toDyadic.f a0_0 a0_1).bind fun bt119 => ((impl_IsDyadic.f bt119.1 bt119.2).bind fun t121 => (if (t121 != t118) = true then (none) else (some true)))))

/-! spec_dyMake -/
mutual
def spec_dyMake.j0 : Nat → Int → Int → Bool → Option (Int × Int × Bool)
  | 0, _, _, _ => none
  | k + 1, x0, x1, x12 => if x12 = true then (spec_dyMake.j1 k x0 0) else (spec_dyMake.j1 k x0 x1)
def spec_dyMake.j1 : Nat → Int → Int → Option (Int × Int × Bool)
  | 0, _, _ => none
  | k + 1, x0, x1 => spec_dyMake.l0 k x0 x1
def spec_dyMake.l0 : Nat → Int → Int → Option (Int × Int × Bool)
  | 0, _, _ => none
  | k + 1, x0, x1 => if x1 > 0 then (if (Int.tmod x0 2) = 0 then (spec_dyMake.l0 k (wrap64 (Int.tdiv x0 2)) (wrap64 (x1 - 1))) else ((spec_dyGood.f x0 x1).bind fun t124 => (if t124 = true then (some (x0, x1, true)) else (some (0, 0, false))))) else ((spec_dyGood.f x0 x1).bind fun t126 => (if t126 = true then (some (x0, x1, true)) else (some (0, 0, false))))
end
def spec_dyMake.f (k : Nat) (a0 : Int) (a1 : Int) : Option (Int × Int × Bool) := if a0 = 0 then (spec_dyMake.j0 k a0 a1 (decide (a1 > 0))) else (spec_dyMake.j0 k a0 a1 false)
theorem spec_dyMake.mono_l : ∀ k, (∀ y0 y1 y2, LeO (spec_dyMake.j0 k y0 y1 y2) (spec_dyMake.j0 (k + 1) y0 y1 y2)) ∧ (∀ y0 y1, LeO (spec_dyMake.j1 k y0 y1) (spec_dyMake.j1 (k + 1) y0 y1)) ∧ (∀ y0 y1, LeO (spec_dyMake.l0 k y0 y1) (spec_dyMake.l0 (k + 1) y0 y1))
  | 0 => ⟨fun _ _ _ r h => by simp [spec_dyMake.j0] at h, fun _ _ r h => by simp [spec_dyMake.j1] at h, fun _ _ r h => by simp [spec_dyMake.l0] at h⟩
  | k + 1 => by
    obtain ⟨ih0, ih1, ih2⟩ := spec_dyMake.mono_l k
    refine ⟨?_, ?_, ?_⟩
    · intro y0 y1 y2
      unfold spec_dyMake.j0
      repeat' first
      | (with_reducible exact ih0 _ _ _)
      | (with_reducible exact ih1 _ _)
      | (with_reducible exact ih2 _ _)
      | (with_reducible exact LeO.refl _)
      | (with_reducible exact LeO.none _)
      | (with_reducible refine LeO.ite ?_ ?_)
      | (with_reducible refine LeO.bind ?_ (fun _ => ?_))
      | exact ih0 _ _ _
      | exact ih1 _ _
      | exact ih2 _ _
      | exact LeO.none _
      | refine LeO.ite ?_ ?_
      | refine LeO.bind ?_ (fun _ => ?_)
    · intro y0 y1
      unfold spec_dyMake.j1
      repeat' first
      | (with_reducible exact ih0 _ _ _)
      | (with_reducible exact ih1 _ _)
      | (with_reducible exact ih2 _ _)
      | (with_reducible exact LeO.refl _)
      | (with_reducible exact LeO.none _)
      | (with_reducible refine LeO.ite ?_ ?_)
      | (with_reducible refine LeO.bind ?_ (fun _ => ?_))
      | exact ih0 _ _ _
      | exact ih1 _ _
      | exact ih2 _ _
      | exact LeO.none _
      | refine LeO.ite ?_ ?_
      | refine LeO.bind ?_ (fun _ => ?_)
    · intro y0 y1
      unfold spec_dyMake.l0
      repeat' first
      | (with_reducible exact ih0 _ _ _)
      | (with_reducible exact ih1 _ _)
      | (with_reducible exact ih2 _ _)
      | (with_reducible exact LeO.refl _)
      | (with_reducible exact LeO.none _)
      | (with_reducible refine LeO.ite ?_ ?_)
      | (with_reducible refine LeO.bind ?_ (fun _ => ?_))
      | exact ih0 _ _ _
      | exact ih1 _ _
      | exact ih2 _ _
      | exact LeO.none _
      | refine LeO.ite ?_ ?_
      | refine LeO.bind ?_ (fun _ => ?_)
theorem spec_dyMake.mono : ∀ a0 a1 k, LeO (spec_dyMake.f k a0 a1) (spec_dyMake.f (k + 1) a0 a1) := by
  intro a0 a1 k
  obtain ⟨ih0, ih1, ih2⟩ := spec_dyMake.mono_l k
  unfold spec_dyMake.f
  repeat' first
      | (with_reducible exact ih0 _ _ _)
      | (with_reducible exact ih1 _ _)
      | (with_reducible exact ih2 _ _)
      | (with_reducible exact LeO.refl _)
      | (with_reducible exact LeO.none _)
      | (with_reducible refine LeO.ite ?_ ?_)
      | (with_reducible refine LeO.bind ?_ (fun _ => ?_))
      | exact ih0 _ _ _
      | exact ih1 _ _
      | exact ih2 _ _
      | exact LeO.none _
      | refine LeO.ite ?_ ?_
      | refine LeO.bind ?_ (fun _ => ?_)

/-! spec_DyadicOf -/
def spec_DyadicOf.f (k : Nat) (a0 : Int) (a1 : Int) : Option (Int × Int × Bool) := (spec_l1In.f a0 (-1099511627776) 1099511627776).bind fun t128 => (if t128 = true then ((spec_l1In.f a1 0 40).bind fun t129 => (if t129 = true then ((spec_dyMake.f k a0 a1).bind fun bt130 => (some (bt130.1, bt130.2.1, bt130.2.2))) else (some (0, 0, false)))) else (some (0, 0, false)))
theorem spec_DyadicOf.mono : ∀ a0 a1 k, LeO (spec_DyadicOf.f k a0 a1) (spec_DyadicOf.f (k + 1) a0 a1) := by
  intro a0 a1 k
  unfold spec_DyadicOf.f
  repeat' first
      | (with_reducible exact spec_dyMake.mono _ _ _)
      | (with_reducible exact LeO.refl _)
      | (with_reducible exact LeO.none _)
      | (with_reducible refine LeO.ite ?_ ?_)
      | (with_reducible refine LeO.bind ?_ (fun _ => ?_))
      | exact spec_dyMake.mono _ _ _
      | exact LeO.none _
      | refine LeO.ite ?_ ?_
      | refine LeO.bind ?_ (fun _ => ?_)

/-! impl_size -/
def impl_size.f (a0 : Int) : Option (Int) := if a0 < 0 then (some (IntKind.u64.wrap (wrap64 (-a0)))) else (some (IntKind.u64.wrap (a0)))

/-! impl_wideOf -/
def impl_wideOf.f (a0 : Int) : Option (Bool × Int × Int) := (impl_size.f a0).bind fun t134 => (some (decide (a0 < 0), 0, t134))

/-! impl_wide_shift -/
def impl_wide_shift.f (a0_0 : Bool) (a0_1 : Int) (a0_2 : Int) (a1 : Int) : Option (Bool × Int × Int) := if a1 ≥ 0 then (if a1 ≥ 64 then (if 0 ≤ (wrap64 (a1 - 64)) then (some (a0_0, shl .u64 a0_2 (wrap64 (a1 - 64)), 0)) else (none)) else (if 0 ≤ a1 then (if 0 ≤ (wrap64 (64 - a1)) then (some (a0_0, Go.bits .or .u64 (shl .u64 a0_1 a1) (shr .u64 a0_2 (wrap64 (64 - a1))), shl .u64 a0_2 a1)) else (none)) else (none))) else (if (wrap64 (-a1)) ≥ 64 then (if 0 ≤ (wrap64 ((wrap64 (-a1)) - 64)) then (some (a0_0, 0, shr .u64 a0_1 (wrap64 ((wrap64 (-a1)) - 64)))) else (none)) else (if 0 ≤ (wrap64 (-a1)) then (if 0 ≤ (wrap64 (64 - (wrap64 (-a1)))) then (some (a0_0, shr .u64 a0_1 (wrap64 (-a1)), Go.bits .or .u64 (shr .u64 a0_2 (wrap64 (-a1))) (shl .u64 a0_1 (wrap64 (64 - (wrap64 (-a1))))))) else (none)) else (none)))

/-! impl_wide_isZero -/
def impl_wide_isZero.f (a0_0 : Bool) (a0_1 : Int) (a0_2 : Int) : Option (Bool) := if a0_1 = 0 then (some (a0_2 == 0)) else (some false)

/-! impl_wide_fit -/
mutual
def impl_wide_fit.j1 : Nat → Int → Bool → Int → Int → Option (Int × Int × Bool)
  | 0, _, _, _, _ => none
  | k + 1, x1, x139000, x139001, x139002 => if x1 > 24 then (impl_wide_fit.j2 k x1 true x139000 x139001 x139002) else (if x139001 > 0 then (impl_wide_fit.j2 k x1 true x139000 x139001 x139002) else (impl_wide_fit.j2 k x1 (decide (x139002 > 1099511627776)) x139000 x139001 x139002))
def impl_wide_fit.j2 : Nat → Int → Bool → Bool → Int → Int → Option (Int × Int × Bool)
  | 0, _, _, _, _, _ => none
  | k + 1, x1, x33, x139000, x139001, x139002 => if x33 = true then (some (0, 0, false)) else (if x139000 = true then (some (wrap64 (-(wrap64 (x139002))), x1, true)) else (some (wrap64 (x139002), x1, true)))
def impl_wide_fit.l0 : Nat → Int → Bool → Int → Int → Option (Int × Int × Bool)
  | 0, _, _, _, _ => none
  | k + 1, x1, x139000, x139001, x139002 => if x1 > 0 then (if (Int.tmod x139002 2) = 0 then ((impl_wide_shift.f x139000 x139001 x139002 (-1)).bind fun bt141 => (impl_wide_fit.l0 k (wrap64 (x1 - 1)) bt141.1 bt141.2.1 bt141.2.2)) else (impl_wide_fit.j1 k x1 x139000 x139001 x139002)) else (impl_wide_fit.j1 k x1 x139000 x139001 x139002)
end
def impl_wide_fit.f (k : Nat) (a0_0 : Bool) (a0_1 : Int) (a0_2 : Int) (a1 : Int) : Option (Int × Int × Bool) := (impl_wide_isZero.f a0_0 a0_1 a0_2).bind fun t140 => (if t140 = true then (some (0, 0, true)) else (impl_wide_fit.l0 k a1 a0_0 a0_1 a0_2))
theorem impl_wide_fit.mono_l : ∀ k, (∀ y0 y1 y2 y3, LeO (impl_wide_fit.j1 k y0 y1 y2 y3) (impl_wide_fit.j1 (k + 1) y0 y1 y2 y3)) ∧ (∀ y0 y1 y2 y3 y4, LeO (impl_wide_fit.j2 k y0 y1 y2 y3 y4) (impl_wide_fit.j2 (k + 1) y0 y1 y2 y3 y4)) ∧ (∀ y0 y1 y2 y3, LeO (impl_wide_fit.l0 k y0 y1 y2 y3) (impl_wide_fit.l0 (k + 1) y0 y1 y2 y3))
  | 0 => ⟨fun _ _ _ _ r h => by simp [impl_wide_fit.j1] at h, fun _ _ _ _ _ r h => by simp [impl_wide_fit.j2] at h, fun _ _ _ _ r h => by simp [impl_wide_fit.l0] at h⟩
  | k + 1 => by
    obtain ⟨ih0, ih1, ih2⟩ := impl_wide_fit.mono_l k
    refine ⟨?_, ?_, ?_⟩
    · intro y0 y1 y2 y3
      unfold impl_wide_fit.j1
      repeat' first
      | (with_reducible exact ih0 _ _ _ _)
      | (with_reducible exact ih1 _ _ _ _ _)
      | (with_reducible exact ih2 _ _ _ _)
      | (with_reducible exact LeO.refl _)
      | (with_reducible exact LeO.none _)
      | (with_reducible refine LeO.ite ?_ ?_)
      | (with_reducible refine LeO.bind ?_ (fun _ => ?_))
      | exact ih0 _ _ _ _
      | exact ih1 _ _ _ _ _
      | exact ih2 _ _ _ _
      | exact LeO.none _
      | refine LeO.ite ?_ ?_
      | refine LeO.bind ?_ (fun _ => ?_)
    · intro y0 y1 y2 y3 y4
      unfold impl_wide_fit.j2
      repeat' first
      | (with_reducible exact ih0 _ _ _ _)
      | (with_reducible exact ih1 _ _ _ _ _)
      | (with_reducible exact ih2 _ _ _ _)
      | (with_reducible exact LeO.refl _)
      | (with_reducible exact LeO.none _)
      | (with_reducible refine LeO.ite ?_ ?_)
      | (with_reducible refine LeO.bind ?_ (fun _ => ?_))
      | exact ih0 _ _ _ _
      | exact ih1 _ _ _ _ _
      | exact ih2 _ _ _ _
      | exact LeO.none _
      | refine LeO.ite ?_ ?_
      | refine LeO.bind ?_ (fun _ => ?_)
    · intro y0 y1 y2 y3
      unfold impl_wide_fit.l0
      repeat' first
      | (with_reducible exact ih0 _ _ _ _)
      | (with_reducible exact ih1 _ _ _ _ _)
      | (with_reducible exact ih2 _ _ _ _)
      | (with_reducible exact LeO.refl _)
      | (with_reducible exact LeO.none _)
      | (with_reducible refine LeO.ite ?_ ?_)
      | (with_reducible refine LeO.bind ?_ (fun _ => ?_))
      | exact ih0 _ _ _ _
      | exact ih1 _ _ _ _ _
      | exact ih2 _ _ _ _
      | exact LeO.none _
      | refine LeO.ite ?_ ?_
      | refine LeO.bind ?_ (fun _ => ?_)
theorem impl_wide_fit.mono : ∀ a0 a1 a2 a3 k, LeO (impl_wide_fit.f k a0 a1 a2 a3) (impl_wide_fit.f (k + 1) a0 a1 a2 a3) := by
  intro a0 a1 a2 a3 k
  obtain ⟨ih0, ih1, ih2⟩ := impl_wide_fit.mono_l k
  unfold impl_wide_fit.f
  repeat' first
      | (with_reducible exact ih0 _ _ _ _)
      | (with_reducible exact ih1 _ _ _ _ _)
      | (with_reducible exact ih2 _ _ _ _)
      | (with_reducible exact LeO.refl _)
      | (with_reducible exact LeO.none _)
      | (with_reducible refine LeO.ite ?_ ?_)
      | (with_reducible refine LeO.bind ?_ (fun _ => ?_))
      | exact ih0 _ _ _ _
      | exact ih1 _ _ _ _ _
      | exact ih2 _ _ _ _
      | exact LeO.none _
      | refine LeO.ite ?_ ?_
      | refine LeO.bind ?_ (fun _ => ?_)

/-! impl_DyadicOf -/
def impl_DyadicOf.j0 : Nat → Int → Int → Bool → Option (Int × Int × Bool)
  | 0, _, _, _ => none
  | k + 1, x0, x1, x13 => if x13 = true then (some (0, 0, false)) else ((impl_wideOf.f x0).bind fun bt147 => ((impl_wide_fit.f k bt147.1 bt147.2.1 bt147.2.2 x1).bind fun bt150 => (some (bt150.1, bt150.2.1, bt150.2.2))))
def impl_DyadicOf.f (k : Nat) (a0 : Int) (a1 : Int) : Option (Int × Int × Bool) := (impl_inside.f a0 (-1099511627776) 1099511627776).bind fun t145 => (if t145 = true then ((impl_inside.f a1 0 40).bind fun t146 => (impl_DyadicOf.j0 k a0 a1 (!t146))) else (impl_DyadicOf.j0 k a0 a1 true))
theorem impl_DyadicOf.mono_l : ∀ k, (∀ y0 y1 y2, LeO (impl_DyadicOf.j0 k y0 y1 y2) (impl_DyadicOf.j0 (k + 1) y0 y1 y2))
  | 0 => fun _ _ _ r h => by simp [impl_DyadicOf.j0] at h
  | k + 1 => by
    have ih0 := impl_DyadicOf.mono_l k
    · intro y0 y1 y2
      unfold impl_DyadicOf.j0
      repeat' first
      | (with_reducible exact ih0 _ _ _)
      | (with_reducible exact impl_wide_fit.mono _ _ _ _ _)
      | (with_reducible exact LeO.refl _)
      | (with_reducible exact LeO.none _)
      | (with_reducible refine LeO.ite ?_ ?_)
      | (with_reducible refine LeO.bind ?_ (fun _ => ?_))
      | exact ih0 _ _ _
      | exact impl_wide_fit.mono _ _ _ _ _
      | exact LeO.none _
      | refine LeO.ite ?_ ?_
      | refine LeO.bind ?_ (fun _ => ?_)
theorem impl_DyadicOf.mono : ∀ a0 a1 k, LeO (impl_DyadicOf.f k a0 a1) (impl_DyadicOf.f (k + 1) a0 a1) := by
  intro a0 a1 k
  have ih0 := impl_DyadicOf.mono_l k
  unfold impl_DyadicOf.f
  repeat' first
      | (with_reducible exact ih0 _ _ _)
      | (with_reducible exact impl_wide_fit.mono _ _ _ _ _)
      | (with_reducible exact LeO.refl _)
      | (with_reducible exact LeO.none _)
      | (with_reducible refine LeO.ite ?_ ?_)
      | (with_reducible refine LeO.bind ?_ (fun _ => ?_))
      | exact ih0 _ _ _
      | exact impl_wide_fit.mono _ _ _ _ _
      | exact LeO.none _
      | refine LeO.ite ?_ ?_
      | refine LeO.bind ?_ (fun _ => ?_)

/-! laws_eqDyadic -/
def laws_eqDyadic.f (a0_0 : Int) (a0_1 : Int) (a1_0 : Int) (a1_1 : Int) : Option (Bool) := if a0_0 = a1_0 then (if a0_1 = a1_1 then (some true) else (some false)) else (some false)

/-! laws_FnExactDyadicOf -/
def laws_FnExactDyadicOf.f (k : Nat) (a0 : Int) (a1 : Int) : Option (Bool) := (spec_DyadicOf.f k a0 a1).bind fun bt155 => ((impl_DyadicOf.f k a0 a1).bind fun bt159 => ((laws_eqDyadic.f bt159.1 bt159.2.1 bt155.1 bt155.2.1).bind fun t163 => (if t163 = true then (if (bt159.2.2 != bt155.2.2) = true then (none) else (some true)) else (none))))
theorem laws_FnExactDyadicOf.mono : ∀ a0 a1 k, LeO (laws_FnExactDyadicOf.f k a0 a1) (laws_FnExactDyadicOf.f (k + 1) a0 a1) := by
  intro a0 a1 k
  unfold laws_FnExactDyadicOf.f
  repeat' first
      | (with_reducible exact impl_DyadicOf.mono _ _ _)
      | (with_reducible exact spec_DyadicOf.mono _ _ _)
      | (with_reducible exact LeO.refl _)
      | (with_reducible exact LeO.none _)
      | (with_reducible refine LeO.ite ?_ ?_)
      | (with_reducible refine LeO.bind ?_ (fun _ => ?_))
      | exact impl_DyadicOf.mono _ _ _
      | exact spec_DyadicOf.mono _ _ _
      | exact LeO.none _
      | refine LeO.ite ?_ ?_
      | refine LeO.bind ?_ (fun _ => ?_)

/-! spec_dyPlaces -/
def spec_dyPlaces.f (a0_0 : Int) (a0_1 : Int) (a1 : Int) : Option (Bool) := (spec_dyGood.f a0_0 a0_1).bind fun t165 => (if t165 = true then ((spec_l1In.f a1 0 24).bind fun t166 => (some t166)) else (some false))

/-! spec_dyDown -/
def spec_dyDown.f (a0 : Int) (a1 : Int) : Option (Int) := if a1 = 0 then (none) else (if (Int.tmod a0 a1) < 0 then (some (wrap64 ((wrap64 (Int.tdiv a0 a1)) - 1))) else (some (wrap64 (Int.tdiv a0 a1))))

/-! spec_dyPower -/
def spec_dyPower.f (a0 : Int) : Option (Int) := if 0 ≤ (IntKind.u64.wrap (a0)) then (some (shl .i64 1 (IntKind.u64.wrap (a0)))) else (none)

/-! spec_dyRound -/
def spec_dyRound.f (k : Nat) (a0_0 : Int) (a0_1 : Int) (a1 : Int) : Option (Int × Int) := if a0_1 ≤ a1 then (some (a0_0, a0_1)) else ((spec_dyPower.f (wrap64 (a0_1 - a1))).bind fun t169 => ((spec_dyDown.f a0_0 t169).bind fun t170 => ((spec_dyMake.f k t170 a1).bind fun bt171 => (some (bt171.1, bt171.2.1)))))
theorem spec_dyRound.mono : ∀ a0 a1 a2 k, LeO (spec_dyRound.f k a0 a1 a2) (spec_dyRound.f (k + 1) a0 a1 a2) := by
  intro a0 a1 a2 k
  unfold spec_dyRound.f
  repeat' first
      | (with_reducible exact spec_dyMake.mono _ _ _)
      | (with_reducible exact LeO.refl _)
      | (with_reducible exact LeO.none _)
      | (with_reducible refine LeO.ite ?_ ?_)
      | (with_reducible refine LeO.bind ?_ (fun _ => ?_))
      | exact spec_dyMake.mono _ _ _
      | exact LeO.none _
      | refine LeO.ite ?_ ?_
      | refine LeO.bind ?_ (fun _ => ?_)

/-! spec_RoundDown -/
def spec_RoundDown.f (k : Nat) (a0_0 : Int) (a0_1 : Int) (a1 : Int) : Option (Int × Int × Bool) := (spec_dyPlaces.f a0_0 a0_1 a1).bind fun t177 => (if t177 = true then ((spec_dyRound.f k a0_0 a0_1 a1).bind fun bt178 => (some (bt178.1, bt178.2, true))) else (some (0, 0, false)))
theorem spec_RoundDown.mono : ∀ a0 a1 a2 k, LeO (spec_RoundDown.f k a0 a1 a2) (spec_RoundDown.f (k + 1) a0 a1 a2) := by
  intro a0 a1 a2 k
  unfold spec_RoundDown.f
  repeat' first
      | (with_reducible exact spec_dyRound.mono _ _ _ _)
      | (with_reducible exact LeO.refl _)
      | (with_reducible exact LeO.none _)
      | (with_reducible refine LeO.ite ?_ ?_)
      | (with_reducible refine LeO.bind ?_ (fun _ => ?_))
      | exact spec_dyRound.mono _ _ _ _
      | exact LeO.none _
      | refine LeO.ite ?_ ?_
      | refine LeO.bind ?_ (fun _ => ?_)

/-! impl_roundDown -/
def impl_roundDown.f (k : Nat) (a0_0 : Int) (a0_1 : Int) (a1 : Int) : Option (Int × Int) := if a0_1 ≤ a1 then (some (a0_0, a0_1)) else (if 0 ≤ (wrap64 (a0_1 - a1)) then ((impl_wideOf.f (shr .i64 a0_0 (wrap64 (a0_1 - a1)))).bind fun bt182 => ((impl_wide_fit.f k bt182.1 bt182.2.1 bt182.2.2 a1).bind fun bt185 => (some (bt185.1, bt185.2.1)))) else (none))
theorem impl_roundDown.mono : ∀ a0 a1 a2 k, LeO (impl_roundDown.f k a0 a1 a2) (impl_roundDown.f (k + 1) a0 a1 a2) := by
  intro a0 a1 a2 k
  unfold impl_roundDown.f
  repeat' first
      | (with_reducible exact impl_wide_fit.mono _ _ _ _ _)
      | (with_reducible exact LeO.refl _)
      | (with_reducible exact LeO.none _)
      | (with_reducible refine LeO.ite ?_ ?_)
      | (with_reducible refine LeO.bind ?_ (fun _ => ?_))
      | exact impl_wide_fit.mono _ _ _ _ _
      | exact LeO.none _
      | refine LeO.ite ?_ ?_
      | refine LeO.bind ?_ (fun _ => ?_)

/-! impl_RoundDown -/
def impl_RoundDown.f (k : Nat) (a0_0 : Int) (a0_1 : Int) (a1 : Int) : Option (Int × Int × Bool) := (impl_isDyadic.f a0_0 a0_1).bind fun t191 => (if t191 = true then ((impl_isPlaces.f a1).bind fun t192 => (if t192 = true then ((impl_roundDown.f k a0_0 a0_1 a1).bind fun bt193 => (some (bt193.1, bt193.2, true))) else (some (0, 0, false)))) else (some (0, 0, false)))
theorem impl_RoundDown.mono : ∀ a0 a1 a2 k, LeO (impl_RoundDown.f k a0 a1 a2) (impl_RoundDown.f (k + 1) a0 a1 a2) := by
  intro a0 a1 a2 k
  unfold impl_RoundDown.f
  repeat' first
      | (with_reducible exact impl_roundDown.mono _ _ _ _)
      | (with_reducible exact LeO.refl _)
      | (with_reducible exact LeO.none _)
      | (with_reducible refine LeO.ite ?_ ?_)
      | (with_reducible refine LeO.bind ?_ (fun _ => ?_))
      | exact impl_roundDown.mono _ _ _ _
      | exact LeO.none _
      | refine LeO.ite ?_ ?_
      | refine LeO.bind ?_ (fun _ => ?_)

/-! laws_FnExactRoundDown -/
def laws_FnExactRoundDown.f (k : Nat) (a0_0 : Int) (a0_1 : Int) (a1 : Int) : Option (Bool) := (laws_toDyadic.f a0_0 a0_1).bind fun bt196 => ((spec_RoundDown.f k bt196.1 bt196.2 a1).bind fun bt198 => ((laws_toDyadic.f a0_0 a0_1).bind fun bt202 => ((impl_RoundDown.f k bt202.1 bt202.2 a1).bind fun bt204 => ((laws_eqDyadic.f bt204.1 bt204.2.1 bt198.1 bt198.2.1).bind fun t208 => (if t208 = true then (if (bt204.2.2 != bt198.2.2) = true then (none) else (some true)) else (none))))))
theorem laws_FnExactRoundDown.mono : ∀ a0 a1 a2 k, LeO (laws_FnExactRoundDown.f k a0 a1 a2) (laws_FnExactRoundDown.f (k + 1) a0 a1 a2) := by
  intro a0 a1 a2 k
  unfold laws_FnExactRoundDown.f
  repeat' first
      | (with_reducible exact impl_RoundDown.mono _ _ _ _)
      | (with_reducible exact spec_RoundDown.mono _ _ _ _)
      | (with_reducible exact LeO.refl _)
      | (with_reducible exact LeO.none _)
      | (with_reducible refine LeO.ite ?_ ?_)
      | (with_reducible refine LeO.bind ?_ (fun _ => ?_))
      | exact impl_RoundDown.mono _ _ _ _
      | exact spec_RoundDown.mono _ _ _ _
      | exact LeO.none _
      | refine LeO.ite ?_ ?_
      | refine LeO.bind ?_ (fun _ => ?_)

/-! spec_dyMinus -/
def spec_dyMinus.f (a0_0 : Int) (a0_1 : Int) : Option (Int × Int) := some (wrap64 (-a0_0), a0_1)

/-! spec_RoundUp -/
def spec_RoundUp.f (k : Nat) (a0_0 : Int) (a0_1 : Int) (a1 : Int) : Option (Int × Int × Bool) := (spec_dyPlaces.f a0_0 a0_1 a1).bind fun t213 => (if t213 = true then ((spec_dyMinus.f a0_0 a0_1).bind fun bt214 => ((spec_dyRound.f k bt214.1 bt214.2 a1).bind fun bt216 => ((spec_dyMinus.f bt216.1 bt216.2).bind fun bt218 => (some (bt218.1, bt218.2, true))))) else (some (0, 0, false)))
theorem spec_RoundUp.mono : ∀ a0 a1 a2 k, LeO (spec_RoundUp.f k a0 a1 a2) (spec_RoundUp.f (k + 1) a0 a1 a2) := by
  intro a0 a1 a2 k
  unfold spec_RoundUp.f
  repeat' first
      | (with_reducible exact spec_dyRound.mono _ _ _ _)
      | (with_reducible exact LeO.refl _)
      | (with_reducible exact LeO.none _)
      | (with_reducible refine LeO.ite ?_ ?_)
      | (with_reducible refine LeO.bind ?_ (fun _ => ?_))
      | exact spec_dyRound.mono _ _ _ _
      | exact LeO.none _
      | refine LeO.ite ?_ ?_
      | refine LeO.bind ?_ (fun _ => ?_)

/-! impl_minus -/
def impl_minus.f (a0_0 : Int) (a0_1 : Int) : Option (Int × Int) := some (wrap64 (-a0_0), a0_1)

/-! impl_RoundUp -/
def impl_RoundUp.j0 : Nat → Int → Bool → Int → Int → Option (Int × Int × Bool)
  | 0, _, _, _, _ => none
  | k + 1, x1, x13, x223000, x223001 => if x13 = true then (some (0, 0, false)) else ((impl_minus.f x223000 x223001).bind fun bt226 => ((impl_roundDown.f k bt226.1 bt226.2 x1).bind fun bt228 => ((impl_minus.f bt228.1 bt228.2).bind fun bt230 => (some (bt230.1, bt230.2, true)))))
def impl_RoundUp.f (k : Nat) (a0_0 : Int) (a0_1 : Int) (a1 : Int) : Option (Int × Int × Bool) := (impl_isDyadic.f a0_0 a0_1).bind fun t224 => (if t224 = true then ((impl_isPlaces.f a1).bind fun t225 => (impl_RoundUp.j0 k a1 (!t225) a0_0 a0_1)) else (impl_RoundUp.j0 k a1 true a0_0 a0_1))
theorem impl_RoundUp.mono_l : ∀ k, (∀ y0 y1 y2 y3, LeO (impl_RoundUp.j0 k y0 y1 y2 y3) (impl_RoundUp.j0 (k + 1) y0 y1 y2 y3))
  | 0 => fun _ _ _ _ r h => by simp [impl_RoundUp.j0] at h
  | k + 1 => by
    have ih0 := impl_RoundUp.mono_l k
    · intro y0 y1 y2 y3
      unfold impl_RoundUp.j0
      repeat' first
      | (with_reducible exact ih0 _ _ _ _)
      | (with_reducible exact impl_roundDown.mono _ _ _ _)
      | (with_reducible exact LeO.refl _)
      | (with_reducible exact LeO.none _)
      | (with_reducible refine LeO.ite ?_ ?_)
      | (with_reducible refine LeO.bind ?_ (fun _ => ?_))
      | exact ih0 _ _ _ _
      | exact impl_roundDown.mono _ _ _ _
      | exact LeO.none _
      | refine LeO.ite ?_ ?_
      | refine LeO.bind ?_ (fun _ => ?_)
theorem impl_RoundUp.mono : ∀ a0 a1 a2 k, LeO (impl_RoundUp.f k a0 a1 a2) (impl_RoundUp.f (k + 1) a0 a1 a2) := by
  intro a0 a1 a2 k
  have ih0 := impl_RoundUp.mono_l k
  unfold impl_RoundUp.f
  repeat' first
      | (with_reducible exact ih0 _ _ _ _)
      | (with_reducible exact impl_roundDown.mono _ _ _ _)
      | (with_reducible exact LeO.refl _)
      | (with_reducible exact LeO.none _)
      | (with_reducible refine LeO.ite ?_ ?_)
      | (with_reducible refine LeO.bind ?_ (fun _ => ?_))
      | exact ih0 _ _ _ _
      | exact impl_roundDown.mono _ _ _ _
      | exact LeO.none _
      | refine LeO.ite ?_ ?_
      | refine LeO.bind ?_ (fun _ => ?_)

/-! laws_FnExactRoundUp -/
def laws_FnExactRoundUp.f (k : Nat) (a0_0 : Int) (a0_1 : Int) (a1 : Int) : Option (Bool) := (laws_toDyadic.f a0_0 a0_1).bind fun bt233 => ((spec_RoundUp.f k bt233.1 bt233.2 a1).bind fun bt235 => ((laws_toDyadic.f a0_0 a0_1).bind fun bt239 => ((impl_RoundUp.f k bt239.1 bt239.2 a1).bind fun bt241 => ((laws_eqDyadic.f bt241.1 bt241.2.1 bt235.1 bt235.2.1).bind fun t245 => (if t245 = true then (if (bt241.2.2 != bt235.2.2) = true then (none) else (some true)) else (none))))))
theorem laws_FnExactRoundUp.mono : ∀ a0 a1 a2 k, LeO (laws_FnExactRoundUp.f k a0 a1 a2) (laws_FnExactRoundUp.f (k + 1) a0 a1 a2) := by
  intro a0 a1 a2 k
  unfold laws_FnExactRoundUp.f
  repeat' first
      | (with_reducible exact impl_RoundUp.mono _ _ _ _)
      | (with_reducible exact spec_RoundUp.mono _ _ _ _)
      | (with_reducible exact LeO.refl _)
      | (with_reducible exact LeO.none _)
      | (with_reducible refine LeO.ite ?_ ?_)
      | (with_reducible refine LeO.bind ?_ (fun _ => ?_))
      | exact impl_RoundUp.mono _ _ _ _
      | exact spec_RoundUp.mono _ _ _ _
      | exact LeO.none _
      | refine LeO.ite ?_ ?_
      | refine LeO.bind ?_ (fun _ => ?_)

/-! spec_dyTwo -/
def spec_dyTwo.f (a0_0 : Int) (a0_1 : Int) (a1_0 : Int) (a1_1 : Int) : Option (Bool) := (spec_dyGood.f a0_0 a0_1).bind fun t248 => (if t248 = true then ((spec_dyGood.f a1_0 a1_1).bind fun t249 => (some t249)) else (some false))

/-! spec_l1Most -/
def spec_l1Most.f (a0 : Int) (a1 : Int) : Option (Int) := if a0 > a1 then (some a0) else (some a1)

/-! spec_l1Abs -/
def spec_l1Abs.f (a0 : Int) : Option (Int) := (spec_l1Most.f a0 (wrap64 (-a0))).bind fun t250 => (some t250)

/-! spec_dyMul -/
mutual
def spec_dyMul.j0 : Nat → Bool → Int → Int → Int → Int → Option (Int × Int × Bool)
  | 0, _, _, _, _, _ => none
  | k + 1, x14, x252000, x252001, x253000, x253001 => if x14 = true then (some (0, 0, true)) else (spec_dyMul.l0 k (wrap64 (x252001 + x253001)) x252000 x252001 x253000 x253001)
def spec_dyMul.j2 : Nat → Int → Int → Int → Int → Int → Option (Int × Int × Bool)
  | 0, _, _, _, _, _ => none
  | k + 1, x6, x252000, x252001, x253000, x253001 => spec_dyMul.l1 k x6 x252000 x252001 x253000 x253001
def spec_dyMul.j4 : Nat → Int → Int → Int → Int → Int → Option (Int × Int × Bool)
  | 0, _, _, _, _, _ => none
  | k + 1, x6, x252000, x252001, x253000, x253001 => (spec_l1Abs.f x252000).bind fun t254 => ((spec_l1Abs.f x253000).bind fun t255 => (if t255 = 0 then (none) else (if t254 > (wrap64 (Int.tdiv (1099511627776 : Int) t255)) then (some (0, 0, false)) else ((spec_dyMake.f k (wrap64 (x252000 * x253000)) x6).bind fun bt256 => (some (bt256.1, bt256.2.1, bt256.2.2))))))
def spec_dyMul.l1 : Nat → Int → Int → Int → Int → Int → Option (Int × Int × Bool)
  | 0, _, _, _, _, _ => none
  | k + 1, x6, x252000, x252001, x253000, x253001 => if x6 > 0 then (if (Int.tmod x253000 2) = 0 then (spec_dyMul.l1 k (wrap64 (x6 - 1)) x252000 x252001 (wrap64 (Int.tdiv x253000 2)) x253001) else (spec_dyMul.j4 k x6 x252000 x252001 x253000 x253001)) else (spec_dyMul.j4 k x6 x252000 x252001 x253000 x253001)
def spec_dyMul.l0 : Nat → Int → Int → Int → Int → Int → Option (Int × Int × Bool)
  | 0, _, _, _, _, _ => none
  | k + 1, x6, x252000, x252001, x253000, x253001 => if x6 > 0 then (if (Int.tmod x252000 2) = 0 then (spec_dyMul.l0 k (wrap64 (x6 - 1)) (wrap64 (Int.tdiv x252000 2)) x252001 x253000 x253001) else (spec_dyMul.j2 k x6 x252000 x252001 x253000 x253001)) else (spec_dyMul.j2 k x6 x252000 x252001 x253000 x253001)
end
def spec_dyMul.f (k : Nat) (a0_0 : Int) (a0_1 : Int) (a1_0 : Int) (a1_1 : Int) : Option (Int × Int × Bool) := if a0_0 = 0 then (spec_dyMul.j0 k true a0_0 a0_1 a1_0 a1_1) else (spec_dyMul.j0 k (a1_0 == 0) a0_0 a0_1 a1_0 a1_1)
theorem spec_dyMul.mono_l : ∀ k, (∀ y0 y1 y2 y3 y4, LeO (spec_dyMul.j0 k y0 y1 y2 y3 y4) (spec_dyMul.j0 (k + 1) y0 y1 y2 y3 y4)) ∧ (∀ y0 y1 y2 y3 y4, LeO (spec_dyMul.j2 k y0 y1 y2 y3 y4) (spec_dyMul.j2 (k + 1) y0 y1 y2 y3 y4)) ∧ (∀ y0 y1 y2 y3 y4, LeO (spec_dyMul.j4 k y0 y1 y2 y3 y4) (spec_dyMul.j4 (k + 1) y0 y1 y2 y3 y4)) ∧ (∀ y0 y1 y2 y3 y4, LeO (spec_dyMul.l1 k y0 y1 y2 y3 y4) (spec_dyMul.l1 (k + 1) y0 y1 y2 y3 y4)) ∧ (∀ y0 y1 y2 y3 y4, LeO (spec_dyMul.l0 k y0 y1 y2 y3 y4) (spec_dyMul.l0 (k + 1) y0 y1 y2 y3 y4))
  | 0 => ⟨fun _ _ _ _ _ r h => by simp [spec_dyMul.j0] at h, fun _ _ _ _ _ r h => by simp [spec_dyMul.j2] at h, fun _ _ _ _ _ r h => by simp [spec_dyMul.j4] at h, fun _ _ _ _ _ r h => by simp [spec_dyMul.l1] at h, fun _ _ _ _ _ r h => by simp [spec_dyMul.l0] at h⟩
  | k + 1 => by
    obtain ⟨ih0, ih1, ih2, ih3, ih4⟩ := spec_dyMul.mono_l k
    refine ⟨?_, ?_, ?_, ?_, ?_⟩
    · intro y0 y1 y2 y3 y4
      unfold spec_dyMul.j0
      repeat' first
      | (with_reducible exact ih0 _ _ _ _ _)
      | (with_reducible exact ih1 _ _ _ _ _)
      | (with_reducible exact ih2 _ _ _ _ _)
      | (with_reducible exact ih3 _ _ _ _ _)
      | (with_reducible exact ih4 _ _ _ _ _)
      | (with_reducible exact spec_dyMake.mono _ _ _)
      | (with_reducible exact LeO.refl _)
      | (with_reducible exact LeO.none _)
      | (with_reducible refine LeO.ite ?_ ?_)
      | (with_reducible refine LeO.bind ?_ (fun _ => ?_))
      | exact ih0 _ _ _ _ _
      | exact ih1 _ _ _ _ _
      | exact ih2 _ _ _ _ _
      | exact ih3 _ _ _ _ _
      | exact ih4 _ _ _ _ _
      | exact spec_dyMake.mono _ _ _
      | exact LeO.none _
      | refine LeO.ite ?_ ?_
      | refine LeO.bind ?_ (fun _ => ?_)
    · intro y0 y1 y2 y3 y4
      unfold spec_dyMul.j2
      repeat' first
      | (with_reducible exact ih0 _ _ _ _ _)
      | (with_reducible exact ih1 _ _ _ _ _)
      | (with_reducible exact ih2 _ _ _ _ _)
      | (with_reducible exact ih3 _ _ _ _ _)
      | (with_reducible exact ih4 _ _ _ _ _)
      | (with_reducible exact spec_dyMake.mono _ _ _)
      | (with_reducible exact LeO.refl _)
      | (with_reducible exact LeO.none _)
      | (with_reducible refine LeO.ite ?_ ?_)
      | (with_reducible refine LeO.bind ?_ (fun _ => ?_))
      | exact ih0 _ _ _ _ _
      | exact ih1 _ _ _ _ _
      | exact ih2 _ _ _ _ _
      | exact ih3 _ _ _ _ _
      | exact ih4 _ _ _ _ _
      | exact spec_dyMake.mono _ _ _
      | exact LeO.none _
      | refine LeO.ite ?_ ?_
      | refine LeO.bind ?_ (fun _ => ?_)
    · intro y0 y1 y2 y3 y4
      unfold spec_dyMul.j4
      repeat' first
      | (with_reducible exact ih0 _ _ _ _ _)
      | (with_reducible exact ih1 _ _ _ _ _)
      | (with_reducible exact ih2 _ _ _ _ _)
      | (with_reducible exact ih3 _ _ _ _ _)
      | (with_reducible exact ih4 _ _ _ _ _)
      | (with_reducible exact spec_dyMake.mono _ _ _)
      | (with_reducible exact LeO.refl _)
      | (with_reducible exact LeO.none _)
      | (with_reducible refine LeO.ite ?_ ?_)
      | (with_reducible refine LeO.bind ?_ (fun _ => ?_))
      | exact ih0 _ _ _ _ _
      | exact ih1 _ _ _ _ _
      | exact ih2 _ _ _ _ _
      | exact ih3 _ _ _ _ _
      | exact ih4 _ _ _ _ _
      | exact spec_dyMake.mono _ _ _
      | exact LeO.none _
      | refine LeO.ite ?_ ?_
      | refine LeO.bind ?_ (fun _ => ?_)
    · intro y0 y1 y2 y3 y4
      unfold spec_dyMul.l1
      repeat' first
      | (with_reducible exact ih0 _ _ _ _ _)
      | (with_reducible exact ih1 _ _ _ _ _)
      | (with_reducible exact ih2 _ _ _ _ _)
      | (with_reducible exact ih3 _ _ _ _ _)
      | (with_reducible exact ih4 _ _ _ _ _)
      | (with_reducible exact spec_dyMake.mono _ _ _)
      | (with_reducible exact LeO.refl _)
      | (with_reducible exact LeO.none _)
      | (with_reducible refine LeO.ite ?_ ?_)
      | (with_reducible refine LeO.bind ?_ (fun _ => ?_))
      | exact ih0 _ _ _ _ _
      | exact ih1 _ _ _ _ _
      | exact ih2 _ _ _ _ _
      | exact ih3 _ _ _ _ _
      | exact ih4 _ _ _ _ _
      | exact spec_dyMake.mono _ _ _
      | exact LeO.none _
      | refine LeO.ite ?_ ?_
      | refine LeO.bind ?_ (fun _ => ?_)
    · intro y0 y1 y2 y3 y4
      unfold spec_dyMul.l0
      repeat' first
      | (with_reducible exact ih0 _ _ _ _ _)
      | (with_reducible exact ih1 _ _ _ _ _)
      | (with_reducible exact ih2 _ _ _ _ _)
      | (with_reducible exact ih3 _ _ _ _ _)
      | (with_reducible exact ih4 _ _ _ _ _)
      | (with_reducible exact spec_dyMake.mono _ _ _)
      | (with_reducible exact LeO.refl _)
      | (with_reducible exact LeO.none _)
      | (with_reducible refine LeO.ite ?_ ?_)
      | (with_reducible refine LeO.bind ?_ (fun _ => ?_))
      | exact ih0 _ _ _ _ _
      | exact ih1 _ _ _ _ _
      | exact ih2 _ _ _ _ _
      | exact ih3 _ _ _ _ _
      | exact ih4 _ _ _ _ _
      | exact spec_dyMake.mono _ _ _
      | exact LeO.none _
      | refine LeO.ite ?_ ?_
      | refine LeO.bind ?_ (fun _ => ?_)
theorem spec_dyMul.mono : ∀ a0 a1 a2 a3 k, LeO (spec_dyMul.f k a0 a1 a2 a3) (spec_dyMul.f (k + 1) a0 a1 a2 a3) := by
  intro a0 a1 a2 a3 k
  obtain ⟨ih0, ih1, ih2, ih3, ih4⟩ := spec_dyMul.mono_l k
  unfold spec_dyMul.f
  repeat' first
      | (with_reducible exact ih0 _ _ _ _ _)
      | (with_reducible exact ih1 _ _ _ _ _)
      | (with_reducible exact ih2 _ _ _ _ _)
      | (with_reducible exact ih3 _ _ _ _ _)
      | (with_reducible exact ih4 _ _ _ _ _)
      | (with_reducible exact spec_dyMake.mono _ _ _)
      | (with_reducible exact LeO.refl _)
      | (with_reducible exact LeO.none _)
      | (with_reducible refine LeO.ite ?_ ?_)
      | (with_reducible refine LeO.bind ?_ (fun _ => ?_))
      | exact ih0 _ _ _ _ _
      | exact ih1 _ _ _ _ _
      | exact ih2 _ _ _ _ _
      | exact ih3 _ _ _ _ _
      | exact ih4 _ _ _ _ _
      | exact spec_dyMake.mono _ _ _
      | exact LeO.none _
      | refine LeO.ite ?_ ?_
      | refine LeO.bind ?_ (fun _ => ?_)

/-! spec_MultiplyDyadic -/
def spec_MultiplyDyadic.f (k : Nat) (a0_0 : Int) (a0_1 : Int) (a1_0 : Int) (a1_1 : Int) : Option (Int × Int × Bool) := (spec_dyTwo.f a0_0 a0_1 a1_0 a1_1).bind fun t262 => (if t262 = true then ((spec_dyMul.f k a0_0 a0_1 a1_0 a1_1).bind fun bt263 => (some (bt263.1, bt263.2.1, bt263.2.2))) else (some (0, 0, false)))
theorem spec_MultiplyDyadic.mono : ∀ a0 a1 a2 a3 k, LeO (spec_MultiplyDyadic.f k a0 a1 a2 a3) (spec_MultiplyDyadic.f (k + 1) a0 a1 a2 a3) := by
  intro a0 a1 a2 a3 k
  unfold spec_MultiplyDyadic.f
  repeat' first
      | (with_reducible exact spec_dyMul.mono _ _ _ _ _)
      | (with_reducible exact LeO.refl _)
      | (with_reducible exact LeO.none _)
      | (with_reducible refine LeO.ite ?_ ?_)
      | (with_reducible refine LeO.bind ?_ (fun _ => ?_))
      | exact spec_dyMul.mono _ _ _ _ _
      | exact LeO.none _
      | refine LeO.ite ?_ ?_
      | refine LeO.bind ?_ (fun _ => ?_)

/-! bits_Mul64 -/
def bits_Mul64.f (a0 : Int) (a1 : Int) : Option (Int × Int) := some (IntKind.u64.wrap ((IntKind.u64.wrap ((IntKind.u64.wrap ((a0 / 4294967296) * (a1 / 4294967296))) + ((IntKind.u64.wrap ((IntKind.u64.wrap ((a0 / 4294967296) * (Go.bits .and .u64 a1 4294967295))) + ((IntKind.u64.wrap ((Go.bits .and .u64 a0 4294967295) * (Go.bits .and .u64 a1 4294967295))) / 4294967296))) / 4294967296))) + ((IntKind.u64.wrap ((Go.bits .and .u64 (IntKind.u64.wrap ((IntKind.u64.wrap ((a0 / 4294967296) * (Go.bits .and .u64 a1 4294967295))) + ((IntKind.u64.wrap ((Go.bits .and .u64 a0 4294967295) * (Go.bits .and .u64 a1 4294967295))) / 4294967296))) 4294967295) + (IntKind.u64.wrap ((Go.bits .and .u64 a0 4294967295) * (a1 / 4294967296))))) / 4294967296)), IntKind.u64.wrap (a0 * a1))

/-! impl_timesWide -/
def impl_timesWide.f (a0 : Int) (a1 : Int) : Option (Bool × Int × Int) := (impl_size.f a0).bind fun t267 => ((impl_size.f a1).bind fun t268 => ((bits_Mul64.f t267 t268).bind fun bt269 => (some (((decide (a0 < 0)) != (decide (a1 < 0))), bt269.1, bt269.2))))

/-! impl_productOf -/
def impl_productOf.f (k : Nat) (a0_0 : Int) (a0_1 : Int) (a1_0 : Int) (a1_1 : Int) : Option (Int × Int × Bool) := (impl_timesWide.f a0_0 a1_0).bind fun bt274 => ((impl_wide_fit.f k bt274.1 bt274.2.1 bt274.2.2 (wrap64 (a0_1 + a1_1))).bind fun bt277 => (some (bt277.1, bt277.2.1, bt277.2.2)))
theorem impl_productOf.mono : ∀ a0 a1 a2 a3 k, LeO (impl_productOf.f k a0 a1 a2 a3) (impl_productOf.f (k + 1) a0 a1 a2 a3) := by
  intro a0 a1 a2 a3 k
  unfold impl_productOf.f
  repeat' first
      | (with_reducible exact impl_wide_fit.mono _ _ _ _ _)
      | (with_reducible exact LeO.refl _)
      | (with_reducible exact LeO.none _)
      | (with_reducible refine LeO.ite ?_ ?_)
      | (with_reducible refine LeO.bind ?_ (fun _ => ?_))
      | exact impl_wide_fit.mono _ _ _ _ _
      | exact LeO.none _
      | refine LeO.ite ?_ ?_
      | refine LeO.bind ?_ (fun _ => ?_)

/-! impl_MultiplyDyadic -/
def impl_MultiplyDyadic.f (k : Nat) (a0_0 : Int) (a0_1 : Int) (a1_0 : Int) (a1_1 : Int) : Option (Int × Int × Bool) := (impl_isDyadic.f a0_0 a0_1).bind fun t283 => (if t283 = true then ((impl_isDyadic.f a1_0 a1_1).bind fun t284 => (if t284 = true then ((impl_productOf.f k a0_0 a0_1 a1_0 a1_1).bind fun bt285 => (some (bt285.1, bt285.2.1, bt285.2.2))) else (some (0, 0, false)))) else (some (0, 0, false)))
theorem impl_MultiplyDyadic.mono : ∀ a0 a1 a2 a3 k, LeO (impl_MultiplyDyadic.f k a0 a1 a2 a3) (impl_MultiplyDyadic.f (k + 1) a0 a1 a2 a3) := by
  intro a0 a1 a2 a3 k
  unfold impl_MultiplyDyadic.f
  repeat' first
      | (with_reducible exact impl_productOf.mono _ _ _ _ _)
      | (with_reducible exact LeO.refl _)
      | (with_reducible exact LeO.none _)
      | (with_reducible refine LeO.ite ?_ ?_)
      | (with_reducible refine LeO.bind ?_ (fun _ => ?_))
      | exact impl_productOf.mono _ _ _ _ _
      | exact LeO.none _
      | refine LeO.ite ?_ ?_
      | refine LeO.bind ?_ (fun _ => ?_)

/-! laws_FnExactMultiplyDyadic -/
def laws_FnExactMultiplyDyadic.f (k : Nat) (a0_0 : Int) (a0_1 : Int) (a1_0 : Int) (a1_1 : Int) : Option (Bool) := (laws_toDyadic.f a0_0 a0_1).bind fun bt290 => ((laws_toDyadic.f a1_0 a1_1).bind fun bt292 => ((spec_MultiplyDyadic.f k bt290.1 bt290.2 bt292.1 bt292.2).bind fun bt294 => ((laws_toDyadic.f a0_0 a0_1).bind fun bt298 => ((laws_toDyadic.f a1_0 a1_1).bind fun bt300 => ((impl_MultiplyDyadic.f k bt298.1 bt298.2 bt300.1 bt300.2).bind fun bt302 => ((laws_eqDyadic.f bt302.1 bt302.2.1 bt294.1 bt294.2.1).bind fun t306 => (if t306 = true then (if (bt302.2.2 != bt294.2.2) = true then (none) else (some true)) else (none))))))))
theorem laws_FnExactMultiplyDyadic.mono : ∀ a0 a1 a2 a3 k, LeO (laws_FnExactMultiplyDyadic.f k a0 a1 a2 a3) (laws_FnExactMultiplyDyadic.f (k + 1) a0 a1 a2 a3) := by
  intro a0 a1 a2 a3 k
  unfold laws_FnExactMultiplyDyadic.f
  repeat' first
      | (with_reducible exact impl_MultiplyDyadic.mono _ _ _ _ _)
      | (with_reducible exact spec_MultiplyDyadic.mono _ _ _ _ _)
      | (with_reducible exact LeO.refl _)
      | (with_reducible exact LeO.none _)
      | (with_reducible refine LeO.ite ?_ ?_)
      | (with_reducible refine LeO.bind ?_ (fun _ => ?_))
      | exact impl_MultiplyDyadic.mono _ _ _ _ _
      | exact spec_MultiplyDyadic.mono _ _ _ _ _
      | exact LeO.none _
      | refine LeO.ite ?_ ?_
      | refine LeO.bind ?_ (fun _ => ?_)

/-! spec_dyFloor -/
def spec_dyFloor.f (a0_0 : Int) (a0_1 : Int) : Option (Int) := (spec_dyPower.f a0_1).bind fun t308 => ((spec_dyDown.f a0_0 t308).bind fun t309 => (some t309))

/-! spec_l1Sign -/
def spec_l1Sign.f (a0 : Int) : Option (Int) := if a0 > 0 then (some 1) else (if a0 < 0 then (some (-1)) else (some 0))

/-! spec_dyAt -/
def spec_dyAt.l0 : Nat → Int → Int → Int → Int → Option (Int × Bool)
  | 0, _, _, _, _ => none
  | k + 1, x1, x6, x311000, x311001 => if x6 < x1 then ((spec_dyPower.f 60).bind fun t311 => ((spec_l1In.f x311000 (wrap64 (-t311)) t311).bind fun t312 => (if t312 = true then (spec_dyAt.l0 k x1 (wrap64 (x6 + 1)) (wrap64 (x311000 * 2)) x311001) else (some (0, false))))) else (some (x311000, true))
def spec_dyAt.f (k : Nat) (a0_0 : Int) (a0_1 : Int) (a1 : Int) : Option (Int × Bool) := if a0_0 = 0 then (some (0, true)) else (spec_dyAt.l0 k a1 a0_1 a0_0 a0_1)
theorem spec_dyAt.mono_l : ∀ k, (∀ y0 y1 y2 y3, LeO (spec_dyAt.l0 k y0 y1 y2 y3) (spec_dyAt.l0 (k + 1) y0 y1 y2 y3))
  | 0 => fun _ _ _ _ r h => by simp [spec_dyAt.l0] at h
  | k + 1 => by
    have ih0 := spec_dyAt.mono_l k
    · intro y0 y1 y2 y3
      unfold spec_dyAt.l0
      repeat' first
      | (with_reducible exact ih0 _ _ _ _)
      | (with_reducible exact LeO.refl _)
      | (with_reducible exact LeO.none _)
      | (with_reducible refine LeO.ite ?_ ?_)
      | (with_reducible refine LeO.bind ?_ (fun _ => ?_))
      | exact ih0 _ _ _ _
      | exact LeO.none _
      | refine LeO.ite ?_ ?_
      | refine LeO.bind ?_ (fun _ => ?_)
theorem spec_dyAt.mono : ∀ a0 a1 a2 k, LeO (spec_dyAt.f k a0 a1 a2) (spec_dyAt.f (k + 1) a0 a1 a2) := by
  intro a0 a1 a2 k
  have ih0 := spec_dyAt.mono_l k
  unfold spec_dyAt.f
  repeat' first
      | (with_reducible exact ih0 _ _ _ _)
      | (with_reducible exact LeO.refl _)
      | (with_reducible exact LeO.none _)
      | (with_reducible refine LeO.ite ?_ ?_)
      | (with_reducible refine LeO.bind ?_ (fun _ => ?_))
      | exact ih0 _ _ _ _
      | exact LeO.none _
      | refine LeO.ite ?_ ?_
      | refine LeO.bind ?_ (fun _ => ?_)

/-! spec_dyCmp -/
def spec_dyCmp.f (k : Nat) (a0_0 : Int) (a0_1 : Int) (a1_0 : Int) (a1_1 : Int) : Option (Int) := (spec_dyFloor.f a0_0 a0_1).bind fun t315 => ((spec_dyFloor.f a1_0 a1_1).bind fun t316 => (if t315 = t316 then ((spec_dyPower.f a0_1).bind fun t318 => ((spec_dyAt.f k (wrap64 (a0_0 - (wrap64 (t315 * t318)))) a0_1 24).bind fun bt319 => ((spec_dyPower.f a1_1).bind fun t321 => ((spec_dyAt.f k (wrap64 (a1_0 - (wrap64 (t316 * t321)))) a1_1 24).bind fun bt322 => ((spec_l1Sign.f (wrap64 (bt319.1 - bt322.1))).bind fun t324 => (some t324)))))) else ((spec_l1Sign.f (wrap64 (t315 - t316))).bind fun t317 => (some t317))))
theorem spec_dyCmp.mono : ∀ a0 a1 a2 a3 k, LeO (spec_dyCmp.f k a0 a1 a2 a3) (spec_dyCmp.f (k + 1) a0 a1 a2 a3) := by
  intro a0 a1 a2 a3 k
  unfold spec_dyCmp.f
  repeat' first
      | (with_reducible exact spec_dyAt.mono _ _ _ _)
      | (with_reducible exact LeO.refl _)
      | (with_reducible exact LeO.none _)
      | (with_reducible refine LeO.ite ?_ ?_)
      | (with_reducible refine LeO.bind ?_ (fun _ => ?_))
      | exact spec_dyAt.mono _ _ _ _
      | exact LeO.none _
      | refine LeO.ite ?_ ?_
      | refine LeO.bind ?_ (fun _ => ?_)

/-! spec_CompareDyadic -/
def spec_CompareDyadic.f (k : Nat) (a0_0 : Int) (a0_1 : Int) (a1_0 : Int) (a1_1 : Int) : Option (Int × Bool) := (spec_dyTwo.f a0_0 a0_1 a1_0 a1_1).bind fun t327 => (if t327 = true then ((spec_dyCmp.f k a0_0 a0_1 a1_0 a1_1).bind fun t328 => (some (t328, true))) else (some (0, false)))
theorem spec_CompareDyadic.mono : ∀ a0 a1 a2 a3 k, LeO (spec_CompareDyadic.f k a0 a1 a2 a3) (spec_CompareDyadic.f (k + 1) a0 a1 a2 a3) := by
  intro a0 a1 a2 a3 k
  unfold spec_CompareDyadic.f
  repeat' first
      | (with_reducible exact spec_dyCmp.mono _ _ _ _ _)
      | (with_reducible exact LeO.refl _)
      | (with_reducible exact LeO.none _)
      | (with_reducible refine LeO.ite ?_ ?_)
      | (with_reducible refine LeO.bind ?_ (fun _ => ?_))
      | exact spec_dyCmp.mono _ _ _ _ _
      | exact LeO.none _
      | refine LeO.ite ?_ ?_
      | refine LeO.bind ?_ (fun _ => ?_)

/-! cmp_Or_int -/
def cmp_Or_int.l0 : Nat → Int → List Int → Int → Int → Option (Int)
  | 0, _, _, _, _ => none
  | k + 1, x3, x6, x7, x8 => if x8 < x7 then (if 0 ≤ x8 then (if x8 < (x6.length : Int) then (if (rd x6 x8) = x3 then (cmp_Or_int.l0 k x3 x6 x7 (wrap64 (x8 + 1))) else (some (rd x6 x8))) else (none)) else (none)) else (some x3)
def cmp_Or_int.f (k : Nat) (l0 : List Int) : Option (Int) := cmp_Or_int.l0 k 0 l0 (l0.length : Int) 0
theorem cmp_Or_int.mono_l : ∀ k, (∀ y0 y1 y2 y3, LeO (cmp_Or_int.l0 k y0 y1 y2 y3) (cmp_Or_int.l0 (k + 1) y0 y1 y2 y3))
  | 0 => fun _ _ _ _ r h => by simp [cmp_Or_int.l0] at h
  | k + 1 => by
    have ih0 := cmp_Or_int.mono_l k
    · intro y0 y1 y2 y3
      unfold cmp_Or_int.l0
      repeat' first
      | (with_reducible exact ih0 _ _ _ _)
      | (with_reducible exact LeO.refl _)
      | (with_reducible exact LeO.none _)
      | (with_reducible refine LeO.ite ?_ ?_)
      | (with_reducible refine LeO.bind ?_ (fun _ => ?_))
      | exact ih0 _ _ _ _
      | exact LeO.none _
      | refine LeO.ite ?_ ?_
      | refine LeO.bind ?_ (fun _ => ?_)
theorem cmp_Or_int.mono : ∀ a0 k, LeO (cmp_Or_int.f k a0) (cmp_Or_int.f (k + 1) a0) := by
  intro a0 k
  have ih0 := cmp_Or_int.mono_l k
  unfold cmp_Or_int.f
  repeat' first
      | (with_reducible exact ih0 _ _ _ _)
      | (with_reducible exact LeO.refl _)
      | (with_reducible exact LeO.none _)
      | (with_reducible refine LeO.ite ?_ ?_)
      | (with_reducible refine LeO.bind ?_ (fun _ => ?_))
      | exact ih0 _ _ _ _
      | exact LeO.none _
      | refine LeO.ite ?_ ?_
      | refine LeO.bind ?_ (fun _ => ?_)

/-! cmp_isNaN_uint64 -/
def cmp_isNaN_uint64.f (a0 : Int) : Option (Bool) := some (a0 != a0)

/-! cmp_Compare_uint64 -/
def cmp_Compare_uint64.f (a0 : Int) (a1 : Int) : Option (Int) := (cmp_isNaN_uint64.f a0).bind fun t330 => ((cmp_isNaN_uint64.f a1).bind fun t331 => (if t330 = true then (if t331 = true then (some 0) else (some (-1))) else (if t331 = true then (some 1) else (if a0 < a1 then (some (-1)) else (if a0 > a1 then (some 1) else (some 0))))))

/-! impl_compareSizes -/
def impl_compareSizes.f (k : Nat) (a0_0 : Bool) (a0_1 : Int) (a0_2 : Int) (a1_0 : Bool) (a1_1 : Int) (a1_2 : Int) : Option (Int) := (cmp_Compare_uint64.f a0_1 a1_1).bind fun t334 => ((cmp_Compare_uint64.f a0_2 a1_2).bind fun t335 => ((cmp_Or_int.f k (([t334, t335] : List Int))).bind fun t339 => (some t339)))
theorem impl_compareSizes.mono : ∀ a0 a1 a2 a3 a4 a5 k, LeO (impl_compareSizes.f k a0 a1 a2 a3 a4 a5) (impl_compareSizes.f (k + 1) a0 a1 a2 a3 a4 a5) := by
  intro a0 a1 a2 a3 a4 a5 k
  unfold impl_compareSizes.f
  repeat' first
      | (with_reducible exact cmp_Or_int.mono _ _)
      | (with_reducible exact LeO.refl _)
      | (with_reducible exact LeO.none _)
      | (with_reducible refine LeO.ite ?_ ?_)
      | (with_reducible refine LeO.bind ?_ (fun _ => ?_))
      | exact cmp_Or_int.mono _ _
      | exact LeO.none _
      | refine LeO.ite ?_ ?_
      | refine LeO.bind ?_ (fun _ => ?_)

/-! impl_compareWide -/
def impl_compareWide.j0 : Nat → Bool → Bool → Int → Int → Bool → Int → Int → Option (Int)
  | 0, _, _, _, _, _, _, _ => none
  | k + 1, x5, x341000, x341001, x341002, x342000, x342001, x342002 => if x5 = true then (some 0) else (if (x341000 != x342000) = true then (if x341000 = true then (some (-1)) else (some 1)) else (if x341000 = true then ((impl_compareSizes.f k x342000 x342001 x342002 x341000 x341001 x341002).bind fun t344 => (some t344)) else ((impl_compareSizes.f k x341000 x341001 x341002 x342000 x342001 x342002).bind fun t345 => (some t345))))
def impl_compareWide.f (k : Nat) (a0_0 : Bool) (a0_1 : Int) (a0_2 : Int) (a1_0 : Bool) (a1_1 : Int) (a1_2 : Int) : Option (Int) := (impl_wide_isZero.f a0_0 a0_1 a0_2).bind fun t342 => (if t342 = true then ((impl_wide_isZero.f a1_0 a1_1 a1_2).bind fun t343 => (impl_compareWide.j0 k t343 a0_0 a0_1 a0_2 a1_0 a1_1 a1_2)) else (impl_compareWide.j0 k false a0_0 a0_1 a0_2 a1_0 a1_1 a1_2))
theorem impl_compareWide.mono_l : ∀ k, (∀ y0 y1 y2 y3 y4 y5 y6, LeO (impl_compareWide.j0 k y0 y1 y2 y3 y4 y5 y6) (impl_compareWide.j0 (k + 1) y0 y1 y2 y3 y4 y5 y6))
  | 0 => fun _ _ _ _ _ _ _ r h => by simp [impl_compareWide.j0] at h
  | k + 1 => by
    have ih0 := impl_compareWide.mono_l k
    · intro y0 y1 y2 y3 y4 y5 y6
      unfold impl_compareWide.j0
      repeat' first
      | (with_reducible exact ih0 _ _ _ _ _ _ _)
      | (with_reducible exact impl_compareSizes.mono _ _ _ _ _ _ _)
      | (with_reducible exact LeO.refl _)
      | (with_reducible exact LeO.none _)
      | (with_reducible refine LeO.ite ?_ ?_)
      | (with_reducible refine LeO.bind ?_ (fun _ => ?_))
      | exact ih0 _ _ _ _ _ _ _
      | exact impl_compareSizes.mono _ _ _ _ _ _ _
      | exact LeO.none _
      | refine LeO.ite ?_ ?_
      | refine LeO.bind ?_ (fun _ => ?_)
theorem impl_compareWide.mono : ∀ a0 a1 a2 a3 a4 a5 k, LeO (impl_compareWide.f k a0 a1 a2 a3 a4 a5) (impl_compareWide.f (k + 1) a0 a1 a2 a3 a4 a5) := by
  intro a0 a1 a2 a3 a4 a5 k
  have ih0 := impl_compareWide.mono_l k
  unfold impl_compareWide.f
  repeat' first
      | (with_reducible exact ih0 _ _ _ _ _ _ _)
      | (with_reducible exact impl_compareSizes.mono _ _ _ _ _ _ _)
      | (with_reducible exact LeO.refl _)
      | (with_reducible exact LeO.none _)
      | (with_reducible refine LeO.ite ?_ ?_)
      | (with_reducible refine LeO.bind ?_ (fun _ => ?_))
      | exact ih0 _ _ _ _ _ _ _
      | exact impl_compareSizes.mono _ _ _ _ _ _ _
      | exact LeO.none _
      | refine LeO.ite ?_ ?_
      | refine LeO.bind ?_ (fun _ => ?_)

/-! impl_compareD -/
def impl_compareD.f (k : Nat) (a0_0 : Int) (a0_1 : Int) (a1_0 : Int) (a1_1 : Int) : Option (Int) := (impl_wideOf.f a0_0).bind fun bt348 => ((impl_wide_shift.f bt348.1 bt348.2.1 bt348.2.2 (wrap64 ((mx a0_1 a1_1) - a0_1))).bind fun bt351 => ((impl_wideOf.f a1_0).bind fun bt354 => ((impl_wide_shift.f bt354.1 bt354.2.1 bt354.2.2 (wrap64 ((mx a0_1 a1_1) - a1_1))).bind fun bt357 => ((impl_compareWide.f k bt351.1 bt351.2.1 bt351.2.2 bt357.1 bt357.2.1 bt357.2.2).bind fun t360 => (some t360)))))
theorem impl_compareD.mono : ∀ a0 a1 a2 a3 k, LeO (impl_compareD.f k a0 a1 a2 a3) (impl_compareD.f (k + 1) a0 a1 a2 a3) := by
  intro a0 a1 a2 a3 k
  unfold impl_compareD.f
  repeat' first
      | (with_reducible exact impl_compareWide.mono _ _ _ _ _ _ _)
      | (with_reducible exact LeO.refl _)
      | (with_reducible exact LeO.none _)
      | (with_reducible refine LeO.ite ?_ ?_)
      | (with_reducible refine LeO.bind ?_ (fun _ => ?_))
      | exact impl_compareWide.mono _ _ _ _ _ _ _
      | exact LeO.none _
      | refine LeO.ite ?_ ?_
      | refine LeO.bind ?_ (fun _ => ?_)

/-! impl_CompareDyadic -/
def impl_CompareDyadic.f (k : Nat) (a0_0 : Int) (a0_1 : Int) (a1_0 : Int) (a1_1 : Int) : Option (Int × Bool) := (impl_isDyadic.f a0_0 a0_1).bind fun t363 => (if t363 = true then ((impl_isDyadic.f a1_0 a1_1).bind fun t364 => (if t364 = true then ((impl_compareD.f k a0_0 a0_1 a1_0 a1_1).bind fun t365 => (some (t365, true))) else (some (0, false)))) else (some (0, false)))
theorem impl_CompareDyadic.mono : ∀ a0 a1 a2 a3 k, LeO (impl_CompareDyadic.f k a0 a1 a2 a3) (impl_CompareDyadic.f (k + 1) a0 a1 a2 a3) := by
  intro a0 a1 a2 a3 k
  unfold impl_CompareDyadic.f
  repeat' first
      | (with_reducible exact impl_compareD.mono _ _ _ _ _)
      | (with_reducible exact LeO.refl _)
      | (with_reducible exact LeO.none _)
      | (with_reducible refine LeO.ite ?_ ?_)
      | (with_reducible refine LeO.bind ?_ (fun _ => ?_))
      | exact impl_compareD.mono _ _ _ _ _
      | exact LeO.none _
      | refine LeO.ite ?_ ?_
      | refine LeO.bind ?_ (fun _ => ?_)

/-! laws_FnExactCompareDyadic -/
def laws_FnExactCompareDyadic.f (k : Nat) (a0_0 : Int) (a0_1 : Int) (a1_0 : Int) (a1_1 : Int) : Option (Bool) := (laws_toDyadic.f a0_0 a0_1).bind fun bt368 => ((laws_toDyadic.f a1_0 a1_1).bind fun bt370 => ((spec_CompareDyadic.f k bt368.1 bt368.2 bt370.1 bt370.2).bind fun bt372 => ((laws_toDyadic.f a0_0 a0_1).bind fun bt374 => ((laws_toDyadic.f a1_0 a1_1).bind fun bt376 => ((impl_CompareDyadic.f k bt374.1 bt374.2 bt376.1 bt376.2).bind fun bt378 => (if bt378.1 = bt372.1 then (if (bt378.2 != bt372.2) = true then (none) else (some true)) else (none)))))))
theorem laws_FnExactCompareDyadic.mono : ∀ a0 a1 a2 a3 k, LeO (laws_FnExactCompareDyadic.f k a0 a1 a2 a3) (laws_FnExactCompareDyadic.f (k + 1) a0 a1 a2 a3) := by
  intro a0 a1 a2 a3 k
  unfold laws_FnExactCompareDyadic.f
  repeat' first
      | (with_reducible exact impl_CompareDyadic.mono _ _ _ _ _)
      | (with_reducible exact spec_CompareDyadic.mono _ _ _ _ _)
      | (with_reducible exact LeO.refl _)
      | (with_reducible exact LeO.none _)
      | (with_reducible refine LeO.ite ?_ ?_)
      | (with_reducible refine LeO.bind ?_ (fun _ => ?_))
      | exact impl_CompareDyadic.mono _ _ _ _ _
      | exact spec_CompareDyadic.mono _ _ _ _ _
      | exact LeO.none _
      | refine LeO.ite ?_ ?_
      | refine LeO.bind ?_ (fun _ => ?_)

/-! spec_dyHalf -/
def spec_dyHalf.f (k : Nat) (a0_0 : Int) (a0_1 : Int) (a1_0 : Int) (a1_1 : Int) : Option (Int × Int × Bool) := (spec_l1Most.f a0_1 a1_1).bind fun t383 => ((spec_dyAt.f k a0_0 a0_1 t383).bind fun bt384 => ((spec_dyAt.f k a1_0 a1_1 t383).bind fun bt386 => (if bt384.2 = true then (if bt386.2 = true then ((spec_dyMake.f k (wrap64 (bt384.1 + bt386.1)) (wrap64 (t383 + 1))).bind fun bt388 => (some (bt388.1, bt388.2.1, bt388.2.2))) else (some (0, 0, false))) else (some (0, 0, false)))))
theorem spec_dyHalf.mono : ∀ a0 a1 a2 a3 k, LeO (spec_dyHalf.f k a0 a1 a2 a3) (spec_dyHalf.f (k + 1) a0 a1 a2 a3) := by
  intro a0 a1 a2 a3 k
  unfold spec_dyHalf.f
  repeat' first
      | (with_reducible exact spec_dyAt.mono _ _ _ _)
      | (with_reducible exact spec_dyMake.mono _ _ _)
      | (with_reducible exact LeO.refl _)
      | (with_reducible exact LeO.none _)
      | (with_reducible refine LeO.ite ?_ ?_)
      | (with_reducible refine LeO.bind ?_ (fun _ => ?_))
      | exact spec_dyAt.mono _ _ _ _
      | exact spec_dyMake.mono _ _ _
      | exact LeO.none _
      | refine LeO.ite ?_ ?_
      | refine LeO.bind ?_ (fun _ => ?_)

/-! spec_MiddleOf -/
def spec_MiddleOf.f (k : Nat) (a0_0 : Int) (a0_1 : Int) (a1_0 : Int) (a1_1 : Int) : Option (Int × Int × Bool) := (spec_dyTwo.f a0_0 a0_1 a1_0 a1_1).bind fun t394 => (if t394 = true then ((spec_dyHalf.f k a0_0 a0_1 a1_0 a1_1).bind fun bt395 => (some (bt395.1, bt395.2.1, bt395.2.2))) else (some (0, 0, false)))
theorem spec_MiddleOf.mono : ∀ a0 a1 a2 a3 k, LeO (spec_MiddleOf.f k a0 a1 a2 a3) (spec_MiddleOf.f (k + 1) a0 a1 a2 a3) := by
  intro a0 a1 a2 a3 k
  unfold spec_MiddleOf.f
  repeat' first
      | (with_reducible exact spec_dyHalf.mono _ _ _ _ _)
      | (with_reducible exact LeO.refl _)
      | (with_reducible exact LeO.none _)
      | (with_reducible refine LeO.ite ?_ ?_)
      | (with_reducible refine LeO.bind ?_ (fun _ => ?_))
      | exact spec_dyHalf.mono _ _ _ _ _
      | exact LeO.none _
      | refine LeO.ite ?_ ?_
      | refine LeO.bind ?_ (fun _ => ?_)

/-! bits_Add64 -/
-- HAND rounds=0 making=0 extern
/-- The model's stand-in for bits.Add64, as a function of numbers. -/
def bits_Add64.f (a0 : Int) (a1 : Int) (a2 : Int) : Option (Int × Int) := if a2 = 0 then some ((((a0.toNat + a1.toNat) % 18446744073709551616 : Nat) : Int), (((a0.toNat + a1.toNat) / 18446744073709551616 : Nat) : Int)) else if a2 = 1 then some ((((a0.toNat + a1.toNat + 1) % 18446744073709551616 : Nat) : Int), (((a0.toNat + a1.toNat + 1) / 18446744073709551616 : Nat) : Int)) else none

/-! bits_Sub64 -/
-- HAND rounds=0 making=0 extern
/-- The model's stand-in for bits.Sub64, as a function of numbers. -/
def bits_Sub64.f (a0 : Int) (a1 : Int) (a2 : Int) : Option (Int × Int) := if a2 = 0 then some ((((a0.toNat + 18446744073709551616 - a1.toNat - 0) % 18446744073709551616 : Nat) : Int), ((if a0.toNat < a1.toNat + 0 then 1 else 0 : Nat) : Int)) else if a2 = 1 then some ((((a0.toNat + 18446744073709551616 - a1.toNat - 1) % 18446744073709551616 : Nat) : Int), ((if a0.toNat < a1.toNat + 1 then 1 else 0 : Nat) : Int)) else none

/-! impl_wide_add -/
def impl_wide_add.f (k : Nat) (a0_0 : Bool) (a0_1 : Int) (a0_2 : Int) (a1_0 : Bool) (a1_1 : Int) (a1_2 : Int) : Option (Bool × Int × Int) := if (a0_0 == a1_0) = true then ((bits_Add64.f a0_2 a1_2 0).bind fun bt401 => ((bits_Add64.f a0_1 a1_1 bt401.2).bind fun bt403 => (some (a0_0, bt403.1, bt401.1)))) else ((impl_compareSizes.f k a0_0 a0_1 a0_2 a1_0 a1_1 a1_2).bind fun t405 => (if t405 < 0 then ((bits_Sub64.f a1_2 a0_2 0).bind fun bt406 => ((bits_Sub64.f a1_1 a0_1 bt406.2).bind fun bt408 => (some (a1_0, bt408.1, bt406.1)))) else ((bits_Sub64.f a0_2 a1_2 0).bind fun bt410 => ((bits_Sub64.f a0_1 a1_1 bt410.2).bind fun bt412 => (some (a0_0, bt412.1, bt410.1))))))
theorem impl_wide_add.mono : ∀ a0 a1 a2 a3 a4 a5 k, LeO (impl_wide_add.f k a0 a1 a2 a3 a4 a5) (impl_wide_add.f (k + 1) a0 a1 a2 a3 a4 a5) := by
  intro a0 a1 a2 a3 a4 a5 k
  unfold impl_wide_add.f
  repeat' first
      | (with_reducible exact impl_compareSizes.mono _ _ _ _ _ _ _)
      | (with_reducible exact LeO.refl _)
      | (with_reducible exact LeO.none _)
      | (with_reducible refine LeO.ite ?_ ?_)
      | (with_reducible refine LeO.bind ?_ (fun _ => ?_))
      | exact impl_compareSizes.mono _ _ _ _ _ _ _
      | exact LeO.none _
      | refine LeO.ite ?_ ?_
      | refine LeO.bind ?_ (fun _ => ?_)

/-! impl_middleOf -/
def impl_middleOf.f (k : Nat) (a0_0 : Int) (a0_1 : Int) (a1_0 : Int) (a1_1 : Int) : Option (Int × Int × Bool) := (impl_wideOf.f a0_0).bind fun bt417 => ((impl_wide_shift.f bt417.1 bt417.2.1 bt417.2.2 (wrap64 ((mx a0_1 a1_1) - a0_1))).bind fun bt420 => ((impl_wideOf.f a1_0).bind fun bt423 => ((impl_wide_shift.f bt423.1 bt423.2.1 bt423.2.2 (wrap64 ((mx a0_1 a1_1) - a1_1))).bind fun bt426 => ((impl_wide_add.f k bt420.1 bt420.2.1 bt420.2.2 bt426.1 bt426.2.1 bt426.2.2).bind fun bt429 => ((impl_wide_fit.f k bt429.1 bt429.2.1 bt429.2.2 (wrap64 ((mx a0_1 a1_1) + 1))).bind fun bt432 => (some (bt432.1, bt432.2.1, bt432.2.2)))))))
theorem impl_middleOf.mono : ∀ a0 a1 a2 a3 k, LeO (impl_middleOf.f k a0 a1 a2 a3) (impl_middleOf.f (k + 1) a0 a1 a2 a3) := by
  intro a0 a1 a2 a3 k
  unfold impl_middleOf.f
  repeat' first
      | (with_reducible exact impl_wide_add.mono _ _ _ _ _ _ _)
      | (with_reducible exact impl_wide_fit.mono _ _ _ _ _)
      | (with_reducible exact LeO.refl _)
      | (with_reducible exact LeO.none _)
      | (with_reducible refine LeO.ite ?_ ?_)
      | (with_reducible refine LeO.bind ?_ (fun _ => ?_))
      | exact impl_wide_add.mono _ _ _ _ _ _ _
      | exact impl_wide_fit.mono _ _ _ _ _
      | exact LeO.none _
      | refine LeO.ite ?_ ?_
      | refine LeO.bind ?_ (fun _ => ?_)

/-! impl_MiddleOf -/
def impl_MiddleOf.f (k : Nat) (a0_0 : Int) (a0_1 : Int) (a1_0 : Int) (a1_1 : Int) : Option (Int × Int × Bool) := (impl_isDyadic.f a0_0 a0_1).bind fun t438 => (if t438 = true then ((impl_isDyadic.f a1_0 a1_1).bind fun t439 => (if t439 = true then ((impl_middleOf.f k a0_0 a0_1 a1_0 a1_1).bind fun bt440 => (some (bt440.1, bt440.2.1, bt440.2.2))) else (some (0, 0, false)))) else (some (0, 0, false)))
theorem impl_MiddleOf.mono : ∀ a0 a1 a2 a3 k, LeO (impl_MiddleOf.f k a0 a1 a2 a3) (impl_MiddleOf.f (k + 1) a0 a1 a2 a3) := by
  intro a0 a1 a2 a3 k
  unfold impl_MiddleOf.f
  repeat' first
      | (with_reducible exact impl_middleOf.mono _ _ _ _ _)
      | (with_reducible exact LeO.refl _)
      | (with_reducible exact LeO.none _)
      | (with_reducible refine LeO.ite ?_ ?_)
      | (with_reducible refine LeO.bind ?_ (fun _ => ?_))
      | exact impl_middleOf.mono _ _ _ _ _
      | exact LeO.none _
      | refine LeO.ite ?_ ?_
      | refine LeO.bind ?_ (fun _ => ?_)

/-! laws_FnExactMiddleOf -/
def laws_FnExactMiddleOf.f (k : Nat) (a0_0 : Int) (a0_1 : Int) (a1_0 : Int) (a1_1 : Int) : Option (Bool) := (laws_toDyadic.f a0_0 a0_1).bind fun bt445 => ((laws_toDyadic.f a1_0 a1_1).bind fun bt447 => ((spec_MiddleOf.f k bt445.1 bt445.2 bt447.1 bt447.2).bind fun bt449 => ((laws_toDyadic.f a0_0 a0_1).bind fun bt453 => ((laws_toDyadic.f a1_0 a1_1).bind fun bt455 => ((impl_MiddleOf.f k bt453.1 bt453.2 bt455.1 bt455.2).bind fun bt457 => ((laws_eqDyadic.f bt457.1 bt457.2.1 bt449.1 bt449.2.1).bind fun t461 => (if t461 = true then (if (bt457.2.2 != bt449.2.2) = true then (none) else (some true)) else (none))))))))
theorem laws_FnExactMiddleOf.mono : ∀ a0 a1 a2 a3 k, LeO (laws_FnExactMiddleOf.f k a0 a1 a2 a3) (laws_FnExactMiddleOf.f (k + 1) a0 a1 a2 a3) := by
  intro a0 a1 a2 a3 k
  unfold laws_FnExactMiddleOf.f
  repeat' first
      | (with_reducible exact impl_MiddleOf.mono _ _ _ _ _)
      | (with_reducible exact spec_MiddleOf.mono _ _ _ _ _)
      | (with_reducible exact LeO.refl _)
      | (with_reducible exact LeO.none _)
      | (with_reducible refine LeO.ite ?_ ?_)
      | (with_reducible refine LeO.bind ?_ (fun _ => ?_))
      | exact impl_MiddleOf.mono _ _ _ _ _
      | exact spec_MiddleOf.mono _ _ _ _ _
      | exact LeO.none _
      | refine LeO.ite ?_ ?_
      | refine LeO.bind ?_ (fun _ => ?_)

/-! spec_dyAdd -/
def spec_dyAdd.f (k : Nat) (a0_0 : Int) (a0_1 : Int) (a1_0 : Int) (a1_1 : Int) : Option (Int × Int × Bool) := (spec_l1Most.f a0_1 a1_1).bind fun t465 => ((spec_dyAt.f k a0_0 a0_1 t465).bind fun bt466 => ((spec_dyAt.f k a1_0 a1_1 t465).bind fun bt468 => (if bt466.2 = true then (if bt468.2 = true then ((spec_dyMake.f k (wrap64 (bt466.1 + bt468.1)) t465).bind fun bt470 => (some (bt470.1, bt470.2.1, bt470.2.2))) else (some (0, 0, false))) else (some (0, 0, false)))))
theorem spec_dyAdd.mono : ∀ a0 a1 a2 a3 k, LeO (spec_dyAdd.f k a0 a1 a2 a3) (spec_dyAdd.f (k + 1) a0 a1 a2 a3) := by
  intro a0 a1 a2 a3 k
  unfold spec_dyAdd.f
  repeat' first
      | (with_reducible exact spec_dyAt.mono _ _ _ _)
      | (with_reducible exact spec_dyMake.mono _ _ _)
      | (with_reducible exact LeO.refl _)
      | (with_reducible exact LeO.none _)
      | (with_reducible refine LeO.ite ?_ ?_)
      | (with_reducible refine LeO.bind ?_ (fun _ => ?_))
      | exact spec_dyAt.mono _ _ _ _
      | exact spec_dyMake.mono _ _ _
      | exact LeO.none _
      | refine LeO.ite ?_ ?_
      | refine LeO.bind ?_ (fun _ => ?_)

/-! spec_AddDyadic -/
def spec_AddDyadic.f (k : Nat) (a0_0 : Int) (a0_1 : Int) (a1_0 : Int) (a1_1 : Int) : Option (Int × Int × Bool) := (spec_dyTwo.f a0_0 a0_1 a1_0 a1_1).bind fun t476 => (if t476 = true then ((spec_dyAdd.f k a0_0 a0_1 a1_0 a1_1).bind fun bt477 => (some (bt477.1, bt477.2.1, bt477.2.2))) else (some (0, 0, false)))
theorem spec_AddDyadic.mono : ∀ a0 a1 a2 a3 k, LeO (spec_AddDyadic.f k a0 a1 a2 a3) (spec_AddDyadic.f (k + 1) a0 a1 a2 a3) := by
  intro a0 a1 a2 a3 k
  unfold spec_AddDyadic.f
  repeat' first
      | (with_reducible exact spec_dyAdd.mono _ _ _ _ _)
      | (with_reducible exact LeO.refl _)
      | (with_reducible exact LeO.none _)
      | (with_reducible refine LeO.ite ?_ ?_)
      | (with_reducible refine LeO.bind ?_ (fun _ => ?_))
      | exact spec_dyAdd.mono _ _ _ _ _
      | exact LeO.none _
      | refine LeO.ite ?_ ?_
      | refine LeO.bind ?_ (fun _ => ?_)

/-! impl_sumOf -/
def impl_sumOf.f (k : Nat) (a0_0 : Int) (a0_1 : Int) (a1_0 : Int) (a1_1 : Int) : Option (Int × Int × Bool) := (impl_wideOf.f a0_0).bind fun bt483 => ((impl_wide_shift.f bt483.1 bt483.2.1 bt483.2.2 (wrap64 ((mx a0_1 a1_1) - a0_1))).bind fun bt486 => ((impl_wideOf.f a1_0).bind fun bt489 => ((impl_wide_shift.f bt489.1 bt489.2.1 bt489.2.2 (wrap64 ((mx a0_1 a1_1) - a1_1))).bind fun bt492 => ((impl_wide_add.f k bt486.1 bt486.2.1 bt486.2.2 bt492.1 bt492.2.1 bt492.2.2).bind fun bt495 => ((impl_wide_fit.f k bt495.1 bt495.2.1 bt495.2.2 (mx a0_1 a1_1)).bind fun bt498 => (some (bt498.1, bt498.2.1, bt498.2.2)))))))
theorem impl_sumOf.mono : ∀ a0 a1 a2 a3 k, LeO (impl_sumOf.f k a0 a1 a2 a3) (impl_sumOf.f (k + 1) a0 a1 a2 a3) := by
  intro a0 a1 a2 a3 k
  unfold impl_sumOf.f
  repeat' first
      | (with_reducible exact impl_wide_add.mono _ _ _ _ _ _ _)
      | (with_reducible exact impl_wide_fit.mono _ _ _ _ _)
      | (with_reducible exact LeO.refl _)
      | (with_reducible exact LeO.none _)
      | (with_reducible refine LeO.ite ?_ ?_)
      | (with_reducible refine LeO.bind ?_ (fun _ => ?_))
      | exact impl_wide_add.mono _ _ _ _ _ _ _
      | exact impl_wide_fit.mono _ _ _ _ _
      | exact LeO.none _
      | refine LeO.ite ?_ ?_
      | refine LeO.bind ?_ (fun _ => ?_)

/-! impl_AddDyadic -/
def impl_AddDyadic.f (k : Nat) (a0_0 : Int) (a0_1 : Int) (a1_0 : Int) (a1_1 : Int) : Option (Int × Int × Bool) := (impl_isDyadic.f a0_0 a0_1).bind fun t504 => (if t504 = true then ((impl_isDyadic.f a1_0 a1_1).bind fun t505 => (if t505 = true then ((impl_sumOf.f k a0_0 a0_1 a1_0 a1_1).bind fun bt506 => (some (bt506.1, bt506.2.1, bt506.2.2))) else (some (0, 0, false)))) else (some (0, 0, false)))
theorem impl_AddDyadic.mono : ∀ a0 a1 a2 a3 k, LeO (impl_AddDyadic.f k a0 a1 a2 a3) (impl_AddDyadic.f (k + 1) a0 a1 a2 a3) := by
  intro a0 a1 a2 a3 k
  unfold impl_AddDyadic.f
  repeat' first
      | (with_reducible exact impl_sumOf.mono _ _ _ _ _)
      | (with_reducible exact LeO.refl _)
      | (with_reducible exact LeO.none _)
      | (with_reducible refine LeO.ite ?_ ?_)
      | (with_reducible refine LeO.bind ?_ (fun _ => ?_))
      | exact impl_sumOf.mono _ _ _ _ _
      | exact LeO.none _
      | refine LeO.ite ?_ ?_
      | refine LeO.bind ?_ (fun _ => ?_)

/-! laws_FnExactAddDyadic -/
def laws_FnExactAddDyadic.f (k : Nat) (a0_0 : Int) (a0_1 : Int) (a1_0 : Int) (a1_1 : Int) : Option (Bool) := (laws_toDyadic.f a0_0 a0_1).bind fun bt511 => ((laws_toDyadic.f a1_0 a1_1).bind fun bt513 => ((spec_AddDyadic.f k bt511.1 bt511.2 bt513.1 bt513.2).bind fun bt515 => ((laws_toDyadic.f a0_0 a0_1).bind fun bt519 => ((laws_toDyadic.f a1_0 a1_1).bind fun bt521 => ((impl_AddDyadic.f k bt519.1 bt519.2 bt521.1 bt521.2).bind fun bt523 => ((laws_eqDyadic.f bt523.1 bt523.2.1 bt515.1 bt515.2.1).bind fun t527 => (if t527 = true then (if (bt523.2.2 != bt515.2.2) = true then (none) else (some true)) else (none))))))))
theorem laws_FnExactAddDyadic.mono : ∀ a0 a1 a2 a3 k, LeO (laws_FnExactAddDyadic.f k a0 a1 a2 a3) (laws_FnExactAddDyadic.f (k + 1) a0 a1 a2 a3) := by
  intro a0 a1 a2 a3 k
  unfold laws_FnExactAddDyadic.f
  repeat' first
      | (with_reducible exact impl_AddDyadic.mono _ _ _ _ _)
      | (with_reducible exact spec_AddDyadic.mono _ _ _ _ _)
      | (with_reducible exact LeO.refl _)
      | (with_reducible exact LeO.none _)
      | (with_reducible refine LeO.ite ?_ ?_)
      | (with_reducible refine LeO.bind ?_ (fun _ => ?_))
      | exact impl_AddDyadic.mono _ _ _ _ _
      | exact spec_AddDyadic.mono _ _ _ _ _
      | exact LeO.none _
      | refine LeO.ite ?_ ?_
      | refine LeO.bind ?_ (fun _ => ?_)

/-! spec_dySub -/
def spec_dySub.f (k : Nat) (a0_0 : Int) (a0_1 : Int) (a1_0 : Int) (a1_1 : Int) : Option (Int × Int × Bool) := (spec_dyMinus.f a1_0 a1_1).bind fun bt531 => ((spec_dyAdd.f k a0_0 a0_1 bt531.1 bt531.2).bind fun bt533 => (some (bt533.1, bt533.2.1, bt533.2.2)))
theorem spec_dySub.mono : ∀ a0 a1 a2 a3 k, LeO (spec_dySub.f k a0 a1 a2 a3) (spec_dySub.f (k + 1) a0 a1 a2 a3) := by
  intro a0 a1 a2 a3 k
  unfold spec_dySub.f
  repeat' first
      | (with_reducible exact spec_dyAdd.mono _ _ _ _ _)
      | (with_reducible exact LeO.refl _)
      | (with_reducible exact LeO.none _)
      | (with_reducible refine LeO.ite ?_ ?_)
      | (with_reducible refine LeO.bind ?_ (fun _ => ?_))
      | exact spec_dyAdd.mono _ _ _ _ _
      | exact LeO.none _
      | refine LeO.ite ?_ ?_
      | refine LeO.bind ?_ (fun _ => ?_)

/-! spec_SubtractDyadic -/
def spec_SubtractDyadic.f (k : Nat) (a0_0 : Int) (a0_1 : Int) (a1_0 : Int) (a1_1 : Int) : Option (Int × Int × Bool) := (spec_dyTwo.f a0_0 a0_1 a1_0 a1_1).bind fun t539 => (if t539 = true then ((spec_dySub.f k a0_0 a0_1 a1_0 a1_1).bind fun bt540 => (some (bt540.1, bt540.2.1, bt540.2.2))) else (some (0, 0, false)))
theorem spec_SubtractDyadic.mono : ∀ a0 a1 a2 a3 k, LeO (spec_SubtractDyadic.f k a0 a1 a2 a3) (spec_SubtractDyadic.f (k + 1) a0 a1 a2 a3) := by
  intro a0 a1 a2 a3 k
  unfold spec_SubtractDyadic.f
  repeat' first
      | (with_reducible exact spec_dySub.mono _ _ _ _ _)
      | (with_reducible exact LeO.refl _)
      | (with_reducible exact LeO.none _)
      | (with_reducible refine LeO.ite ?_ ?_)
      | (with_reducible refine LeO.bind ?_ (fun _ => ?_))
      | exact spec_dySub.mono _ _ _ _ _
      | exact LeO.none _
      | refine LeO.ite ?_ ?_
      | refine LeO.bind ?_ (fun _ => ?_)

/-! impl_SubtractDyadic -/
def impl_SubtractDyadic.j0 : Nat → Bool → Int → Int → Int → Int → Option (Int × Int × Bool)
  | 0, _, _, _, _, _ => none
  | k + 1, x13, x544000, x544001, x545000, x545001 => if x13 = true then (some (0, 0, false)) else ((impl_minus.f x545000 x545001).bind fun bt548 => ((impl_sumOf.f k x544000 x544001 bt548.1 bt548.2).bind fun bt550 => (some (bt550.1, bt550.2.1, bt550.2.2))))
def impl_SubtractDyadic.f (k : Nat) (a0_0 : Int) (a0_1 : Int) (a1_0 : Int) (a1_1 : Int) : Option (Int × Int × Bool) := (impl_isDyadic.f a0_0 a0_1).bind fun t546 => (if t546 = true then ((impl_isDyadic.f a1_0 a1_1).bind fun t547 => (impl_SubtractDyadic.j0 k (!t547) a0_0 a0_1 a1_0 a1_1)) else (impl_SubtractDyadic.j0 k true a0_0 a0_1 a1_0 a1_1))
theorem impl_SubtractDyadic.mono_l : ∀ k, (∀ y0 y1 y2 y3 y4, LeO (impl_SubtractDyadic.j0 k y0 y1 y2 y3 y4) (impl_SubtractDyadic.j0 (k + 1) y0 y1 y2 y3 y4))
  | 0 => fun _ _ _ _ _ r h => by simp [impl_SubtractDyadic.j0] at h
  | k + 1 => by
    have ih0 := impl_SubtractDyadic.mono_l k
    · intro y0 y1 y2 y3 y4
      unfold impl_SubtractDyadic.j0
      repeat' first
      | (with_reducible exact ih0 _ _ _ _ _)
      | (with_reducible exact impl_sumOf.mono _ _ _ _ _)
      | (with_reducible exact LeO.refl _)
      | (with_reducible exact LeO.none _)
      | (with_reducible refine LeO.ite ?_ ?_)
      | (with_reducible refine LeO.bind ?_ (fun _ => ?_))
      | exact ih0 _ _ _ _ _
      | exact impl_sumOf.mono _ _ _ _ _
      | exact LeO.none _
      | refine LeO.ite ?_ ?_
      | refine LeO.bind ?_ (fun _ => ?_)
theorem impl_SubtractDyadic.mono : ∀ a0 a1 a2 a3 k, LeO (impl_SubtractDyadic.f k a0 a1 a2 a3) (impl_SubtractDyadic.f (k + 1) a0 a1 a2 a3) := by
  intro a0 a1 a2 a3 k
  have ih0 := impl_SubtractDyadic.mono_l k
  unfold impl_SubtractDyadic.f
  repeat' first
      | (with_reducible exact ih0 _ _ _ _ _)
      | (with_reducible exact impl_sumOf.mono _ _ _ _ _)
      | (with_reducible exact LeO.refl _)
      | (with_reducible exact LeO.none _)
      | (with_reducible refine LeO.ite ?_ ?_)
      | (with_reducible refine LeO.bind ?_ (fun _ => ?_))
      | exact ih0 _ _ _ _ _
      | exact impl_sumOf.mono _ _ _ _ _
      | exact LeO.none _
      | refine LeO.ite ?_ ?_
      | refine LeO.bind ?_ (fun _ => ?_)

/-! laws_FnExactSubtractDyadic -/
def laws_FnExactSubtractDyadic.f (k : Nat) (a0_0 : Int) (a0_1 : Int) (a1_0 : Int) (a1_1 : Int) : Option (Bool) := (laws_toDyadic.f a0_0 a0_1).bind fun bt555 => ((laws_toDyadic.f a1_0 a1_1).bind fun bt557 => ((spec_SubtractDyadic.f k bt555.1 bt555.2 bt557.1 bt557.2).bind fun bt559 => ((laws_toDyadic.f a0_0 a0_1).bind fun bt563 => ((laws_toDyadic.f a1_0 a1_1).bind fun bt565 => ((impl_SubtractDyadic.f k bt563.1 bt563.2 bt565.1 bt565.2).bind fun bt567 => ((laws_eqDyadic.f bt567.1 bt567.2.1 bt559.1 bt559.2.1).bind fun t571 => (if t571 = true then (if (bt567.2.2 != bt559.2.2) = true then (none) else (some true)) else (none))))))))
theorem laws_FnExactSubtractDyadic.mono : ∀ a0 a1 a2 a3 k, LeO (laws_FnExactSubtractDyadic.f k a0 a1 a2 a3) (laws_FnExactSubtractDyadic.f (k + 1) a0 a1 a2 a3) := by
  intro a0 a1 a2 a3 k
  unfold laws_FnExactSubtractDyadic.f
  repeat' first
      | (with_reducible exact impl_SubtractDyadic.mono _ _ _ _ _)
      | (with_reducible exact spec_SubtractDyadic.mono _ _ _ _ _)
      | (with_reducible exact LeO.refl _)
      | (with_reducible exact LeO.none _)
      | (with_reducible refine LeO.ite ?_ ?_)
      | (with_reducible refine LeO.bind ?_ (fun _ => ?_))
      | exact impl_SubtractDyadic.mono _ _ _ _ _
      | exact spec_SubtractDyadic.mono _ _ _ _ _
      | exact LeO.none _
      | refine LeO.ite ?_ ?_
      | refine LeO.bind ?_ (fun _ => ?_)

/-! spec_dyDigits -/
mutual
def spec_dyDigits.l0 : Nat → Int → Int → Int → Int → Int → Int → Int → Option (Int × Int × Bool)
  | 0, _, _, _, _, _, _, _ => none
  | k + 1, x0, x1, x2, x3, x4, x12, x13 => if x13 < x3 then (if (wrap64 (x1 * 2)) ≥ x2 then (spec_dyDigits.l0 k x0 (wrap64 ((wrap64 (x1 * 2)) - x2)) x2 x3 x4 (wrap64 ((wrap64 (x12 * 2)) + 1)) (wrap64 (x13 + 1))) else (spec_dyDigits.l0 k x0 (wrap64 (x1 * 2)) x2 x3 x4 (wrap64 (x12 * 2)) (wrap64 (x13 + 1)))) else (spec_dyDigits.l1 k x0 x3 x4 x12)
def spec_dyDigits.j2 : Nat → Int → Int → Int → Int → Option (Int × Int × Bool)
  | 0, _, _, _, _ => none
  | k + 1, x0, x3, x4, x12 => (spec_l1Abs.f x0).bind fun t573 => ((spec_dyPower.f (wrap64 (62 - x3))).bind fun t574 => (if t573 > t574 then (some (0, 0, false)) else ((spec_dyPower.f x3).bind fun t575 => ((spec_dyMake.f k (wrap64 ((wrap64 (x0 * t575)) + x12)) x4).bind fun bt576 => (some (bt576.1, bt576.2.1, bt576.2.2))))))
def spec_dyDigits.l1 : Nat → Int → Int → Int → Int → Option (Int × Int × Bool)
  | 0, _, _, _, _ => none
  | k + 1, x0, x3, x4, x12 => if x4 > 0 then (if x3 > 0 then (if (Int.tmod x12 2) = 0 then (spec_dyDigits.l1 k x0 (wrap64 (x3 - 1)) (wrap64 (x4 - 1)) (wrap64 (Int.tdiv x12 2))) else (spec_dyDigits.j2 k x0 x3 x4 x12)) else (spec_dyDigits.j2 k x0 x3 x4 x12)) else (spec_dyDigits.j2 k x0 x3 x4 x12)
end
def spec_dyDigits.f (k : Nat) (a0 : Int) (a1 : Int) (a2 : Int) (a3 : Int) (a4 : Int) : Option (Int × Int × Bool) := spec_dyDigits.l0 k a0 a1 a2 a3 a4 0 0
theorem spec_dyDigits.mono_l : ∀ k, (∀ y0 y1 y2 y3 y4 y5 y6, LeO (spec_dyDigits.l0 k y0 y1 y2 y3 y4 y5 y6) (spec_dyDigits.l0 (k + 1) y0 y1 y2 y3 y4 y5 y6)) ∧ (∀ y0 y1 y2 y3, LeO (spec_dyDigits.j2 k y0 y1 y2 y3) (spec_dyDigits.j2 (k + 1) y0 y1 y2 y3)) ∧ (∀ y0 y1 y2 y3, LeO (spec_dyDigits.l1 k y0 y1 y2 y3) (spec_dyDigits.l1 (k + 1) y0 y1 y2 y3))
  | 0 => ⟨fun _ _ _ _ _ _ _ r h => by simp [spec_dyDigits.l0] at h, fun _ _ _ _ r h => by simp [spec_dyDigits.j2] at h, fun _ _ _ _ r h => by simp [spec_dyDigits.l1] at h⟩
  | k + 1 => by
    obtain ⟨ih0, ih1, ih2⟩ := spec_dyDigits.mono_l k
    refine ⟨?_, ?_, ?_⟩
    · intro y0 y1 y2 y3 y4 y5 y6
      unfold spec_dyDigits.l0
      repeat' first
      | (with_reducible exact ih0 _ _ _ _ _ _ _)
      | (with_reducible exact ih1 _ _ _ _)
      | (with_reducible exact ih2 _ _ _ _)
      | (with_reducible exact spec_dyMake.mono _ _ _)
      | (with_reducible exact LeO.refl _)
      | (with_reducible exact LeO.none _)
      | (with_reducible refine LeO.ite ?_ ?_)
      | (with_reducible refine LeO.bind ?_ (fun _ => ?_))
      | exact ih0 _ _ _ _ _ _ _
      | exact ih1 _ _ _ _
      | exact ih2 _ _ _ _
      | exact spec_dyMake.mono _ _ _
      | exact LeO.none _
      | refine LeO.ite ?_ ?_
      | refine LeO.bind ?_ (fun _ => ?_)
    · intro y0 y1 y2 y3
      unfold spec_dyDigits.j2
      repeat' first
      | (with_reducible exact ih0 _ _ _ _ _ _ _)
      | (with_reducible exact ih1 _ _ _ _)
      | (with_reducible exact ih2 _ _ _ _)
      | (with_reducible exact spec_dyMake.mono _ _ _)
      | (with_reducible exact LeO.refl _)
      | (with_reducible exact LeO.none _)
      | (with_reducible refine LeO.ite ?_ ?_)
      | (with_reducible refine LeO.bind ?_ (fun _ => ?_))
      | exact ih0 _ _ _ _ _ _ _
      | exact ih1 _ _ _ _
      | exact ih2 _ _ _ _
      | exact spec_dyMake.mono _ _ _
      | exact LeO.none _
      | refine LeO.ite ?_ ?_
      | refine LeO.bind ?_ (fun _ => ?_)
    · intro y0 y1 y2 y3
      unfold spec_dyDigits.l1
      repeat' first
      | (with_reducible exact ih0 _ _ _ _ _ _ _)
      | (with_reducible exact ih1 _ _ _ _)
      | (with_reducible exact ih2 _ _ _ _)
      | (with_reducible exact spec_dyMake.mono _ _ _)
      | (with_reducible exact LeO.refl _)
      | (with_reducible exact LeO.none _)
      | (with_reducible refine LeO.ite ?_ ?_)
      | (with_reducible refine LeO.bind ?_ (fun _ => ?_))
      | exact ih0 _ _ _ _ _ _ _
      | exact ih1 _ _ _ _
      | exact ih2 _ _ _ _
      | exact spec_dyMake.mono _ _ _
      | exact LeO.none _
      | refine LeO.ite ?_ ?_
      | refine LeO.bind ?_ (fun _ => ?_)
theorem spec_dyDigits.mono : ∀ a0 a1 a2 a3 a4 k, LeO (spec_dyDigits.f k a0 a1 a2 a3 a4) (spec_dyDigits.f (k + 1) a0 a1 a2 a3 a4) := by
  intro a0 a1 a2 a3 a4 k
  obtain ⟨ih0, ih1, ih2⟩ := spec_dyDigits.mono_l k
  unfold spec_dyDigits.f
  repeat' first
      | (with_reducible exact ih0 _ _ _ _ _ _ _)
      | (with_reducible exact ih1 _ _ _ _)
      | (with_reducible exact ih2 _ _ _ _)
      | (with_reducible exact spec_dyMake.mono _ _ _)
      | (with_reducible exact LeO.refl _)
      | (with_reducible exact LeO.none _)
      | (with_reducible refine LeO.ite ?_ ?_)
      | (with_reducible refine LeO.bind ?_ (fun _ => ?_))
      | exact ih0 _ _ _ _ _ _ _
      | exact ih1 _ _ _ _
      | exact ih2 _ _ _ _
      | exact spec_dyMake.mono _ _ _
      | exact LeO.none _
      | refine LeO.ite ?_ ?_
      | refine LeO.bind ?_ (fun _ => ?_)

/-! spec_dyDivide -/
def spec_dyDivide.j0 : Nat → Int → Int → Int → Int → Int → Option (Int × Int × Bool)
  | 0, _, _, _, _, _ => none
  | k + 1, x2, x580000, x580001, x581000, x581001 => (spec_dyDown.f x580000 x581000).bind fun t586 => (if (wrap64 ((wrap64 (x581001 + x2)) - x580001)) < 0 then ((spec_dyPower.f (wrap64 (-(wrap64 ((wrap64 (x581001 + x2)) - x580001))))).bind fun t587 => ((spec_dyDown.f t586 t587).bind fun t588 => ((spec_dyMake.f k t588 x2).bind fun bt589 => (some (bt589.1, bt589.2.1, bt589.2.2))))) else ((spec_dyDigits.f k t586 (wrap64 (x580000 - (wrap64 (t586 * x581000)))) x581000 (wrap64 ((wrap64 (x581001 + x2)) - x580001)) x2).bind fun bt592 => (some (bt592.1, bt592.2.1, bt592.2.2))))
def spec_dyDivide.f (k : Nat) (a0_0 : Int) (a0_1 : Int) (a1_0 : Int) (a1_1 : Int) (a2 : Int) : Option (Int × Int × Bool) := if a1_0 = 0 then (some (0, 0, false)) else (if a1_0 < 0 then ((spec_dyMinus.f a0_0 a0_1).bind fun bt582 => ((spec_dyMinus.f a1_0 a1_1).bind fun bt584 => (spec_dyDivide.j0 k a2 bt582.1 bt582.2 bt584.1 bt584.2))) else (spec_dyDivide.j0 k a2 a0_0 a0_1 a1_0 a1_1))
theorem spec_dyDivide.mono_l : ∀ k, (∀ y0 y1 y2 y3 y4, LeO (spec_dyDivide.j0 k y0 y1 y2 y3 y4) (spec_dyDivide.j0 (k + 1) y0 y1 y2 y3 y4))
  | 0 => fun _ _ _ _ _ r h => by simp [spec_dyDivide.j0] at h
  | k + 1 => by
    have ih0 := spec_dyDivide.mono_l k
    · intro y0 y1 y2 y3 y4
      unfold spec_dyDivide.j0
      repeat' first
      | (with_reducible exact ih0 _ _ _ _ _)
      | (with_reducible exact spec_dyDigits.mono _ _ _ _ _ _)
      | (with_reducible exact spec_dyMake.mono _ _ _)
      | (with_reducible exact LeO.refl _)
      | (with_reducible exact LeO.none _)
      | (with_reducible refine LeO.ite ?_ ?_)
      | (with_reducible refine LeO.bind ?_ (fun _ => ?_))
      | exact ih0 _ _ _ _ _
      | exact spec_dyDigits.mono _ _ _ _ _ _
      | exact spec_dyMake.mono _ _ _
      | exact LeO.none _
      | refine LeO.ite ?_ ?_
      | refine LeO.bind ?_ (fun _ => ?_)
theorem spec_dyDivide.mono : ∀ a0 a1 a2 a3 a4 k, LeO (spec_dyDivide.f k a0 a1 a2 a3 a4) (spec_dyDivide.f (k + 1) a0 a1 a2 a3 a4) := by
  intro a0 a1 a2 a3 a4 k
  have ih0 := spec_dyDivide.mono_l k
  unfold spec_dyDivide.f
  repeat' first
      | (with_reducible exact ih0 _ _ _ _ _)
      | (with_reducible exact spec_dyDigits.mono _ _ _ _ _ _)
      | (with_reducible exact spec_dyMake.mono _ _ _)
      | (with_reducible exact LeO.refl _)
      | (with_reducible exact LeO.none _)
      | (with_reducible refine LeO.ite ?_ ?_)
      | (with_reducible refine LeO.bind ?_ (fun _ => ?_))
      | exact ih0 _ _ _ _ _
      | exact spec_dyDigits.mono _ _ _ _ _ _
      | exact spec_dyMake.mono _ _ _
      | exact LeO.none _
      | refine LeO.ite ?_ ?_
      | refine LeO.bind ?_ (fun _ => ?_)

/-! spec_DivideDown -/
def spec_DivideDown.f (k : Nat) (a0_0 : Int) (a0_1 : Int) (a1_0 : Int) (a1_1 : Int) (a2 : Int) : Option (Int × Int × Bool) := (spec_dyTwo.f a0_0 a0_1 a1_0 a1_1).bind fun t598 => (if t598 = true then ((spec_l1In.f a2 0 24).bind fun t599 => (if t599 = true then ((spec_dyDivide.f k a0_0 a0_1 a1_0 a1_1 a2).bind fun bt600 => (some (bt600.1, bt600.2.1, bt600.2.2))) else (some (0, 0, false)))) else (some (0, 0, false)))
theorem spec_DivideDown.mono : ∀ a0 a1 a2 a3 a4 k, LeO (spec_DivideDown.f k a0 a1 a2 a3 a4) (spec_DivideDown.f (k + 1) a0 a1 a2 a3 a4) := by
  intro a0 a1 a2 a3 a4 k
  unfold spec_DivideDown.f
  repeat' first
      | (with_reducible exact spec_dyDivide.mono _ _ _ _ _ _)
      | (with_reducible exact LeO.refl _)
      | (with_reducible exact LeO.none _)
      | (with_reducible refine LeO.ite ?_ ?_)
      | (with_reducible refine LeO.bind ?_ (fun _ => ?_))
      | exact spec_dyDivide.mono _ _ _ _ _ _
      | exact LeO.none _
      | refine LeO.ite ?_ ?_
      | refine LeO.bind ?_ (fun _ => ?_)

/-! bits_Len64 -/
def bits_Len64.j0 : Nat → Int → Int → Option (Int)
  | 0, _, _ => none
  | k + 1, x0, x2 => if x0 ≥ 65536 then (if (x0 / 65536) ≥ 256 then (if 0 ≤ (((x0 / 65536) / 256) % 256) then (if (((x0 / 65536) / 256) % 256) < 256 then (some (wrap64 ((wrap64 ((wrap64 (x2 + 16)) + 8)) + (wrap64 (bt (⟨#[0, 1, 2, 2, 3, 3, 3, 3, 4, 4, 4, 4, 4, 4, 4, 4, 5, 5, 5, 5, 5, 5, 5, 5, 5, 5, 5, 5, 5, 5, 5, 5, 6, 6, 6, 6, 6, 6, 6, 6, 6, 6, 6, 6, 6, 6, 6, 6, 6, 6, 6, 6, 6, 6, 6, 6, 6, 6, 6, 6, 6, 6, 6, 6, 7, 7, 7, 7, 7, 7, 7, 7, 7, 7, 7, 7, 7, 7, 7, 7, 7, 7, 7, 7, 7, 7, 7, 7, 7, 7, 7, 7, 7, 7, 7, 7, 7, 7, 7, 7, 7, 7, 7, 7, 7, 7, 7, 7, 7, 7, 7, 7, 7, 7, 7, 7, 7, 7, 7, 7, 7, 7, 7, 7, 7, 7, 7, 7, 8, 8, 8, 8, 8, 8, 8, 8, 8, 8, 8, 8, 8, 8, 8, 8, 8, 8, 8, 8, 8, 8, 8, 8, 8, 8, 8, 8, 8, 8, 8, 8, 8, 8, 8, 8, 8, 8, 8, 8, 8, 8, 8, 8, 8, 8, 8, 8, 8, 8, 8, 8, 8, 8, 8, 8, 8, 8, 8, 8, 8, 8, 8, 8, 8, 8, 8, 8, 8, 8, 8, 8, 8, 8, 8, 8, 8, 8, 8, 8, 8, 8, 8, 8, 8, 8, 8, 8, 8, 8, 8, 8, 8, 8, 8, 8, 8, 8, 8, 8, 8, 8, 8, 8, 8, 8, 8, 8, 8, 8, 8, 8, 8, 8, 8, 8, 8, 8, 8, 8, 8, 8, 8, 8, 8, 8, 8, 8]⟩ : ByteArray) (((x0 / 65536) / 256) % 256)))))) else (none)) else (none)) else (if 0 ≤ ((x0 / 65536) % 256) then (if ((x0 / 65536) % 256) < 256 then (some (wrap64 ((wrap64 (x2 + 16)) + (wrap64 (bt (⟨#[0, 1, 2, 2, 3, 3, 3, 3, 4, 4, 4, 4, 4, 4, 4, 4, 5, 5, 5, 5, 5, 5, 5, 5, 5, 5, 5, 5, 5, 5, 5, 5, 6, 6, 6, 6, 6, 6, 6, 6, 6, 6, 6, 6, 6, 6, 6, 6, 6, 6, 6, 6, 6, 6, 6, 6, 6, 6, 6, 6, 6, 6, 6, 6, 7, 7, 7, 7, 7, 7, 7, 7, 7, 7, 7, 7, 7, 7, 7, 7, 7, 7, 7, 7, 7, 7, 7, 7, 7, 7, 7, 7, 7, 7, 7, 7, 7, 7, 7, 7, 7, 7, 7, 7, 7, 7, 7, 7, 7, 7, 7, 7, 7, 7, 7, 7, 7, 7, 7, 7, 7, 7, 7, 7, 7, 7, 7, 7, 8, 8, 8, 8, 8, 8, 8, 8, 8, 8, 8, 8, 8, 8, 8, 8, 8, 8, 8, 8, 8, 8, 8, 8, 8, 8, 8, 8, 8, 8, 8, 8, 8, 8, 8, 8, 8, 8, 8, 8, 8, 8, 8, 8, 8, 8, 8, 8, 8, 8, 8, 8, 8, 8, 8, 8, 8, 8, 8, 8, 8, 8, 8, 8, 8, 8, 8, 8, 8, 8, 8, 8, 8, 8, 8, 8, 8, 8, 8, 8, 8, 8, 8, 8, 8, 8, 8, 8, 8, 8, 8, 8, 8, 8, 8, 8, 8, 8, 8, 8, 8, 8, 8, 8, 8, 8, 8, 8, 8, 8, 8, 8, 8, 8, 8, 8, 8, 8, 8, 8, 8, 8, 8, 8, 8, 8, 8, 8]⟩ : ByteArray) ((x0 / 65536) % 256)))))) else (none)) else (none))) else (if x0 ≥ 256 then (if 0 ≤ ((x0 / 256) % 256) then (if ((x0 / 256) % 256) < 256 then (some (wrap64 ((wrap64 (x2 + 8)) + (wrap64 (bt (⟨#[0, 1, 2, 2, 3, 3, 3, 3, 4, 4, 4, 4, 4, 4, 4, 4, 5, 5, 5, 5, 5, 5, 5, 5, 5, 5, 5, 5, 5, 5, 5, 5, 6, 6, 6, 6, 6, 6, 6, 6, 6, 6, 6, 6, 6, 6, 6, 6, 6, 6, 6, 6, 6, 6, 6, 6, 6, 6, 6, 6, 6, 6, 6, 6, 7, 7, 7, 7, 7, 7, 7, 7, 7, 7, 7, 7, 7, 7, 7, 7, 7, 7, 7, 7, 7, 7, 7, 7, 7, 7, 7, 7, 7, 7, 7, 7, 7, 7, 7, 7, 7, 7, 7, 7, 7, 7, 7, 7, 7, 7, 7, 7, 7, 7, 7, 7, 7, 7, 7, 7, 7, 7, 7, 7, 7, 7, 7, 7, 8, 8, 8, 8, 8, 8, 8, 8, 8, 8, 8, 8, 8, 8, 8, 8, 8, 8, 8, 8, 8, 8, 8, 8, 8, 8, 8, 8, 8, 8, 8, 8, 8, 8, 8, 8, 8, 8, 8, 8, 8, 8, 8, 8, 8, 8, 8, 8, 8, 8, 8, 8, 8, 8, 8, 8, 8, 8, 8, 8, 8, 8, 8, 8, 8, 8, 8, 8, 8, 8, 8, 8, 8, 8, 8, 8, 8, 8, 8, 8, 8, 8, 8, 8, 8, 8, 8, 8, 8, 8, 8, 8, 8, 8, 8, 8, 8, 8, 8, 8, 8, 8, 8, 8, 8, 8, 8, 8, 8, 8, 8, 8, 8, 8, 8, 8, 8, 8, 8, 8, 8, 8, 8, 8, 8, 8, 8, 8]⟩ : ByteArray) ((x0 / 256) % 256)))))) else (none)) else (none)) else (if 0 ≤ ((x0) % 256) then (if ((x0) % 256) < 256 then (some (wrap64 (x2 + (wrap64 (bt (⟨#[0, 1, 2, 2, 3, 3, 3, 3, 4, 4, 4, 4, 4, 4, 4, 4, 5, 5, 5, 5, 5, 5, 5, 5, 5, 5, 5, 5, 5, 5, 5, 5, 6, 6, 6, 6, 6, 6, 6, 6, 6, 6, 6, 6, 6, 6, 6, 6, 6, 6, 6, 6, 6, 6, 6, 6, 6, 6, 6, 6, 6, 6, 6, 6, 7, 7, 7, 7, 7, 7, 7, 7, 7, 7, 7, 7, 7, 7, 7, 7, 7, 7, 7, 7, 7, 7, 7, 7, 7, 7, 7, 7, 7, 7, 7, 7, 7, 7, 7, 7, 7, 7, 7, 7, 7, 7, 7, 7, 7, 7, 7, 7, 7, 7, 7, 7, 7, 7, 7, 7, 7, 7, 7, 7, 7, 7, 7, 7, 8, 8, 8, 8, 8, 8, 8, 8, 8, 8, 8, 8, 8, 8, 8, 8, 8, 8, 8, 8, 8, 8, 8, 8, 8, 8, 8, 8, 8, 8, 8, 8, 8, 8, 8, 8, 8, 8, 8, 8, 8, 8, 8, 8, 8, 8, 8, 8, 8, 8, 8, 8, 8, 8, 8, 8, 8, 8, 8, 8, 8, 8, 8, 8, 8, 8, 8, 8, 8, 8, 8, 8, 8, 8, 8, 8, 8, 8, 8, 8, 8, 8, 8, 8, 8, 8, 8, 8, 8, 8, 8, 8, 8, 8, 8, 8, 8, 8, 8, 8, 8, 8, 8, 8, 8, 8, 8, 8, 8, 8, 8, 8, 8, 8, 8, 8, 8, 8, 8, 8, 8, 8, 8, 8, 8, 8, 8, 8]⟩ : ByteArray) ((x0) % 256)))))) else (none)) else (none)))
def bits_Len64.f (k : Nat) (a0 : Int) : Option (Int) := if a0 ≥ 4294967296 then (bits_Len64.j0 k (a0 / 4294967296) 32) else (bits_Len64.j0 k a0 0)
theorem bits_Len64.mono_l : ∀ k, (∀ y0 y1, LeO (bits_Len64.j0 k y0 y1) (bits_Len64.j0 (k + 1) y0 y1))
  | 0 => fun _ _ r h => by simp [bits_Len64.j0] at h
  | k + 1 => by
    have ih0 := bits_Len64.mono_l k
    · intro y0 y1
      unfold bits_Len64.j0
      repeat' first
      | (with_reducible exact ih0 _ _)
      | (with_reducible exact LeO.refl _)
      | (with_reducible exact LeO.none _)
      | (with_reducible refine LeO.ite ?_ ?_)
      | (with_reducible refine LeO.bind ?_ (fun _ => ?_))
      | exact ih0 _ _
      | exact LeO.none _
      | refine LeO.ite ?_ ?_
      | refine LeO.bind ?_ (fun _ => ?_)
theorem bits_Len64.mono : ∀ a0 k, LeO (bits_Len64.f k a0) (bits_Len64.f (k + 1) a0) := by
  intro a0 k
  have ih0 := bits_Len64.mono_l k
  unfold bits_Len64.f
  repeat' first
      | (with_reducible exact ih0 _ _)
      | (with_reducible exact LeO.refl _)
      | (with_reducible exact LeO.none _)
      | (with_reducible refine LeO.ite ?_ ?_)
      | (with_reducible refine LeO.bind ?_ (fun _ => ?_))
      | exact ih0 _ _
      | exact LeO.none _
      | refine LeO.ite ?_ ?_
      | refine LeO.bind ?_ (fun _ => ?_)

/-! bits_LeadingZeros64 -/
def bits_LeadingZeros64.f (k : Nat) (a0 : Int) : Option (Int) := (bits_Len64.f k a0).bind fun t603 => (some (wrap64 (64 - t603)))
theorem bits_LeadingZeros64.mono : ∀ a0 k, LeO (bits_LeadingZeros64.f k a0) (bits_LeadingZeros64.f (k + 1) a0) := by
  intro a0 k
  unfold bits_LeadingZeros64.f
  repeat' first
      | (with_reducible exact bits_Len64.mono _ _)
      | (with_reducible exact LeO.refl _)
      | (with_reducible exact LeO.none _)
      | (with_reducible refine LeO.ite ?_ ?_)
      | (with_reducible refine LeO.bind ?_ (fun _ => ?_))
      | exact bits_Len64.mono _ _
      | exact LeO.none _
      | refine LeO.ite ?_ ?_
      | refine LeO.bind ?_ (fun _ => ?_)

/-! bits_Div64 -/
mutual
def bits_Div64.j2 : Nat → Int → Int → Int → Int → Int → Int → Int → Int → Option (Int × Int)
  | 0, _, _, _, _, _, _, _, _ => none
  | k + 1, x2, x8, x9, x10, x11, x13, x14, x15 => if x9 = 0 then (none) else (bits_Div64.l1 k x2 x8 x9 x10 x14 x15 (IntKind.u64.wrap ((IntKind.u64.wrap ((IntKind.u64.wrap ((IntKind.u64.wrap (x11 * 4294967296)) + x13)) - (IntKind.u64.wrap (x15 * x2)))) - (IntKind.u64.wrap ((IntKind.u64.wrap (Int.tdiv (IntKind.u64.wrap ((IntKind.u64.wrap ((IntKind.u64.wrap (x11 * 4294967296)) + x13)) - (IntKind.u64.wrap (x15 * x2)))) x9)) * x9)))) (IntKind.u64.wrap ((IntKind.u64.wrap ((IntKind.u64.wrap (x11 * 4294967296)) + x13)) - (IntKind.u64.wrap (x15 * x2)))) (IntKind.u64.wrap (Int.tdiv (IntKind.u64.wrap ((IntKind.u64.wrap ((IntKind.u64.wrap (x11 * 4294967296)) + x13)) - (IntKind.u64.wrap (x15 * x2)))) x9)))
def bits_Div64.l1 : Nat → Int → Int → Int → Int → Int → Int → Int → Int → Int → Option (Int × Int)
  | 0, _, _, _, _, _, _, _, _, _ => none
  | k + 1, x2, x8, x9, x10, x14, x15, x16, x17, x18 => if x18 ≥ 4294967296 then (bits_Div64.j4 k x2 x8 x9 x10 x14 x15 x16 x17 x18 true) else (bits_Div64.j4 k x2 x8 x9 x10 x14 x15 x16 x17 x18 (decide ((IntKind.u64.wrap (x18 * x10)) > (IntKind.u64.wrap ((IntKind.u64.wrap (4294967296 * x16)) + x14)))))
def bits_Div64.j4 : Nat → Int → Int → Int → Int → Int → Int → Int → Int → Int → Bool → Option (Int × Int)
  | 0, _, _, _, _, _, _, _, _, _, _ => none
  | k + 1, x2, x8, x9, x10, x14, x15, x16, x17, x18, x113 => if x113 = true then (if (IntKind.u64.wrap (x16 + x9)) ≥ 4294967296 then (if 0 ≤ x8 then (some (IntKind.u64.wrap ((IntKind.u64.wrap (x15 * 4294967296)) + (IntKind.u64.wrap (x18 - 1))), shr .u64 (IntKind.u64.wrap ((IntKind.u64.wrap ((IntKind.u64.wrap (x17 * 4294967296)) + x14)) - (IntKind.u64.wrap ((IntKind.u64.wrap (x18 - 1)) * x2)))) x8)) else (none)) else (bits_Div64.l1 k x2 x8 x9 x10 x14 x15 (IntKind.u64.wrap (x16 + x9)) x17 (IntKind.u64.wrap (x18 - 1)))) else (if 0 ≤ x8 then (some (IntKind.u64.wrap ((IntKind.u64.wrap (x15 * 4294967296)) + x18), shr .u64 (IntKind.u64.wrap ((IntKind.u64.wrap ((IntKind.u64.wrap (x17 * 4294967296)) + x14)) - (IntKind.u64.wrap (x18 * x2)))) x8)) else (none))
def bits_Div64.l0 : Nat → Int → Int → Int → Int → Int → Int → Int → Int → Int → Option (Int × Int)
  | 0, _, _, _, _, _, _, _, _, _ => none
  | k + 1, x2, x8, x9, x10, x11, x13, x14, x15, x16 => if x15 ≥ 4294967296 then (bits_Div64.j1 k x2 x8 x9 x10 x11 x13 x14 x15 x16 true) else (bits_Div64.j1 k x2 x8 x9 x10 x11 x13 x14 x15 x16 (decide ((IntKind.u64.wrap (x15 * x10)) > (IntKind.u64.wrap ((IntKind.u64.wrap (4294967296 * x16)) + x13)))))
def bits_Div64.j1 : Nat → Int → Int → Int → Int → Int → Int → Int → Int → Int → Bool → Option (Int × Int)
  | 0, _, _, _, _, _, _, _, _, _, _ => none
  | k + 1, x2, x8, x9, x10, x11, x13, x14, x15, x16, x78 => if x78 = true then (if (IntKind.u64.wrap (x16 + x9)) ≥ 4294967296 then (bits_Div64.j2 k x2 x8 x9 x10 x11 x13 x14 (IntKind.u64.wrap (x15 - 1))) else (bits_Div64.l0 k x2 x8 x9 x10 x11 x13 x14 (IntKind.u64.wrap (x15 - 1)) (IntKind.u64.wrap (x16 + x9)))) else (bits_Div64.j2 k x2 x8 x9 x10 x11 x13 x14 x15)
end
def bits_Div64.f (k : Nat) (a0 : Int) (a1 : Int) (a2 : Int) : Option (Int × Int) := if a2 = 0 then (none) else (if a2 ≤ a0 then (none) else (if a0 = 0 then (some (IntKind.u64.wrap (Int.tdiv a1 a2), Int.tmod a1 a2)) else ((bits_LeadingZeros64.f k a2).bind fun t604 => (if 0 ≤ (IntKind.u64.wrap (t604)) then (if 0 ≤ (IntKind.u64.wrap (64 - (IntKind.u64.wrap (t604)))) then (if ((shl .u64 a2 (IntKind.u64.wrap (t604))) / 4294967296) = 0 then (none) else (bits_Div64.l0 k (shl .u64 a2 (IntKind.u64.wrap (t604))) (IntKind.u64.wrap (t604)) ((shl .u64 a2 (IntKind.u64.wrap (t604))) / 4294967296) (Go.bits .and .u64 (shl .u64 a2 (IntKind.u64.wrap (t604))) 4294967295) (Go.bits .or .u64 (shl .u64 a0 (IntKind.u64.wrap (t604))) (shr .u64 a1 (IntKind.u64.wrap (64 - (IntKind.u64.wrap (t604)))))) ((shl .u64 a1 (IntKind.u64.wrap (t604))) / 4294967296) (Go.bits .and .u64 (shl .u64 a1 (IntKind.u64.wrap (t604))) 4294967295) (IntKind.u64.wrap (Int.tdiv (Go.bits .or .u64 (shl .u64 a0 (IntKind.u64.wrap (t604))) (shr .u64 a1 (IntKind.u64.wrap (64 - (IntKind.u64.wrap (t604)))))) ((shl .u64 a2 (IntKind.u64.wrap (t604))) / 4294967296))) (IntKind.u64.wrap ((Go.bits .or .u64 (shl .u64 a0 (IntKind.u64.wrap (t604))) (shr .u64 a1 (IntKind.u64.wrap (64 - (IntKind.u64.wrap (t604)))))) - (IntKind.u64.wrap ((IntKind.u64.wrap (Int.tdiv (Go.bits .or .u64 (shl .u64 a0 (IntKind.u64.wrap (t604))) (shr .u64 a1 (IntKind.u64.wrap (64 - (IntKind.u64.wrap (t604)))))) ((shl .u64 a2 (IntKind.u64.wrap (t604))) / 4294967296))) * ((shl .u64 a2 (IntKind.u64.wrap (t604))) / 4294967296))))))) else (none)) else (none)))))
theorem bits_Div64.mono_l : ∀ k, (∀ y0 y1 y2 y3 y4 y5 y6 y7, LeO (bits_Div64.j2 k y0 y1 y2 y3 y4 y5 y6 y7) (bits_Div64.j2 (k + 1) y0 y1 y2 y3 y4 y5 y6 y7)) ∧ (∀ y0 y1 y2 y3 y4 y5 y6 y7 y8, LeO (bits_Div64.l1 k y0 y1 y2 y3 y4 y5 y6 y7 y8) (bits_Div64.l1 (k + 1) y0 y1 y2 y3 y4 y5 y6 y7 y8)) ∧ (∀ y0 y1 y2 y3 y4 y5 y6 y7 y8 y9, LeO (bits_Div64.j4 k y0 y1 y2 y3 y4 y5 y6 y7 y8 y9) (bits_Div64.j4 (k + 1) y0 y1 y2 y3 y4 y5 y6 y7 y8 y9)) ∧ (∀ y0 y1 y2 y3 y4 y5 y6 y7 y8, LeO (bits_Div64.l0 k y0 y1 y2 y3 y4 y5 y6 y7 y8) (bits_Div64.l0 (k + 1) y0 y1 y2 y3 y4 y5 y6 y7 y8)) ∧ (∀ y0 y1 y2 y3 y4 y5 y6 y7 y8 y9, LeO (bits_Div64.j1 k y0 y1 y2 y3 y4 y5 y6 y7 y8 y9) (bits_Div64.j1 (k + 1) y0 y1 y2 y3 y4 y5 y6 y7 y8 y9))
  | 0 => ⟨fun _ _ _ _ _ _ _ _ r h => by simp [bits_Div64.j2] at h, fun _ _ _ _ _ _ _ _ _ r h => by simp [bits_Div64.l1] at h, fun _ _ _ _ _ _ _ _ _ _ r h => by simp [bits_Div64.j4] at h, fun _ _ _ _ _ _ _ _ _ r h => by simp [bits_Div64.l0] at h, fun _ _ _ _ _ _ _ _ _ _ r h => by simp [bits_Div64.j1] at h⟩
  | k + 1 => by
    obtain ⟨ih0, ih1, ih2, ih3, ih4⟩ := bits_Div64.mono_l k
    refine ⟨?_, ?_, ?_, ?_, ?_⟩
    · intro y0 y1 y2 y3 y4 y5 y6 y7
      unfold bits_Div64.j2
      repeat' first
      | (with_reducible exact ih0 _ _ _ _ _ _ _ _)
      | (with_reducible exact ih1 _ _ _ _ _ _ _ _ _)
      | (with_reducible exact ih2 _ _ _ _ _ _ _ _ _ _)
      | (with_reducible exact ih3 _ _ _ _ _ _ _ _ _)
      | (with_reducible exact ih4 _ _ _ _ _ _ _ _ _ _)
      | (with_reducible exact bits_LeadingZeros64.mono _ _)
      | (with_reducible exact LeO.refl _)
      | (with_reducible exact LeO.none _)
      | (with_reducible refine LeO.ite ?_ ?_)
      | (with_reducible refine LeO.bind ?_ (fun _ => ?_))
      | exact ih0 _ _ _ _ _ _ _ _
      | exact ih1 _ _ _ _ _ _ _ _ _
      | exact ih2 _ _ _ _ _ _ _ _ _ _
      | exact ih3 _ _ _ _ _ _ _ _ _
      | exact ih4 _ _ _ _ _ _ _ _ _ _
      | exact bits_LeadingZeros64.mono _ _
      | exact LeO.none _
      | refine LeO.ite ?_ ?_
      | refine LeO.bind ?_ (fun _ => ?_)
    · intro y0 y1 y2 y3 y4 y5 y6 y7 y8
      unfold bits_Div64.l1
      repeat' first
      | (with_reducible exact ih0 _ _ _ _ _ _ _ _)
      | (with_reducible exact ih1 _ _ _ _ _ _ _ _ _)
      | (with_reducible exact ih2 _ _ _ _ _ _ _ _ _ _)
      | (with_reducible exact ih3 _ _ _ _ _ _ _ _ _)
      | (with_reducible exact ih4 _ _ _ _ _ _ _ _ _ _)
      | (with_reducible exact bits_LeadingZeros64.mono _ _)
      | (with_reducible exact LeO.refl _)
      | (with_reducible exact LeO.none _)
      | (with_reducible refine LeO.ite ?_ ?_)
      | (with_reducible refine LeO.bind ?_ (fun _ => ?_))
      | exact ih0 _ _ _ _ _ _ _ _
      | exact ih1 _ _ _ _ _ _ _ _ _
      | exact ih2 _ _ _ _ _ _ _ _ _ _
      | exact ih3 _ _ _ _ _ _ _ _ _
      | exact ih4 _ _ _ _ _ _ _ _ _ _
      | exact bits_LeadingZeros64.mono _ _
      | exact LeO.none _
      | refine LeO.ite ?_ ?_
      | refine LeO.bind ?_ (fun _ => ?_)
    · intro y0 y1 y2 y3 y4 y5 y6 y7 y8 y9
      unfold bits_Div64.j4
      repeat' first
      | (with_reducible exact ih0 _ _ _ _ _ _ _ _)
      | (with_reducible exact ih1 _ _ _ _ _ _ _ _ _)
      | (with_reducible exact ih2 _ _ _ _ _ _ _ _ _ _)
      | (with_reducible exact ih3 _ _ _ _ _ _ _ _ _)
      | (with_reducible exact ih4 _ _ _ _ _ _ _ _ _ _)
      | (with_reducible exact bits_LeadingZeros64.mono _ _)
      | (with_reducible exact LeO.refl _)
      | (with_reducible exact LeO.none _)
      | (with_reducible refine LeO.ite ?_ ?_)
      | (with_reducible refine LeO.bind ?_ (fun _ => ?_))
      | exact ih0 _ _ _ _ _ _ _ _
      | exact ih1 _ _ _ _ _ _ _ _ _
      | exact ih2 _ _ _ _ _ _ _ _ _ _
      | exact ih3 _ _ _ _ _ _ _ _ _
      | exact ih4 _ _ _ _ _ _ _ _ _ _
      | exact bits_LeadingZeros64.mono _ _
      | exact LeO.none _
      | refine LeO.ite ?_ ?_
      | refine LeO.bind ?_ (fun _ => ?_)
    · intro y0 y1 y2 y3 y4 y5 y6 y7 y8
      unfold bits_Div64.l0
      repeat' first
      | (with_reducible exact ih0 _ _ _ _ _ _ _ _)
      | (with_reducible exact ih1 _ _ _ _ _ _ _ _ _)
      | (with_reducible exact ih2 _ _ _ _ _ _ _ _ _ _)
      | (with_reducible exact ih3 _ _ _ _ _ _ _ _ _)
      | (with_reducible exact ih4 _ _ _ _ _ _ _ _ _ _)
      | (with_reducible exact bits_LeadingZeros64.mono _ _)
      | (with_reducible exact LeO.refl _)
      | (with_reducible exact LeO.none _)
      | (with_reducible refine LeO.ite ?_ ?_)
      | (with_reducible refine LeO.bind ?_ (fun _ => ?_))
      | exact ih0 _ _ _ _ _ _ _ _
      | exact ih1 _ _ _ _ _ _ _ _ _
      | exact ih2 _ _ _ _ _ _ _ _ _ _
      | exact ih3 _ _ _ _ _ _ _ _ _
      | exact ih4 _ _ _ _ _ _ _ _ _ _
      | exact bits_LeadingZeros64.mono _ _
      | exact LeO.none _
      | refine LeO.ite ?_ ?_
      | refine LeO.bind ?_ (fun _ => ?_)
    · intro y0 y1 y2 y3 y4 y5 y6 y7 y8 y9
      unfold bits_Div64.j1
      repeat' first
      | (with_reducible exact ih0 _ _ _ _ _ _ _ _)
      | (with_reducible exact ih1 _ _ _ _ _ _ _ _ _)
      | (with_reducible exact ih2 _ _ _ _ _ _ _ _ _ _)
      | (with_reducible exact ih3 _ _ _ _ _ _ _ _ _)
      | (with_reducible exact ih4 _ _ _ _ _ _ _ _ _ _)
      | (with_reducible exact bits_LeadingZeros64.mono _ _)
      | (with_reducible exact LeO.refl _)
      | (with_reducible exact LeO.none _)
      | (with_reducible refine LeO.ite ?_ ?_)
      | (with_reducible refine LeO.bind ?_ (fun _ => ?_))
      | exact ih0 _ _ _ _ _ _ _ _
      | exact ih1 _ _ _ _ _ _ _ _ _
      | exact ih2 _ _ _ _ _ _ _ _ _ _
      | exact ih3 _ _ _ _ _ _ _ _ _
      | exact ih4 _ _ _ _ _ _ _ _ _ _
      | exact bits_LeadingZeros64.mono _ _
      | exact LeO.none _
      | refine LeO.ite ?_ ?_
      | refine LeO.bind ?_ (fun _ => ?_)
theorem bits_Div64.mono : ∀ a0 a1 a2 k, LeO (bits_Div64.f k a0 a1 a2) (bits_Div64.f (k + 1) a0 a1 a2) := by
  intro a0 a1 a2 k
  obtain ⟨ih0, ih1, ih2, ih3, ih4⟩ := bits_Div64.mono_l k
  unfold bits_Div64.f
  repeat' first
      | (with_reducible exact ih0 _ _ _ _ _ _ _ _)
      | (with_reducible exact ih1 _ _ _ _ _ _ _ _ _)
      | (with_reducible exact ih2 _ _ _ _ _ _ _ _ _ _)
      | (with_reducible exact ih3 _ _ _ _ _ _ _ _ _)
      | (with_reducible exact ih4 _ _ _ _ _ _ _ _ _ _)
      | (with_reducible exact bits_LeadingZeros64.mono _ _)
      | (with_reducible exact LeO.refl _)
      | (with_reducible exact LeO.none _)
      | (with_reducible refine LeO.ite ?_ ?_)
      | (with_reducible refine LeO.bind ?_ (fun _ => ?_))
      | exact ih0 _ _ _ _ _ _ _ _
      | exact ih1 _ _ _ _ _ _ _ _ _
      | exact ih2 _ _ _ _ _ _ _ _ _ _
      | exact ih3 _ _ _ _ _ _ _ _ _
      | exact ih4 _ _ _ _ _ _ _ _ _ _
      | exact bits_LeadingZeros64.mono _ _
      | exact LeO.none _
      | refine LeO.ite ?_ ?_
      | refine LeO.bind ?_ (fun _ => ?_)

/-! impl_quotientDown -/
mutual
def impl_quotientDown.j0 : Nat → Int → Bool → Bool → Int → Int → Bool → Int → Int → Option (Int × Int × Bool)
  | 0, _, _, _, _, _, _, _, _ => none
  | k + 1, x3, x17, x613000, x613001, x613002, x624000, x624001, x624002 => if x613000 = true then (impl_quotientDown.j1 k x3 (!x17) x624000 x624001 x624002) else (impl_quotientDown.j1 k x3 false x624000 x624001 x624002)
def impl_quotientDown.j1 : Nat → Int → Bool → Bool → Int → Int → Option (Int × Int × Bool)
  | 0, _, _, _, _, _ => none
  | k + 1, x3, x78, x624000, x624001, x624002 => if x78 = true then ((impl_wideOf.f (-1)).bind fun bt628 => ((impl_wide_add.f k x624000 x624001 x624002 bt628.1 bt628.2.1 bt628.2.2).bind fun bt631 => (impl_quotientDown.j2 k x3 true bt631.2.1 bt631.2.2))) else (impl_quotientDown.j2 k x3 x624000 x624001 x624002)
def impl_quotientDown.j2 : Nat → Int → Bool → Int → Int → Option (Int × Int × Bool)
  | 0, _, _, _, _ => none
  | k + 1, x3, x624000, x624001, x624002 => (impl_wide_fit.f k x624000 x624001 x624002 x3).bind fun bt634 => (some (bt634.1, bt634.2.1, bt634.2.2))
end
def impl_quotientDown.f (k : Nat) (a0 : Int) (a1 : Int) (a2 : Int) (a3 : Int) : Option (Int × Int × Bool) := (impl_wideOf.f a0).bind fun bt606 => ((impl_wide_shift.f bt606.1 bt606.2.1 bt606.2.2 (mx (wrap64 (a1 + a3)) 0)).bind fun bt609 => ((impl_size.f a2).bind fun t613 => ((bits_Div64.f k 0 bt609.2.1 t613).bind fun bt614 => ((impl_size.f a2).bind fun t616 => ((bits_Div64.f k bt614.2 bt609.2.2 t616).bind fun bt617 => ((impl_wide_shift.f (!(decide (a0 < 0)) == (decide (a2 < 0))) bt614.1 bt617.1 (mn (wrap64 (a1 + a3)) 0)).bind fun bt620 => (if bt617.2 = 0 then ((impl_wide_shift.f bt620.1 bt620.2.1 bt620.2.2 (mx (wrap64 ((wrap64 (-a1)) - a3)) 0)).bind fun bt624 => ((impl_compareSizes.f k bt624.1 bt624.2.1 bt624.2.2 (!(decide (a0 < 0)) == (decide (a2 < 0))) bt614.1 bt617.1).bind fun t627 => (impl_quotientDown.j0 k a3 (t627 == 0) (!(decide (a0 < 0)) == (decide (a2 < 0))) bt609.2.1 bt609.2.2 bt620.1 bt620.2.1 bt620.2.2))) else (impl_quotientDown.j0 k a3 false (!(decide (a0 < 0)) == (decide (a2 < 0))) bt609.2.1 bt609.2.2 bt620.1 bt620.2.1 bt620.2.2))))))))
theorem impl_quotientDown.mono_l : ∀ k, (∀ y0 y1 y2 y3 y4 y5 y6 y7, LeO (impl_quotientDown.j0 k y0 y1 y2 y3 y4 y5 y6 y7) (impl_quotientDown.j0 (k + 1) y0 y1 y2 y3 y4 y5 y6 y7)) ∧ (∀ y0 y1 y2 y3 y4, LeO (impl_quotientDown.j1 k y0 y1 y2 y3 y4) (impl_quotientDown.j1 (k + 1) y0 y1 y2 y3 y4)) ∧ (∀ y0 y1 y2 y3, LeO (impl_quotientDown.j2 k y0 y1 y2 y3) (impl_quotientDown.j2 (k + 1) y0 y1 y2 y3))
  | 0 => ⟨fun _ _ _ _ _ _ _ _ r h => by simp [impl_quotientDown.j0] at h, fun _ _ _ _ _ r h => by simp [impl_quotientDown.j1] at h, fun _ _ _ _ r h => by simp [impl_quotientDown.j2] at h⟩
  | k + 1 => by
    obtain ⟨ih0, ih1, ih2⟩ := impl_quotientDown.mono_l k
    refine ⟨?_, ?_, ?_⟩
    · intro y0 y1 y2 y3 y4 y5 y6 y7
      unfold impl_quotientDown.j0
      repeat' first
      | (with_reducible exact ih0 _ _ _ _ _ _ _ _)
      | (with_reducible exact ih1 _ _ _ _ _)
      | (with_reducible exact ih2 _ _ _ _)
      | (with_reducible exact bits_Div64.mono _ _ _ _)
      | (with_reducible exact impl_compareSizes.mono _ _ _ _ _ _ _)
      | (with_reducible exact impl_wide_add.mono _ _ _ _ _ _ _)
      | (with_reducible exact impl_wide_fit.mono _ _ _ _ _)
      | (with_reducible exact LeO.refl _)
      | (with_reducible exact LeO.none _)
      | (with_reducible refine LeO.ite ?_ ?_)
      | (with_reducible refine LeO.bind ?_ (fun _ => ?_))
      | exact ih0 _ _ _ _ _ _ _ _
      | exact ih1 _ _ _ _ _
      | exact ih2 _ _ _ _
      | exact bits_Div64.mono _ _ _ _
      | exact impl_compareSizes.mono _ _ _ _ _ _ _
      | exact impl_wide_add.mono _ _ _ _ _ _ _
      | exact impl_wide_fit.mono _ _ _ _ _
      | exact LeO.none _
      | refine LeO.ite ?_ ?_
      | refine LeO.bind ?_ (fun _ => ?_)
    · intro y0 y1 y2 y3 y4
      unfold impl_quotientDown.j1
      repeat' first
      | (with_reducible exact ih0 _ _ _ _ _ _ _ _)
      | (with_reducible exact ih1 _ _ _ _ _)
      | (with_reducible exact ih2 _ _ _ _)
      | (with_reducible exact bits_Div64.mono _ _ _ _)
      | (with_reducible exact impl_compareSizes.mono _ _ _ _ _ _ _)
      | (with_reducible exact impl_wide_add.mono _ _ _ _ _ _ _)
      | (with_reducible exact impl_wide_fit.mono _ _ _ _ _)
      | (with_reducible exact LeO.refl _)
      | (with_reducible exact LeO.none _)
      | (with_reducible refine LeO.ite ?_ ?_)
      | (with_reducible refine LeO.bind ?_ (fun _ => ?_))
      | exact ih0 _ _ _ _ _ _ _ _
      | exact ih1 _ _ _ _ _
      | exact ih2 _ _ _ _
      | exact bits_Div64.mono _ _ _ _
      | exact impl_compareSizes.mono _ _ _ _ _ _ _
      | exact impl_wide_add.mono _ _ _ _ _ _ _
      | exact impl_wide_fit.mono _ _ _ _ _
      | exact LeO.none _
      | refine LeO.ite ?_ ?_
      | refine LeO.bind ?_ (fun _ => ?_)
    · intro y0 y1 y2 y3
      unfold impl_quotientDown.j2
      repeat' first
      | (with_reducible exact ih0 _ _ _ _ _ _ _ _)
      | (with_reducible exact ih1 _ _ _ _ _)
      | (with_reducible exact ih2 _ _ _ _)
      | (with_reducible exact bits_Div64.mono _ _ _ _)
      | (with_reducible exact impl_compareSizes.mono _ _ _ _ _ _ _)
      | (with_reducible exact impl_wide_add.mono _ _ _ _ _ _ _)
      | (with_reducible exact impl_wide_fit.mono _ _ _ _ _)
      | (with_reducible exact LeO.refl _)
      | (with_reducible exact LeO.none _)
      | (with_reducible refine LeO.ite ?_ ?_)
      | (with_reducible refine LeO.bind ?_ (fun _ => ?_))
      | exact ih0 _ _ _ _ _ _ _ _
      | exact ih1 _ _ _ _ _
      | exact ih2 _ _ _ _
      | exact bits_Div64.mono _ _ _ _
      | exact impl_compareSizes.mono _ _ _ _ _ _ _
      | exact impl_wide_add.mono _ _ _ _ _ _ _
      | exact impl_wide_fit.mono _ _ _ _ _
      | exact LeO.none _
      | refine LeO.ite ?_ ?_
      | refine LeO.bind ?_ (fun _ => ?_)
theorem impl_quotientDown.mono : ∀ a0 a1 a2 a3 k, LeO (impl_quotientDown.f k a0 a1 a2 a3) (impl_quotientDown.f (k + 1) a0 a1 a2 a3) := by
  intro a0 a1 a2 a3 k
  obtain ⟨ih0, ih1, ih2⟩ := impl_quotientDown.mono_l k
  unfold impl_quotientDown.f
  repeat' first
      | (with_reducible exact ih0 _ _ _ _ _ _ _ _)
      | (with_reducible exact ih1 _ _ _ _ _)
      | (with_reducible exact ih2 _ _ _ _)
      | (with_reducible exact bits_Div64.mono _ _ _ _)
      | (with_reducible exact impl_compareSizes.mono _ _ _ _ _ _ _)
      | (with_reducible exact impl_wide_add.mono _ _ _ _ _ _ _)
      | (with_reducible exact impl_wide_fit.mono _ _ _ _ _)
      | (with_reducible exact LeO.refl _)
      | (with_reducible exact LeO.none _)
      | (with_reducible refine LeO.ite ?_ ?_)
      | (with_reducible refine LeO.bind ?_ (fun _ => ?_))
      | exact ih0 _ _ _ _ _ _ _ _
      | exact ih1 _ _ _ _ _
      | exact ih2 _ _ _ _
      | exact bits_Div64.mono _ _ _ _
      | exact impl_compareSizes.mono _ _ _ _ _ _ _
      | exact impl_wide_add.mono _ _ _ _ _ _ _
      | exact impl_wide_fit.mono _ _ _ _ _
      | exact LeO.none _
      | refine LeO.ite ?_ ?_
      | refine LeO.bind ?_ (fun _ => ?_)

/-! impl_DivideDown -/
def impl_DivideDown.f (k : Nat) (a0_0 : Int) (a0_1 : Int) (a1_0 : Int) (a1_1 : Int) (a2 : Int) : Option (Int × Int × Bool) := (impl_isDyadic.f a0_0 a0_1).bind fun t640 => (if t640 = true then ((impl_isDyadic.f a1_0 a1_1).bind fun t641 => (if t641 = true then (if a1_0 = 0 then (some (0, 0, false)) else ((impl_isPlaces.f a2).bind fun t642 => (if t642 = true then ((impl_quotientDown.f k a0_0 (wrap64 (a1_1 - a0_1)) a1_0 a2).bind fun bt643 => (some (bt643.1, bt643.2.1, bt643.2.2))) else (some (0, 0, false))))) else (some (0, 0, false)))) else (some (0, 0, false)))
theorem impl_DivideDown.mono : ∀ a0 a1 a2 a3 a4 k, LeO (impl_DivideDown.f k a0 a1 a2 a3 a4) (impl_DivideDown.f (k + 1) a0 a1 a2 a3 a4) := by
  intro a0 a1 a2 a3 a4 k
  unfold impl_DivideDown.f
  repeat' first
      | (with_reducible exact impl_quotientDown.mono _ _ _ _ _)
      | (with_reducible exact LeO.refl _)
      | (with_reducible exact LeO.none _)
      | (with_reducible refine LeO.ite ?_ ?_)
      | (with_reducible refine LeO.bind ?_ (fun _ => ?_))
      | exact impl_quotientDown.mono _ _ _ _ _
      | exact LeO.none _
      | refine LeO.ite ?_ ?_
      | refine LeO.bind ?_ (fun _ => ?_)

/-! laws_FnExactDivideDown -/
def laws_FnExactDivideDown.f (k : Nat) (a0_0 : Int) (a0_1 : Int) (a1_0 : Int) (a1_1 : Int) (a2 : Int) : Option (Bool) := (laws_toDyadic.f a0_0 a0_1).bind fun bt648 => ((laws_toDyadic.f a1_0 a1_1).bind fun bt650 => ((spec_DivideDown.f k bt648.1 bt648.2 bt650.1 bt650.2 a2).bind fun bt652 => ((laws_toDyadic.f a0_0 a0_1).bind fun bt656 => ((laws_toDyadic.f a1_0 a1_1).bind fun bt658 => ((impl_DivideDown.f k bt656.1 bt656.2 bt658.1 bt658.2 a2).bind fun bt660 => ((laws_eqDyadic.f bt660.1 bt660.2.1 bt652.1 bt652.2.1).bind fun t664 => (if t664 = true then (if (bt660.2.2 != bt652.2.2) = true then (none) else (some true)) else (none))))))))
theorem laws_FnExactDivideDown.mono : ∀ a0 a1 a2 a3 a4 k, LeO (laws_FnExactDivideDown.f k a0 a1 a2 a3 a4) (laws_FnExactDivideDown.f (k + 1) a0 a1 a2 a3 a4) := by
  intro a0 a1 a2 a3 a4 k
  unfold laws_FnExactDivideDown.f
  repeat' first
      | (with_reducible exact impl_DivideDown.mono _ _ _ _ _ _)
      | (with_reducible exact spec_DivideDown.mono _ _ _ _ _ _)
      | (with_reducible exact LeO.refl _)
      | (with_reducible exact LeO.none _)
      | (with_reducible refine LeO.ite ?_ ?_)
      | (with_reducible refine LeO.bind ?_ (fun _ => ?_))
      | exact impl_DivideDown.mono _ _ _ _ _ _
      | exact spec_DivideDown.mono _ _ _ _ _ _
      | exact LeO.none _
      | refine LeO.ite ?_ ?_
      | refine LeO.bind ?_ (fun _ => ?_)

/-! spec_dySquareIn -/
def spec_dySquareIn.f (k : Nat) (a0 : Int) (a1 : Int) (a2_0 : Int) (a2_1 : Int) : Option (Bool) := (spec_dyPower.f a1).bind fun t666 => (if t666 = 0 then (none) else ((spec_dyPower.f a1).bind fun t667 => (if t667 = 0 then (none) else (if (wrap64 (Int.tdiv a0 t666)) > 1048576 then (some false) else ((spec_dyFloor.f a2_0 a2_1).bind fun t668 => ((spec_dyPower.f a2_1).bind fun t669 => ((spec_dyAt.f k (wrap64 (a2_0 - (wrap64 (t668 * t669)))) a2_1 24).bind fun bt670 => ((spec_dyPower.f a1).bind fun t672 => (if t672 = 0 then (none) else (if (wrap64 ((wrap64 (t668 - (wrap64 ((wrap64 (Int.tdiv a0 t666)) * (wrap64 (Int.tdiv a0 t666)))))) - (wrap64 (Int.tdiv (wrap64 ((wrap64 (2 * (wrap64 (Int.tdiv a0 t666)))) * (Int.tmod a0 t667))) t672)))) < 0 then (some false) else (if (wrap64 ((wrap64 (t668 - (wrap64 ((wrap64 (Int.tdiv a0 t666)) * (wrap64 (Int.tdiv a0 t666)))))) - (wrap64 (Int.tdiv (wrap64 ((wrap64 (2 * (wrap64 (Int.tdiv a0 t666)))) * (Int.tmod a0 t667))) t672)))) > 4 then (some true) else ((spec_dyPower.f a1).bind fun t673 => (if t673 = 0 then (none) else ((spec_dyPower.f (wrap64 (2 * a1))).bind fun t674 => (if (wrap64 (2 * a1)) ≥ 24 then ((spec_dyPower.f (wrap64 ((wrap64 (2 * a1)) - 24))).bind fun t675 => ((spec_dyPower.f a1).bind fun t676 => (some (decide ((wrap64 ((wrap64 ((Int.tmod (wrap64 ((wrap64 (2 * (wrap64 (Int.tdiv a0 t666)))) * (Int.tmod a0 t667))) t673) * t676)) + (wrap64 ((Int.tmod a0 t667) * (Int.tmod a0 t667))))) ≤ (wrap64 ((wrap64 ((wrap64 ((wrap64 (t668 - (wrap64 ((wrap64 (Int.tdiv a0 t666)) * (wrap64 (Int.tdiv a0 t666)))))) - (wrap64 (Int.tdiv (wrap64 ((wrap64 (2 * (wrap64 (Int.tdiv a0 t666)))) * (Int.tmod a0 t667))) t672)))) * t674)) + (wrap64 (bt670.1 * t675))))))))) else ((spec_dyPower.f (wrap64 (24 - (wrap64 (2 * a1))))).bind fun t677 => (if t677 = 0 then (none) else ((spec_dyPower.f a1).bind fun t678 => (some (decide ((wrap64 ((wrap64 ((Int.tmod (wrap64 ((wrap64 (2 * (wrap64 (Int.tdiv a0 t666)))) * (Int.tmod a0 t667))) t673) * t678)) + (wrap64 ((Int.tmod a0 t667) * (Int.tmod a0 t667))))) ≤ (wrap64 ((wrap64 ((wrap64 ((wrap64 (t668 - (wrap64 ((wrap64 (Int.tdiv a0 t666)) * (wrap64 (Int.tdiv a0 t666)))))) - (wrap64 (Int.tdiv (wrap64 ((wrap64 (2 * (wrap64 (Int.tdiv a0 t666)))) * (Int.tmod a0 t667))) t672)))) * t674)) + (wrap64 (Int.tdiv bt670.1 t677)))))))))))))))))))))))))
theorem spec_dySquareIn.mono : ∀ a0 a1 a2 a3 k, LeO (spec_dySquareIn.f k a0 a1 a2 a3) (spec_dySquareIn.f (k + 1) a0 a1 a2 a3) := by
  intro a0 a1 a2 a3 k
  unfold spec_dySquareIn.f
  repeat' first
      | (with_reducible exact spec_dyAt.mono _ _ _ _)
      | (with_reducible exact LeO.refl _)
      | (with_reducible exact LeO.none _)
      | (with_reducible refine LeO.ite ?_ ?_)
      | (with_reducible refine LeO.bind ?_ (fun _ => ?_))
      | exact spec_dyAt.mono _ _ _ _
      | exact LeO.none _
      | refine LeO.ite ?_ ?_
      | refine LeO.bind ?_ (fun _ => ?_)

/-! spec_dyRoot -/
def spec_dyRoot.l0 : Nat → Int → Int → Int → Int → Int → Option (Int × Int × Bool)
  | 0, _, _, _, _, _ => none
  | k + 1, x1, x6, x7, x680000, x680001 => if (wrap64 (x7 - x6)) > 1 then ((spec_dySquareIn.f k (wrap64 (Int.tdiv (wrap64 (x6 + x7)) 2)) x1 x680000 x680001).bind fun t682 => (if t682 = true then (spec_dyRoot.l0 k x1 (wrap64 (Int.tdiv (wrap64 (x6 + x7)) 2)) x7 x680000 x680001) else (spec_dyRoot.l0 k x1 x6 (wrap64 (Int.tdiv (wrap64 (x6 + x7)) 2)) x680000 x680001))) else ((spec_dyMake.f k x6 x1).bind fun bt683 => (some (bt683.1, bt683.2.1, bt683.2.2)))
def spec_dyRoot.f (k : Nat) (a0_0 : Int) (a0_1 : Int) (a1 : Int) : Option (Int × Int × Bool) := (spec_dyPower.f 45).bind fun t681 => (spec_dyRoot.l0 k a1 0 t681 a0_0 a0_1)
theorem spec_dyRoot.mono_l : ∀ k, (∀ y0 y1 y2 y3 y4, LeO (spec_dyRoot.l0 k y0 y1 y2 y3 y4) (spec_dyRoot.l0 (k + 1) y0 y1 y2 y3 y4))
  | 0 => fun _ _ _ _ _ r h => by simp [spec_dyRoot.l0] at h
  | k + 1 => by
    have ih0 := spec_dyRoot.mono_l k
    · intro y0 y1 y2 y3 y4
      unfold spec_dyRoot.l0
      repeat' first
      | (with_reducible exact ih0 _ _ _ _ _)
      | (with_reducible exact spec_dyMake.mono _ _ _)
      | (with_reducible exact spec_dySquareIn.mono _ _ _ _ _)
      | (with_reducible exact LeO.refl _)
      | (with_reducible exact LeO.none _)
      | (with_reducible refine LeO.ite ?_ ?_)
      | (with_reducible refine LeO.bind ?_ (fun _ => ?_))
      | exact ih0 _ _ _ _ _
      | exact spec_dyMake.mono _ _ _
      | exact spec_dySquareIn.mono _ _ _ _ _
      | exact LeO.none _
      | refine LeO.ite ?_ ?_
      | refine LeO.bind ?_ (fun _ => ?_)
theorem spec_dyRoot.mono : ∀ a0 a1 a2 k, LeO (spec_dyRoot.f k a0 a1 a2) (spec_dyRoot.f (k + 1) a0 a1 a2) := by
  intro a0 a1 a2 k
  have ih0 := spec_dyRoot.mono_l k
  unfold spec_dyRoot.f
  repeat' first
      | (with_reducible exact ih0 _ _ _ _ _)
      | (with_reducible exact spec_dyMake.mono _ _ _)
      | (with_reducible exact spec_dySquareIn.mono _ _ _ _ _)
      | (with_reducible exact LeO.refl _)
      | (with_reducible exact LeO.none _)
      | (with_reducible refine LeO.ite ?_ ?_)
      | (with_reducible refine LeO.bind ?_ (fun _ => ?_))
      | exact ih0 _ _ _ _ _
      | exact spec_dyMake.mono _ _ _
      | exact spec_dySquareIn.mono _ _ _ _ _
      | exact LeO.none _
      | refine LeO.ite ?_ ?_
      | refine LeO.bind ?_ (fun _ => ?_)

/-! spec_RootDown -/
def spec_RootDown.f (k : Nat) (a0_0 : Int) (a0_1 : Int) (a1 : Int) : Option (Int × Int × Bool) := (spec_dyPlaces.f a0_0 a0_1 a1).bind fun t688 => (if t688 = true then (if a0_0 < 0 then (some (0, 0, false)) else ((spec_dyRoot.f k a0_0 a0_1 a1).bind fun bt689 => (some (bt689.1, bt689.2.1, bt689.2.2)))) else (some (0, 0, false)))
theorem spec_RootDown.mono : ∀ a0 a1 a2 k, LeO (spec_RootDown.f k a0 a1 a2) (spec_RootDown.f (k + 1) a0 a1 a2) := by
  intro a0 a1 a2 k
  unfold spec_RootDown.f
  repeat' first
      | (with_reducible exact spec_dyRoot.mono _ _ _ _)
      | (with_reducible exact LeO.refl _)
      | (with_reducible exact LeO.none _)
      | (with_reducible refine LeO.ite ?_ ?_)
      | (with_reducible refine LeO.bind ?_ (fun _ => ?_))
      | exact spec_dyRoot.mono _ _ _ _
      | exact LeO.none _
      | refine LeO.ite ?_ ?_
      | refine LeO.bind ?_ (fun _ => ?_)

/-! impl_RootDown -/
mutual
def impl_RootDown.j0 : Nat → Int → Bool → Int → Int → Option (Int × Int × Bool)
  | 0, _, _, _, _ => none
  | k + 1, x1, x22, x693000, x693001 => if x22 = true then (some (0, 0, false)) else ((impl_wideOf.f x693000).bind fun bt696 => ((impl_wide_shift.f bt696.1 bt696.2.1 bt696.2.2 (wrap64 ((wrap64 (2 * x1)) - x693001))).bind fun bt699 => (impl_RootDown.l0 k x1 0 35184372088832 bt699.1 bt699.2.1 bt699.2.2)))
def impl_RootDown.l0 : Nat → Int → Int → Int → Bool → Int → Int → Option (Int × Int × Bool)
  | 0, _, _, _, _, _, _ => none
  | k + 1, x1, x7, x8, x703000, x703001, x703002 => if x7 < x8 then ((impl_timesWide.f (wrap64 (Int.tdiv (wrap64 ((wrap64 (x7 + x8)) + 1)) 2)) (wrap64 (Int.tdiv (wrap64 ((wrap64 (x7 + x8)) + 1)) 2))).bind fun bt709 => ((impl_compareWide.f k bt709.1 bt709.2.1 bt709.2.2 x703000 x703001 x703002).bind fun t712 => (if t712 ≤ 0 then (impl_RootDown.l0 k x1 (wrap64 (Int.tdiv (wrap64 ((wrap64 (x7 + x8)) + 1)) 2)) x8 x703000 x703001 x703002) else (impl_RootDown.l0 k x1 x7 (wrap64 ((wrap64 (Int.tdiv (wrap64 ((wrap64 (x7 + x8)) + 1)) 2)) - 1)) x703000 x703001 x703002)))) else ((impl_wideOf.f x7).bind fun bt703 => ((impl_wide_fit.f k bt703.1 bt703.2.1 bt703.2.2 x1).bind fun bt706 => (some (bt706.1, bt706.2.1, bt706.2.2))))
end
def impl_RootDown.f (k : Nat) (a0_0 : Int) (a0_1 : Int) (a1 : Int) : Option (Int × Int × Bool) := (impl_isDyadic.f a0_0 a0_1).bind fun t694 => (if t694 = true then (if a0_0 < 0 then (impl_RootDown.j0 k a1 true a0_0 a0_1) else ((impl_isPlaces.f a1).bind fun t695 => (impl_RootDown.j0 k a1 (!t695) a0_0 a0_1))) else (impl_RootDown.j0 k a1 true a0_0 a0_1))
theorem impl_RootDown.mono_l : ∀ k, (∀ y0 y1 y2 y3, LeO (impl_RootDown.j0 k y0 y1 y2 y3) (impl_RootDown.j0 (k + 1) y0 y1 y2 y3)) ∧ (∀ y0 y1 y2 y3 y4 y5, LeO (impl_RootDown.l0 k y0 y1 y2 y3 y4 y5) (impl_RootDown.l0 (k + 1) y0 y1 y2 y3 y4 y5))
  | 0 => ⟨fun _ _ _ _ r h => by simp [impl_RootDown.j0] at h, fun _ _ _ _ _ _ r h => by simp [impl_RootDown.l0] at h⟩
  | k + 1 => by
    obtain ⟨ih0, ih1⟩ := impl_RootDown.mono_l k
    refine ⟨?_, ?_⟩
    · intro y0 y1 y2 y3
      unfold impl_RootDown.j0
      repeat' first
      | (with_reducible exact ih0 _ _ _ _)
      | (with_reducible exact ih1 _ _ _ _ _ _)
      | (with_reducible exact impl_compareWide.mono _ _ _ _ _ _ _)
      | (with_reducible exact impl_wide_fit.mono _ _ _ _ _)
      | (with_reducible exact LeO.refl _)
      | (with_reducible exact LeO.none _)
      | (with_reducible refine LeO.ite ?_ ?_)
      | (with_reducible refine LeO.bind ?_ (fun _ => ?_))
      | exact ih0 _ _ _ _
      | exact ih1 _ _ _ _ _ _
      | exact impl_compareWide.mono _ _ _ _ _ _ _
      | exact impl_wide_fit.mono _ _ _ _ _
      | exact LeO.none _
      | refine LeO.ite ?_ ?_
      | refine LeO.bind ?_ (fun _ => ?_)
    · intro y0 y1 y2 y3 y4 y5
      unfold impl_RootDown.l0
      repeat' first
      | (with_reducible exact ih0 _ _ _ _)
      | (with_reducible exact ih1 _ _ _ _ _ _)
      | (with_reducible exact impl_compareWide.mono _ _ _ _ _ _ _)
      | (with_reducible exact impl_wide_fit.mono _ _ _ _ _)
      | (with_reducible exact LeO.refl _)
      | (with_reducible exact LeO.none _)
      | (with_reducible refine LeO.ite ?_ ?_)
      | (with_reducible refine LeO.bind ?_ (fun _ => ?_))
      | exact ih0 _ _ _ _
      | exact ih1 _ _ _ _ _ _
      | exact impl_compareWide.mono _ _ _ _ _ _ _
      | exact impl_wide_fit.mono _ _ _ _ _
      | exact LeO.none _
      | refine LeO.ite ?_ ?_
      | refine LeO.bind ?_ (fun _ => ?_)
theorem impl_RootDown.mono : ∀ a0 a1 a2 k, LeO (impl_RootDown.f k a0 a1 a2) (impl_RootDown.f (k + 1) a0 a1 a2) := by
  intro a0 a1 a2 k
  obtain ⟨ih0, ih1⟩ := impl_RootDown.mono_l k
  unfold impl_RootDown.f
  repeat' first
      | (with_reducible exact ih0 _ _ _ _)
      | (with_reducible exact ih1 _ _ _ _ _ _)
      | (with_reducible exact impl_compareWide.mono _ _ _ _ _ _ _)
      | (with_reducible exact impl_wide_fit.mono _ _ _ _ _)
      | (with_reducible exact LeO.refl _)
      | (with_reducible exact LeO.none _)
      | (with_reducible refine LeO.ite ?_ ?_)
      | (with_reducible refine LeO.bind ?_ (fun _ => ?_))
      | exact ih0 _ _ _ _
      | exact ih1 _ _ _ _ _ _
      | exact impl_compareWide.mono _ _ _ _ _ _ _
      | exact impl_wide_fit.mono _ _ _ _ _
      | exact LeO.none _
      | refine LeO.ite ?_ ?_
      | refine LeO.bind ?_ (fun _ => ?_)

/-! laws_FnExactRootDown -/
def laws_FnExactRootDown.f (k : Nat) (a0_0 : Int) (a0_1 : Int) (a1 : Int) : Option (Bool) := (laws_toDyadic.f a0_0 a0_1).bind fun bt714 => ((spec_RootDown.f k bt714.1 bt714.2 a1).bind fun bt716 => ((laws_toDyadic.f a0_0 a0_1).bind fun bt720 => ((impl_RootDown.f k bt720.1 bt720.2 a1).bind fun bt722 => ((laws_eqDyadic.f bt722.1 bt722.2.1 bt716.1 bt716.2.1).bind fun t726 => (if t726 = true then (if (bt722.2.2 != bt716.2.2) = true then (none) else (some true)) else (none))))))
theorem laws_FnExactRootDown.mono : ∀ a0 a1 a2 k, LeO (laws_FnExactRootDown.f k a0 a1 a2) (laws_FnExactRootDown.f (k + 1) a0 a1 a2) := by
  intro a0 a1 a2 k
  unfold laws_FnExactRootDown.f
  repeat' first
      | (with_reducible exact impl_RootDown.mono _ _ _ _)
      | (with_reducible exact spec_RootDown.mono _ _ _ _)
      | (with_reducible exact LeO.refl _)
      | (with_reducible exact LeO.none _)
      | (with_reducible refine LeO.ite ?_ ?_)
      | (with_reducible refine LeO.bind ?_ (fun _ => ?_))
      | exact impl_RootDown.mono _ _ _ _
      | exact spec_RootDown.mono _ _ _ _
      | exact LeO.none _
      | refine LeO.ite ?_ ?_
      | refine LeO.bind ?_ (fun _ => ?_)

end Go.Proofs.Ythgalpfnfidcdaa.PD
