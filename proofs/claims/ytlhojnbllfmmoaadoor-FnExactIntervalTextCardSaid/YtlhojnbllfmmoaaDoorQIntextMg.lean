import Derived.Test.YtlhojnbllfmmoaaDoorQIntextPDx1
import Derived.Test.YtlhojnbllfmmoaaDoorQIntextMc
/- Intervals: the ends as numbers, and what the program and the reference make of them: lemmas on the printed functions. -/
namespace Go.Proofs.YtlhojnbllfmmoaaDoor.PD
open Go.RowKit Go.Proofs.YtlhojnbllfmmoaaDoorW.PrintWords Go.Proofs.YtlhojnbllfmmoaaDoorW.PrintLast Go.Proofs.YtlhojnbllfmmoaaDoorW.PrintMore
/-- A number as a whole number over 2^24. -/
def v (a k : Int) : Int := a * 2 ^ (24 - k.toNat)
theorem v_over {a : Int} {ka kb : Nat} (hka : ka ≤ 24) (hkb : kb ≤ 24) : v a ka = over a ka kb * 2 ^ (24 - max ka kb) := by
  unfold v over
  rw [Int.mul_assoc, ← Int.pow_add, Int.toNat_natCast]; congr 2; omega
theorem v_over' {b : Int} {ka kb : Nat} (hka : ka ≤ 24) (hkb : kb ≤ 24) : v b kb = over b kb ka * 2 ^ (24 - max ka kb) := by
  rw [v_over hkb hka, Nat.max_comm]
theorem cmp_v {a b : Int} {ka kb : Nat} (hka : ka ≤ 24) (hkb : kb ≤ 24) : cmpI (over a ka kb) (over b kb ka) = cmpI (v a ka) (v b kb) := by
  rw [v_over hka hkb, v_over' hka hkb, cmpI_mul (pow_pos _)]
theorem spec_cmp {a b j k : Int} (ha : good a j = true) (hb : good b k = true) : Ev (fun K => spec_dyCmp.f K a j b k) (cmpI (v a j) (v b k)) := by
  obtain ⟨ka, rfl, hka⟩ := good_k ha
  obtain ⟨kb, rfl, hkb⟩ := good_k hb
  rw [← cmp_v hka hkb]; exact dyCmp_ev (good_small ha) (good_small hb) hka hkb
theorem impl_cmp {a b j k : Int} (ha : good a j = true) (hb : good b k = true) : Ev (fun K => impl_compareD.f K a j b k) (cmpI (v a j) (v b k)) := by
  obtain ⟨ka, rfl, hka⟩ := good_k ha
  obtain ⟨kb, rfl, hkb⟩ := good_k hb
  rw [← cmp_v hka hkb]; exact compareD_ev (good_small ha) (good_small hb) hka hkb
theorem cmpI_le (a b : Int) : cmpI a b ≤ 0 ↔ a ≤ b := by
  unfold cmpI; split
  · omega
  · split <;> omega
/-- A valid interval. -/
def goodI (a j b k : Int) : Bool := good a j && good b k && decide (v a j ≤ v b k)
theorem goodI_iff {a j b k : Int} : goodI a j b k = true ↔ good a j = true ∧ good b k = true ∧ v a j ≤ v b k := by
  unfold goodI; simp [and_assoc]
theorem ivGood_ev (a j b k : Int) : Ev (fun K => spec_ivGood.f K a j b k) (goodI a j b k) := by
  unfold goodI
  by_cases ha : good a j = true
  · by_cases hb : good b k = true
    · obtain ⟨K0, h0⟩ := spec_cmp ha hb
      dsimp only at h0
      refine ⟨K0, fun K hK => ?_⟩
      dsimp only; unfold spec_ivGood.f
      rw [dyGood_eq, dyGood_eq, ha, hb]; simp only [bs, if_true, Bool.and_self, Bool.true_and]
      rw [h0 K hK]; simp only [bs, cmpI_le]
    · refine ⟨0, fun K _ => ?_⟩
      dsimp only; unfold spec_ivGood.f
      rw [dyGood_eq, dyGood_eq, ha, Bool.eq_false_iff.2 hb]; rfl
  · refine ⟨0, fun K _ => ?_⟩
    dsimp only; unfold spec_ivGood.f
    rw [dyGood_eq, Bool.eq_false_iff.2 ha]; rfl
theorem isInterval_ev (a j b k : Int) : Ev (fun K => impl_isInterval.f K a j b k) (goodI a j b k) := by
  unfold goodI
  by_cases ha : good a j = true
  · by_cases hb : good b k = true
    · obtain ⟨K0, h0⟩ := impl_cmp ha hb
      dsimp only at h0
      refine ⟨K0, fun K hK => ?_⟩
      dsimp only; unfold impl_isInterval.f
      rw [isDyadic_eq, isDyadic_eq, ha, hb]; simp only [bs, if_true, Bool.and_self, Bool.true_and]
      rw [h0 K hK]; simp only [bs, cmpI_le]
    · refine ⟨0, fun K _ => ?_⟩
      dsimp only; unfold impl_isInterval.f
      rw [isDyadic_eq, isDyadic_eq, ha, Bool.eq_false_iff.2 hb]; rfl
  · refine ⟨0, fun K _ => ?_⟩
    dsimp only; unfold impl_isInterval.f
    rw [isDyadic_eq, Bool.eq_false_iff.2 ha]; rfl
def G (p : Int × Int) : Prop := good p.1 p.2 = true
def w (p : Int × Int) : Int := v p.1 p.2
end Go.Proofs.YtlhojnbllfmmoaaDoor.PD
