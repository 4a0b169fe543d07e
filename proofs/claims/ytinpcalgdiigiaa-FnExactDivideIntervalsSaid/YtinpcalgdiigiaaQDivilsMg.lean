import Derived.Test.YtinpcalgdiigiaaQDivilsPDx1
import Derived.Test.YtinpcalgdiigiaaQDivilsMc
/- Intervals: the ends as numbers, and what the program and the reference make of them: lemmas on the printed functions. -/
namespace Go.Proofs.Ytinpcalgdiigiaa.PD
open Go.RowKit Go.Proofs.YtinpcalgdiigiaaW.PrintWords Go.Proofs.YtinpcalgdiigiaaW.PrintLast Go.Proofs.YtinpcalgdiigiaaW.PrintMore
/-- A number as a whole number over 2^24. -/
def v (a k : Int) : Int := a * 2 ^ (24 - k.toNat)
theorem v_over {a : Int} {ka kb : Nat} (hka : ka ≤ 24) (hkb : kb ≤ 24) : v a ka = over a ka kb * 2 ^ (24 - max ka kb) := by
  unfold v over
  rw [Int.mul_assoc, ← Int.pow_add, Int.toNat_natCast]; congr 2; omega
theorem v_over' {b : Int} {ka kb : Nat} (hka : ka ≤ 24) (hkb : kb ≤ 24) : v b kb = over b kb ka * 2 ^ (24 - max ka kb) := by
  rw [v_over hkb hka, Nat.max_comm]
theorem cmp_v {a b : Int} {ka kb : Nat} (hka : ka ≤ 24) (hkb : kb ≤ 24) : cmpI (over a ka kb) (over b kb ka) = cmpI (v a ka) (v b kb) := by
  rw [v_over hka hkb, v_over' hka hkb, cmpI_mul (pow_pos _)]
theorem pow_even (n : Nat) : (2 : Int) ^ (n + 1) % 2 = 0 := by rw [Int.pow_succ]; omega
theorem v_inj {a b j k : Int} (ha : good a j = true) (hb : good b k = true) (h : v a j = v b k) : a = b ∧ j = k := by
  obtain ⟨a0, a1, a2, a3, a4⟩ := good_iff.1 ha
  obtain ⟨b0, b1, b2, b3, b4⟩ := good_iff.1 hb
  obtain ⟨j, rfl⟩ := Int.eq_ofNat_of_zero_le a0
  obtain ⟨k, rfl⟩ := Int.eq_ofNat_of_zero_le b0
  have key : ∀ (x y : Int) (p q : Nat), p < q → q ≤ 24 → (q = 0 ∨ y % 2 ≠ 0) → x * 2 ^ (24 - p) = y * 2 ^ (24 - q) → False := by
    intro x y p q hpq hq hy e
    have hy' : y % 2 ≠ 0 := by rcases hy with h | h <;> omega
    have e1 : (2 : Int) ^ (24 - p) = 2 ^ (q - p) * 2 ^ (24 - q) := by rw [← Int.pow_add]; congr 1; omega
    rw [e1, ← Int.mul_assoc] at e
    have e2 := Int.eq_of_mul_eq_mul_right (by have := pow_pos (24 - q); omega) e
    obtain ⟨d, hd⟩ : ∃ d, q - p = d + 1 := ⟨q - p - 1, by omega⟩
    rw [hd] at e2
    have : (x * 2 ^ (d + 1)) % 2 = 0 := by rw [Int.mul_emod, pow_even]; simp
    rw [e2] at this; exact hy' this
  unfold v at h; rw [Int.toNat_natCast, Int.toNat_natCast] at h
  rcases Nat.lt_trichotomy j k with c | c | c
  · exact (key a b j k c (by omega) (by omega) h).elim
  · subst c; exact ⟨Int.eq_of_mul_eq_mul_right (by have := pow_pos (24 - j); omega) h, rfl⟩
  · exact (key b a k j c (by omega) (by omega) h.symm).elim
theorem v_sign {a k : Int} : (0 < v a k ↔ 0 < a) ∧ (v a k < 0 ↔ a < 0) := by
  have hp := pow_pos (24 - k.toNat)
  unfold v
  rcases Int.lt_trichotomy a 0 with h | h | h
  · have := Int.mul_neg_of_neg_of_pos h hp; omega
  · subst h; simp
  · have := Int.mul_pos h hp; omega
theorem spec_cmp {a b j k : Int} (ha : good a j = true) (hb : good b k = true) : Ev (fun K => spec_dyCmp.f K a j b k) (cmpI (v a j) (v b k)) := by
  obtain ⟨ka, rfl, hka⟩ := good_k ha
  obtain ⟨kb, rfl, hkb⟩ := good_k hb
  rw [← cmp_v hka hkb]; exact dyCmp_ev (good_small ha) (good_small hb) hka hkb
theorem impl_cmp {a b j k : Int} (ha : good a j = true) (hb : good b k = true) : Ev (fun K => impl_compareD.f K a j b k) (cmpI (v a j) (v b k)) := by
  obtain ⟨ka, rfl, hka⟩ := good_k ha
  obtain ⟨kb, rfl, hkb⟩ := good_k hb
  rw [← cmp_v hka hkb]; exact compareD_ev (good_small ha) (good_small hb) hka hkb
theorem cmpI_le (a b : Int) : cmpI a b ≤ 0 ↔ a ≤ b := by
  unfold cmpI; split
  · omega
  · split <;> omega
theorem cmpI_lt (a b : Int) : cmpI a b < 0 ↔ a < b := by
  unfold cmpI; split
  · omega
  · split <;> omega
/-- A valid interval. -/
def goodI (a j b k : Int) : Bool := good a j && good b k && decide (v a j ≤ v b k)
theorem goodI_iff {a j b k : Int} : goodI a j b k = true ↔ good a j = true ∧ good b k = true ∧ v a j ≤ v b k := by
  unfold goodI; simp [and_assoc]
theorem ivGood_ev (a j b k : Int) : Ev (fun K => spec_ivGood.f K a j b k) (goodI a j b k) := by
  unfold goodI
  by_cases ha : good a j = true
  · by_cases hb : good b k = true
    · obtain ⟨K0, h0⟩ := spec_cmp ha hb
      dsimp only at h0
      refine ⟨K0, fun K hK => ?_⟩
      dsimp only; unfold spec_ivGood.f
      rw [dyGood_eq, dyGood_eq, ha, hb]; simp only [bs, if_true, Bool.and_self, Bool.true_and]
      rw [h0 K hK]; simp only [bs, cmpI_le]
    · refine ⟨0, fun K _ => ?_⟩
      dsimp only; unfold spec_ivGood.f
      rw [dyGood_eq, dyGood_eq, ha, Bool.eq_false_iff.2 hb]; rfl
  · refine ⟨0, fun K _ => ?_⟩
    dsimp only; unfold spec_ivGood.f
    rw [dyGood_eq, Bool.eq_false_iff.2 ha]; rfl
theorem isInterval_ev (a j b k : Int) : Ev (fun K => impl_isInterval.f K a j b k) (goodI a j b k) := by
  unfold goodI
  by_cases ha : good a j = true
  · by_cases hb : good b k = true
    · obtain ⟨K0, h0⟩ := impl_cmp ha hb
      dsimp only at h0
      refine ⟨K0, fun K hK => ?_⟩
      dsimp only; unfold impl_isInterval.f
      rw [isDyadic_eq, isDyadic_eq, ha, hb]; simp only [bs, if_true, Bool.and_self, Bool.true_and]
      rw [h0 K hK]; simp only [bs, cmpI_le]
    · refine ⟨0, fun K _ => ?_⟩
      dsimp only; unfold impl_isInterval.f
      rw [isDyadic_eq, isDyadic_eq, ha, Bool.eq_false_iff.2 hb]; rfl
  · refine ⟨0, fun K _ => ?_⟩
    dsimp only; unfold impl_isInterval.f
    rw [isDyadic_eq, Bool.eq_false_iff.2 ha]; rfl
theorem ivTwo_ev (a j b k c l d m : Int) : Ev (fun K => spec_ivTwo.f K a j b k c l d m) (goodI a j b k && goodI c l d m) := by
  obtain ⟨K0, h0⟩ := ivGood_ev a j b k
  obtain ⟨K1, h1⟩ := ivGood_ev c l d m
  dsimp only at h0 h1
  refine ⟨K0 + K1, fun K hK => ?_⟩
  dsimp only; unfold spec_ivTwo.f
  rw [h0 K (by omega)]; simp only [bs]
  cases goodI a j b k with
  | false => rfl
  | true => rw [if_pos rfl, h1 K (by omega)]; simp only [bs, Bool.true_and]
theorem toInterval_eq (a j b k : Int) : laws_toInterval.f a j b k = some (a, j, b, k) := by
  unfold laws_toInterval.f laws_toDyadic.f; rfl
theorem eqInterval_self (a j b k : Int) : laws_eqInterval.f a j b k a j b k = some true := by
  unfold laws_eqInterval.f; rw [eqD_self, eqD_self]; rfl
/-- The lesser and the greater of two numbers. -/
def mn2 (p q : Int × Int) : Int × Int := if v q.1 q.2 < v p.1 p.2 then q else p
def mx2 (p q : Int × Int) : Int × Int := if v p.1 p.2 < v q.1 q.2 then q else p
def G (p : Int × Int) : Prop := good p.1 p.2 = true
def w (p : Int × Int) : Int := v p.1 p.2
theorem w_mn2 (p q : Int × Int) : w (mn2 p q) = min (w p) (w q) := by unfold mn2 w; split <;> omega
theorem w_mx2 (p q : Int × Int) : w (mx2 p q) = max (w p) (w q) := by unfold mx2 w; split <;> omega
theorem G_mn2 {p q : Int × Int} (hp : G p) (hq : G q) : G (mn2 p q) := by unfold mn2; split <;> assumption
theorem G_mx2 {p q : Int × Int} (hp : G p) (hq : G q) : G (mx2 p q) := by unfold mx2; split <;> assumption
theorem w_inj {p q : Int × Int} (hp : G p) (hq : G q) (h : w p = w q) : p = q := by
  have := v_inj hp hq h
  exact Prod.ext this.1 this.2
theorem law_v {f g : Nat → Option (Int × Int × Int × Int × Bool)} {r : Int × Int × Int × Int × Bool} (hf : Ev f r) (hg : Ev g r) :
    ∃ k, ((f k).bind fun b => ((g k).bind fun c => ((laws_eqInterval.f c.1 c.2.1 c.2.2.1 c.2.2.2.1 b.1 b.2.1 b.2.2.1 b.2.2.2.1).bind fun t => (if t = true then (if (c.2.2.2.2 != b.2.2.2.2) = true then (none) else (some true)) else (none))))) = some true := by
  obtain ⟨K0, h0⟩ := hf
  obtain ⟨K1, h1⟩ := hg
  refine ⟨K0 + K1, ?_⟩
  rw [h0 _ (by omega)]; simp only [bs]
  rw [h1 _ (by omega)]; simp only [bs]
  rw [eqInterval_self]; simp only [bs, if_true]
  rw [if_neg (by simp)]
end Go.Proofs.Ytinpcalgdiigiaa.PD
