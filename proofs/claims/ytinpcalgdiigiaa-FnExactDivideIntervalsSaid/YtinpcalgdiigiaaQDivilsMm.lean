import Derived.Test.YtinpcalgdiigiaaQDivilsPDx1
import Derived.Test.YtinpcalgdiigiaaQDivilsMl
/- Quotients rounded down, digit by digit: the reference's. -/
namespace Go.Proofs.Ytinpcalgdiigiaa.PD
open Go.RowKit Go.Proofs.YtinpcalgdiigiaaW.PrintWords Go.Proofs.YtinpcalgdiigiaaW.PrintLast Go.Proofs.YtinpcalgdiigiaaW.PrintMore
theorem digits_j2 {q : Int} (hq : Small q) {s p : Nat} (hs : s ≤ 48) (hp : p ≤ 24) {g : Int} (g0 : 0 ≤ g) (g1 : g < 2 ^ s) (hodd : p = 0 ∨ s = 0 ∨ g % 2 ≠ 0) :
    Ev (fun K => spec_dyDigits.j2 K q (s : Int) (p : Int) g) (mk (q * 2 ^ s + g) p) := by
  have ea := abs_eq hq
  obtain ⟨q1, q2⟩ := hq
  have h62 : wrap64 (62 - (s : Int)) = ((62 - s : Nat) : Int) := by rw [w64 (by omega) (by omega)]; omega
  have hps := pow_pos s
  have hps2 := pow_pos (62 - s)
  have hpp : (2 : Int) ^ (62 - s) * 2 ^ s = 4611686018427387904 := by rw [← Int.pow_add, show 62 - s + s = 62 by omega]; rfl
  have hs48 : (2 : Int) ^ s ≤ 281474976710656 := pow_le (b := 48) hs
  by_cases c : (if q < 0 then -q else q) > 2 ^ (62 - s)
  · refine ⟨1, fun K hK => ?_⟩
    obtain ⟨K, rfl⟩ : ∃ j, K = j + 1 := ⟨K - 1, by omega⟩
    simp only [spec_dyDigits.j2]
    rw [ea]; simp only [bs]
    rw [h62, dyPower_eq (62 - s) (by omega)]; simp only [bs]
    rw [if_pos c]
    have big : q * 2 ^ s + g < -1099511627776 ∨ 1099511627776 < q * 2 ^ s + g := by
      by_cases n : q < 0
      · rw [if_pos n] at c
        have := Int.mul_le_mul_of_nonneg_right (show q ≤ -(2 ^ (62 - s)) - 1 by omega) (show (0 : Int) ≤ 2 ^ s by omega)
        rw [Int.sub_mul, Int.neg_mul, hpp] at this; omega
      · rw [if_neg n] at c
        have := Int.mul_le_mul_of_nonneg_right (show (2 : Int) ^ (62 - s) ≤ q by omega) (show (0 : Int) ≤ 2 ^ s by omega)
        rw [hpp] at this; omega
    rw [mk_far _ big]
    rcases hodd with h | h | h
    · exact Or.inr h
    · subst h
      have : (2 : Int) ^ (62 - 0) = 4611686018427387904 := rfl
      rw [this] at c
      split at c <;> omega
    · left
      rcases Nat.eq_zero_or_pos s with h0 | h0
      · subst h0; simp at g1; omega
      · obtain ⟨t, rfl⟩ : ∃ t, s = t + 1 := ⟨s - 1, by omega⟩
        have : q * 2 ^ (t + 1) = 2 * (q * 2 ^ t) := by rw [Int.pow_succ]; grind
        rw [this]; omega
  · have hb : -4611686018427387904 ≤ q * 2 ^ s ∧ q * 2 ^ s ≤ 4611686018427387904 := by
      have h1 : -(2 : Int) ^ (62 - s) ≤ q := by split at c <;> omega
      have h2 : q ≤ 2 ^ (62 - s) := by split at c <;> omega
      have a1 := Int.mul_le_mul_of_nonneg_right h1 (show (0 : Int) ≤ 2 ^ s by omega)
      have a2 := Int.mul_le_mul_of_nonneg_right h2 (show (0 : Int) ≤ 2 ^ s by omega)
      rw [Int.neg_mul, hpp] at a1; rw [hpp] at a2; exact ⟨a1, a2⟩
    obtain ⟨K0, h0⟩ := dyMake_ev (q * 2 ^ s + g) p (by omega) (by omega) (by omega)
    dsimp only at h0
    refine ⟨K0 + 1, fun K hK => ?_⟩
    obtain ⟨K, rfl⟩ : ∃ j, K = j + 1 := ⟨K - 1, by omega⟩
    simp only [spec_dyDigits.j2]
    rw [ea]; simp only [bs]
    rw [h62, dyPower_eq (62 - s) (by omega)]; simp only [bs]
    rw [if_neg c, dyPower_eq s (by omega)]; simp only [bs]
    rw [w64 (x := q * 2 ^ s) (by omega) (by omega), w64 (x := q * 2 ^ s + g) (by omega) (by omega), h0 K (by omega)]; rfl
theorem digits_l1 {q : Int} (hq : Small q) : ∀ (s p : Nat) (g : Int), s ≤ 48 → p ≤ 24 → 0 ≤ g → g < 2 ^ s → Ev (fun K => spec_dyDigits.l1 K q (s : Int) (p : Int) g) (mk (q * 2 ^ s + g) p) := by
  intro s
  induction s with
  | zero =>
    intro p g hs hp g0 g1
    obtain ⟨K0, h0⟩ := digits_j2 hq (s := 0) hs hp g0 g1 (.inr (.inl rfl))
    dsimp only at h0
    refine ⟨K0 + 1, fun K hK => ?_⟩
    obtain ⟨K, rfl⟩ : ∃ j, K = j + 1 := ⟨K - 1, by omega⟩
    simp only [spec_dyDigits.l1]
    rw [if_neg (show ¬ ((0 : Nat) : Int) > 0 by omega), h0 K (by omega)]
    split <;> rfl
  | succ s ih =>
    intro p g hs hp g0 g1
    by_cases c : p = 0 ∨ g % 2 ≠ 0
    · obtain ⟨K0, h0⟩ := digits_j2 hq (s := s + 1) hs hp g0 g1 (c.elim .inl (fun x => .inr (.inr x)))
      dsimp only at h0
      refine ⟨K0 + 1, fun K hK => ?_⟩
      obtain ⟨K, rfl⟩ : ∃ j, K = j + 1 := ⟨K - 1, by omega⟩
      simp only [spec_dyDigits.l1]
      by_cases hp0 : (p : Int) > 0
      · have : g % 2 ≠ 0 := by omega
        rw [if_pos hp0, if_pos (show ((s + 1 : Nat) : Int) > 0 by omega), if_neg (by rw [tmod_two]; exact this), h0 K (by omega)]
      · rw [if_neg hp0, h0 K (by omega)]
    · obtain ⟨p, rfl⟩ : ∃ t, p = t + 1 := ⟨p - 1, by omega⟩
      have ge : g % 2 = 0 := by omega
      have hpow : (2 : Int) ^ (s + 1) = 2 * 2 ^ s := by rw [Int.pow_succ, Int.mul_comm]
      rw [hpow] at g1
      obtain ⟨K0, h0⟩ := ih p (g / 2) (by omega) (by omega) (by omega) (by omega)
      dsimp only at h0
      have e : q * 2 ^ (s + 1) + g = 2 * (q * 2 ^ s + g / 2) := by
        rw [hpow, show q * (2 * 2 ^ s) = 2 * (q * 2 ^ s) by grind]; omega
      rw [e, mk_two]
      have hs48 : (2 : Int) ^ s ≤ 281474976710656 := pow_le (b := 48) (by omega)
      refine ⟨K0 + 1, fun K hK => ?_⟩
      obtain ⟨K, rfl⟩ : ∃ j, K = j + 1 := ⟨K - 1, by omega⟩
      simp only [spec_dyDigits.l1]
      rw [if_pos (by omega), if_pos (by omega), if_pos (tmod_two.2 ge), tdiv_two ge, w64 (x := g / 2) (by omega) (by omega), w64 (by omega) (by omega), w64 (by omega) (by omega),
        show ((s + 1 : Nat) : Int) - 1 = (s : Int) by omega, show ((p + 1 : Nat) : Int) - 1 = (p : Int) by omega]
      exact h0 K (by omega)
theorem digits_l0 {q b : Int} (hq : Small q) (hb0 : 0 < b) (hb1 : b ≤ 1099511627776) {s p : Nat} (hs : s ≤ 48) (hp : p ≤ 24) : ∀ (d i : Nat) (r g : Int), i + d = s → 0 ≤ r → r < b → 0 ≤ g → g < 2 ^ i →
    Ev (fun K => spec_dyDigits.l0 K q r b (s : Int) (p : Int) g (i : Int)) (mk (q * 2 ^ s + (g * b + r) * 2 ^ d / b) p) := by
  intro d
  induction d with
  | zero =>
    intro i r g hi r0 r1 g0 g1
    have : i = s := by omega
    subst this
    have e : (g * b + r) * 2 ^ 0 / b = g := by
      rw [Int.pow_zero, Int.mul_one]; exact (div_one rfl r0 r1).1
    rw [e]
    obtain ⟨K0, h0⟩ := digits_l1 hq i p g hs hp g0 g1
    dsimp only at h0
    refine ⟨K0 + 1, fun K hK => ?_⟩
    obtain ⟨K, rfl⟩ : ∃ j, K = j + 1 := ⟨K - 1, by omega⟩
    simp only [spec_dyDigits.l0]
    rw [if_neg (by omega), h0 K (by omega)]
  | succ d ih =>
    intro i r g hi r0 r1 g0 g1
    have hg48 : (2 : Int) ^ i ≤ 281474976710656 := pow_le (b := 48) (by omega)
    have hpow : (2 : Int) ^ (i + 1) = 2 * 2 ^ i := by rw [Int.pow_succ, Int.mul_comm]
    have hpd : (2 : Int) ^ (d + 1) = 2 * 2 ^ d := by rw [Int.pow_succ, Int.mul_comm]
    by_cases c : r * 2 ≥ b
    · obtain ⟨K0, h0⟩ := ih (i + 1) (r * 2 - b) (g * 2 + 1) (by omega) (by omega) (by omega) (by omega) (by omega)
      dsimp only at h0
      have e : (g * b + r) * 2 ^ (d + 1) = ((g * 2 + 1) * b + (r * 2 - b)) * 2 ^ d := by rw [hpd]; grind
      rw [e]
      refine ⟨K0 + 1, fun K hK => ?_⟩
      obtain ⟨K, rfl⟩ : ∃ j, K = j + 1 := ⟨K - 1, by omega⟩
      simp only [spec_dyDigits.l0]
      rw [if_pos (by omega), w64 (x := r * 2) (by omega) (by omega), if_pos c, w64 (x := r * 2 - b) (by omega) (by omega), w64 (x := g * 2) (by omega) (by omega), w64 (x := g * 2 + 1) (by omega) (by omega), w64 (by omega) (by omega),
        show (i : Int) + 1 = ((i + 1 : Nat) : Int) by omega]
      exact h0 K (by omega)
    · obtain ⟨K0, h0⟩ := ih (i + 1) (r * 2) (g * 2) (by omega) (by omega) (by omega) (by omega) (by omega)
      dsimp only at h0
      have e : (g * b + r) * 2 ^ (d + 1) = ((g * 2) * b + (r * 2)) * 2 ^ d := by rw [hpd]; grind
      rw [e]
      refine ⟨K0 + 1, fun K hK => ?_⟩
      obtain ⟨K, rfl⟩ : ∃ j, K = j + 1 := ⟨K - 1, by omega⟩
      simp only [spec_dyDigits.l0]
      rw [if_pos (by omega), w64 (x := r * 2) (by omega) (by omega), if_neg c, w64 (x := g * 2) (by omega) (by omega), w64 (by omega) (by omega),
        show (i : Int) + 1 = ((i + 1 : Nat) : Int) by omega]
      exact h0 K (by omega)
theorem divide_j0 {a b : Int} {ka kb p : Nat} (ha : Small a) (hb0 : 0 < b) (hb1 : b ≤ 1099511627776) (hka : ka ≤ 24) (hkb : kb ≤ 24) (hp : p ≤ 24) :
    Ev (fun K => spec_dyDivide.j0 K (p : Int) a (ka : Int) b (kb : Int)) (mk (a * 2 ^ ((kb : Int) + p - ka).toNat / (b * 2 ^ (-((kb : Int) + p - ka)).toNat)) p) := by
  obtain ⟨a1, a2⟩ := ha
  have hd := Int.mul_ediv_add_emod a b
  have hm0 := Int.emod_nonneg a (show b ≠ 0 by omega)
  have hm1 := Int.emod_lt_of_pos a hb0
  have hbt := ediv_between (a := a) hb0
  have hs : wrap64 (wrap64 ((kb : Int) + (p : Int)) - (ka : Int)) = (kb : Int) + p - ka := by rw [w64 (x := (kb : Int) + (p : Int)) (by omega) (by omega), w64 (by omega) (by omega)]
  have hdn : spec_dyDown.f a b = some (a / b) := dyDown_eq hb0 (by omega) (by omega)
  have hsq : Small (a / b) := by
    rcases Int.lt_or_le a 0 with h | h
    · have := hbt.2 h; exact ⟨by omega, by omega⟩
    · have := hbt.1 h; exact ⟨by omega, by omega⟩
  rw [Int.mul_comm] at hd
  generalize hss : (kb : Int) + p - ka = s at *
  by_cases c : s < 0
  · obtain ⟨K0, h0⟩ := dyMake_ev (a / b / 2 ^ (-s).toNat) p (by omega) (by have := ediv_range (a := a / b) (pow_pos (-s).toNat) (by have := hsq.1; omega) (by have := hsq.2; omega); omega) (by have := ediv_range (a := a / b) (pow_pos (-s).toNat) (by have := hsq.1; omega) (by have := hsq.2; omega); omega)
    dsimp only at h0
    rw [show s.toNat = 0 by omega, Int.pow_zero, Int.mul_one, ← Int.ediv_ediv_of_nonneg (show 0 ≤ b by omega)]
    refine ⟨K0 + 1, fun K hK => ?_⟩
    obtain ⟨K, rfl⟩ : ∃ j, K = j + 1 := ⟨K - 1, by omega⟩
    simp only [spec_dyDivide.j0]
    rw [hdn]; simp only [bs]
    have hms : wrap64 (-s) = ((-s).toNat : Int) := by rw [w64 (by omega) (by omega)]; omega
    rw [hs, if_pos c, hms, dyPower_eq _ (by omega)]; simp only [bs]
    rw [dyDown_eq (pow_pos _) (by have := hsq.1; omega) (by have := hsq.2; omega)]; simp only [bs]
    rw [h0 K (by omega)]; rfl
  · have e : a * 2 ^ s.toNat / (b * 2 ^ (-s).toNat) = a / b * 2 ^ s.toNat + (0 * b + a % b) * 2 ^ s.toNat / b := by
      rw [show (-s).toNat = 0 by omega, Int.pow_zero, Int.mul_one, Int.zero_mul, Int.zero_add]
      have : a * 2 ^ s.toNat = a % b * 2 ^ s.toNat + a / b * 2 ^ s.toNat * b := by
        have e1 : a * 2 ^ s.toNat = (a / b * b + a % b) * 2 ^ s.toNat := by rw [hd]
        rw [e1]; grind
      rw [this, Int.add_mul_ediv_right _ _ (by omega), Int.add_comm]
    rw [e]
    obtain ⟨K0, h0⟩ := digits_l0 hsq hb0 hb1 (s := s.toNat) (p := p) (by omega) hp s.toNat 0 (a % b) 0 (by omega) hm0 hm1 (by omega) (by decide)
    dsimp only at h0
    refine ⟨K0 + 1, fun K hK => ?_⟩
    obtain ⟨K, rfl⟩ : ∃ j, K = j + 1 := ⟨K - 1, by omega⟩
    simp only [spec_dyDivide.j0]
    rw [hdn]; simp only [bs]
    rw [hs, if_neg c, w64 (x := a / b * b) (by omega) (by omega), w64 (by omega) (by omega), show a - a / b * b = a % b by omega, show s = (s.toNat : Int) by omega]
    unfold spec_dyDigits.f
    have := h0 K (by omega)
    rw [show ((0 : Nat) : Int) = 0 from rfl] at this
    rw [Int.toNat_natCast, this]; rfl
theorem divide_ev {a b : Int} {ka kb p : Nat} (ha : Small a) (hb : Small b) (hb0 : b ≠ 0) (hka : ka ≤ 24) (hkb : kb ≤ 24) (hp : p ≤ 24) :
    Ev (fun K => spec_dyDivide.f K a (ka : Int) b (kb : Int) (p : Int)) (mk (dq a b ((kb : Int) + p - ka)) p) := by
  unfold dq
  by_cases c : b < 0
  · rw [if_pos c, if_pos c]
    obtain ⟨K0, h0⟩ := divide_j0 (a := -a) (b := -b) (ka := ka) (kb := kb) (p := p) (small_neg ha) (by omega) (by have := hb.1; omega) hka hkb hp
    dsimp only at h0
    refine ⟨K0, fun K hK => ?_⟩
    dsimp only; unfold spec_dyDivide.f
    rw [if_neg hb0, if_pos c, dyMinus_eq ha, dyMinus_eq hb]; simp only [bs]
    exact h0 K hK
  · rw [if_neg c, if_neg c]
    obtain ⟨K0, h0⟩ := divide_j0 (a := a) (b := b) (ka := ka) (kb := kb) (p := p) ha (by omega) hb.2 hka hkb hp
    dsimp only at h0
    refine ⟨K0, fun K hK => ?_⟩
    dsimp only; unfold spec_dyDivide.f
    rw [if_neg hb0, if_neg c]
    exact h0 K hK
end Go.Proofs.Ytinpcalgdiigiaa.PD
