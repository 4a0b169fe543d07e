import Derived.Test.YtlhojnbllfmmoaaDoorQIntextPDx1
import Derived.Test.YtlhojnbllfmmoaaDoorQIntextMa
import Derived.Laws.BitsLemmas
/- The program's wide numbers: sizes, shifts, sums, comparisons, products, and how they come into the form of a dyadic number: plain lemmas on the printed functions. -/
namespace Go.Proofs.YtlhojnbllfmmoaaDoor.PD
open Go.RowKit Go.Proofs.YtlhojnbllfmmoaaDoorW.PrintWords Go.Proofs.YtlhojnbllfmmoaaDoorW.PrintLast Go.Proofs.YtlhojnbllfmmoaaDoorW.PrintMore
/-- A sign and an absolute value. -/
def sg (neg : Bool) (m : Int) : Int := if neg = true then -m else m
theorem sg_true (m : Int) : sg true m = -m := rfl
theorem sg_false (m : Int) : sg false m = m := rfl
/-- The two words of a wide number. -/
structure Wide (h l : Int) : Prop where
  h0 : 0 ≤ h
  h1 : h < 18446744073709551616
  l0 : 0 ≤ l
  l1 : l < 18446744073709551616
def num (h l : Int) : Int := h * 18446744073709551616 + l
theorem size_eq {n : Int} (h1 : -9223372036854775808 ≤ n) (h2 : n ≤ 9223372036854775807) : impl_size.f n = some (if n < 0 then -n else n) := by
  unfold impl_size.f
  by_cases h : n < 0
  · rw [if_pos h, if_pos h]
    by_cases he : n = -9223372036854775808
    · subst he; rw [u64w]; unfold wrap64; congr 1
    · rw [w64 (by omega) (by omega), u64s (by omega) (by omega)]
  · rw [if_neg h, if_neg h, u64s (by omega) (by omega)]
theorem wideOf_eq {n : Int} (h1 : -9223372036854775808 ≤ n) (h2 : n ≤ 9223372036854775807) : impl_wideOf.f n = some (decide (n < 0), 0, if n < 0 then -n else n) := by
  unfold impl_wideOf.f; rw [size_eq h1 h2]; rfl
theorem wideOf_ev {n : Int} (h1 : -9223372036854775808 ≤ n) (h2 : n ≤ 9223372036854775807) : ∃ l, impl_wideOf.f n = some (decide (n < 0), 0, l) ∧ 0 ≤ l ∧ l ≤ 9223372036854775808 ∧ sg (decide (n < 0)) l = n ∧ (l = n ∨ l = -n) := by
  refine ⟨_, wideOf_eq h1 h2, ?_⟩
  unfold sg
  by_cases h : n < 0
  · rw [if_pos h, if_pos (by simpa using h)]; omega
  · rw [if_neg h, if_neg (by simpa using h)]; omega
theorem isZero_eq (n : Bool) (h l : Int) : impl_wide_isZero.f n h l = some (decide (h = 0 ∧ l = 0)) := by
  unfold impl_wide_isZero.f
  by_cases hh : h = 0
  · rw [if_pos hh]; by_cases hl : l = 0 <;> simp [hh, hl]
  · rw [if_neg hh]; simp [hh]
theorem pow_cast (s : Nat) : (2 : Int) ^ s = ((2 ^ s : Nat) : Int) := by simp
theorem pow_pos (s : Nat) : (0 : Int) < 2 ^ s := by
  rw [pow_cast]; have := Nat.two_pow_pos s; omega
theorem pow_split {s : Nat} (h : s ≤ 64) : (2 : Int) ^ s * 2 ^ (64 - s) = 18446744073709551616 := by
  rw [← Int.pow_add, show s + (64 - s) = 64 by omega]; rfl
theorem u64_wraps (n : Int) (h₀ : 0 ≤ n) (h₁ : n < 2 ^ 64) : IntKind.u64.wrap n = n := by
  have e : (2 : Int) ^ 64 = 18446744073709551616 := rfl
  rw [e] at h₁
  exact u64s h₀ h₁
theorem u64_join (i : Nat) {x y : Int} (hx0 : 0 ≤ x) (hx : x % 2 ^ i = 0) (hx1 : x < 18446744073709551616) (hy0 : 0 ≤ y) (hy : y < 2 ^ i) (hy1 : y < 18446744073709551616) : Go.bits .or .u64 x y = x + y := by
  have e : (2 : Int) ^ 64 = 18446744073709551616 := rfl
  exact bits_join .u64 64 (by decide) u64_wraps i x y hx0 hx (by rw [e]; exact hx1) hy0 hy (by rw [e]; exact hy1)
theorem shl_u64 {x : Int} {s : Nat} (h : s ≤ 64) : shl .u64 x (s : Int) = (x * 2 ^ s) % 18446744073709551616 := by
  unfold shl; rw [Int.toNat_natCast, Nat.min_eq_left (by show s ≤ 64; omega), u64w]
theorem shr_u64 {x : Int} {s : Nat} (h : s ≤ 64) : shr .u64 x (s : Int) = x / 2 ^ s := by
  unfold shr; rw [Int.toNat_natCast, Nat.min_eq_left (by show s ≤ 64; omega)]
/-- To the left by less than a word, where nothing is lost. -/
theorem shiftL {n : Bool} {h l : Int} (W : Wide h l) {s : Nat} (hs : s < 64) (hm : num h l * 2 ^ s < 340282366920938463463374607431768211456) :
    ∃ h' l', impl_wide_shift.f n h l (s : Int) = some (n, h', l') ∧ Wide h' l' ∧ num h' l' = num h l * 2 ^ s := by
  obtain ⟨h0, h1, l0, l1⟩ := W
  have hp := pow_pos s
  have hq := pow_pos (64 - s)
  have hpq := pow_split (s := s) (by omega)
  unfold num at hm ⊢
  have e1 : (h * 18446744073709551616 + l) * 2 ^ s = h * 2 ^ s * 18446744073709551616 + l * 2 ^ s := by
    rw [Int.add_mul, Int.mul_right_comm]
  rw [e1] at hm ⊢
  have hhp : 0 ≤ h * 2 ^ s := Int.mul_nonneg h0 (by omega)
  have hlp : 0 ≤ l * 2 ^ s := Int.mul_nonneg l0 (by omega)
  have e2 : l / 2 ^ (64 - s) = l * 2 ^ s / 18446744073709551616 := by
    rw [← hpq, Int.mul_comm ((2 : Int) ^ s) (2 ^ (64 - s)), Int.mul_ediv_mul_of_pos_left _ _ hp]
  have hlq : l / 2 ^ (64 - s) < 2 ^ s := by
    apply Int.ediv_lt_of_lt_mul hq
    rw [hpq]; exact l1
  have hlq0 : 0 ≤ l / 2 ^ (64 - s) := Int.ediv_nonneg l0 (by omega)
  have hps : (2 : Int) ^ s < 18446744073709551616 := by
    have h2 : (2 : Int) ^ s * 1 < 2 ^ s * 2 ^ (64 - s) := by
      apply Int.mul_lt_mul_of_pos_left _ hp
      have := Nat.pow_lt_pow_right (show 1 < 2 by decide) (show 0 < 64 - s by omega)
      rw [pow_cast]; omega
    rw [hpq, Int.mul_one] at h2; exact h2
  refine ⟨h * 2 ^ s + l / 2 ^ (64 - s), (l * 2 ^ s) % 18446744073709551616, ?_, ⟨by omega, by omega, by omega, by omega⟩, by omega⟩
  unfold impl_wide_shift.f
  rw [if_pos (by omega), if_neg (by omega), if_pos (by omega), w64 (by omega) (by omega), if_pos (by omega),
    show (64 : Int) - (s : Int) = ((64 - s : Nat) : Int) by omega, shl_u64 (by omega), shl_u64 (by omega), shr_u64 (by omega),
    Int.emod_eq_of_lt hhp (by omega)]
  rw [u64_join s hhp (Int.mul_emod_left _ _) (by omega) hlq0 hlq (by omega)]
/-! comparing -/
def cmpI (a b : Int) : Int := if a < b then -1 else if b < a then 1 else 0
theorem compareU (a b : Int) : cmp_Compare_uint64.f a b = some (cmpI a b) := by
  unfold cmp_Compare_uint64.f cmp_isNaN_uint64.f cmpI
  simp only [bne_self_eq_false, Option.bind_some, Bool.false_eq_true, if_false]
  by_cases h : a < b
  · rw [if_pos h, if_pos h]
  · rw [if_neg h, if_neg h]
    by_cases h2 : b < a
    · rw [if_pos h2, if_pos h2]
    · rw [if_neg h2, if_neg h2]
theorem or_ev (a b : Int) : Ev (fun K => cmp_Or_int.f K [a, b]) (if a = 0 then b else a) := by
  refine ⟨3, fun K hK => ?_⟩
  obtain ⟨K, rfl⟩ : ∃ m, K = m + 1 + 1 + 1 := ⟨K - 3, by omega⟩
  have r0 : rd [a, b] 0 = a := rfl
  have r1 : rd [a, b] 1 = b := rfl
  have w0 : wrap64 (0 + 1) = 1 := by unfold wrap64; omega
  have w1 : wrap64 (1 + 1) = 2 := by unfold wrap64; omega
  unfold cmp_Or_int.f
  simp only [List.length_cons, List.length_nil]
  simp only [cmp_Or_int.l0]
  rw [if_pos (by simp), if_pos (by decide), if_pos (by simp), r0]
  by_cases ha : a = 0
  · rw [if_pos ha, if_pos ha, w0, if_pos (by simp), if_pos (by decide), if_pos (by simp), r1, w1]
    by_cases hb : b = 0
    · rw [if_pos hb, if_neg (by simp), hb]
    · rw [if_neg hb]
  · rw [if_neg ha, if_neg ha]
theorem compareSizes_ev {n0 n1 : Bool} {h0 l0 h1 l1 : Int} (W0 : Wide h0 l0) (W1 : Wide h1 l1) : Ev (fun K => impl_compareSizes.f K n0 h0 l0 n1 h1 l1) (cmpI (num h0 l0) (num h1 l1)) := by
  have e : cmpI (num h0 l0) (num h1 l1) = if cmpI h0 h1 = 0 then cmpI l0 l1 else cmpI h0 h1 := by
    obtain ⟨a0, a1, a2, a3⟩ := W0
    obtain ⟨b0, b1, b2, b3⟩ := W1
    unfold cmpI num
    rcases Int.lt_trichotomy h0 h1 with h | h | h
    · rw [if_pos (show h0 < h1 from h), if_pos (by omega), if_neg (by decide)]
    · subst h
      rw [if_neg (Int.lt_irrefl _), if_neg (Int.lt_irrefl _), if_pos rfl]
      rcases Int.lt_trichotomy l0 l1 with h | h | h
      · rw [if_pos (by omega), if_pos h]
      · subst h; rw [if_neg (Int.lt_irrefl _), if_neg (Int.lt_irrefl _), if_neg (Int.lt_irrefl _), if_neg (Int.lt_irrefl _)]
      · rw [if_neg (by omega), if_pos (by omega), if_neg (by omega), if_pos h]
    · rw [if_neg (show ¬ h0 < h1 by omega), if_pos (show h1 < h0 from h), if_neg (by omega), if_pos (by omega), if_neg (by decide)]
  rw [e]
  obtain ⟨K0, hk⟩ := or_ev (cmpI h0 h1) (cmpI l0 l1)
  refine ⟨K0, fun K hK => ?_⟩
  dsimp only at hk ⊢
  unfold impl_compareSizes.f
  rw [compareU, compareU]; simp only [Option.bind_some]
  rw [hk K hK]; rfl
theorem compareWide_ev {n0 n1 : Bool} {h0 l0 h1 l1 : Int} (W0 : Wide h0 l0) (W1 : Wide h1 l1) : Ev (fun K => impl_compareWide.f K n0 h0 l0 n1 h1 l1) (cmpI (sg n0 (num h0 l0)) (sg n1 (num h1 l1))) := by
  obtain ⟨K0, hk0⟩ := compareSizes_ev (n0 := n0) (n1 := n1) W0 W1
  obtain ⟨K1, hk1⟩ := compareSizes_ev (n0 := n1) (n1 := n0) W1 W0
  dsimp only at hk0 hk1
  have z0 : (h0 = 0 ∧ l0 = 0) ↔ num h0 l0 = 0 := by unfold num; obtain ⟨_, _, _, _⟩ := W0; omega
  have z1 : (h1 = 0 ∧ l1 = 0) ↔ num h1 l1 = 0 := by unfold num; obtain ⟨_, _, _, _⟩ := W1; omega
  have p0 : 0 ≤ num h0 l0 := by unfold num; obtain ⟨_, _, _, _⟩ := W0; omega
  have p1 : 0 ≤ num h1 l1 := by unfold num; obtain ⟨_, _, _, _⟩ := W1; omega
  have key : ∀ K, K0 + K1 + 1 ≤ K → ∀ b : Bool, (b = true ↔ (num h0 l0 = 0 ∧ num h1 l1 = 0)) → impl_compareWide.j0 K b n0 h0 l0 n1 h1 l1 = some (cmpI (sg n0 (num h0 l0)) (sg n1 (num h1 l1))) := by
    intro K hK b hb
    obtain ⟨K, rfl⟩ : ∃ m, K = m + 1 := ⟨K - 1, by omega⟩
    simp only [impl_compareWide.j0]
    generalize num h0 l0 = x at *
    generalize num h1 l1 = y at *
    by_cases hz : b = true
    · rw [if_pos hz]
      obtain ⟨rfl, rfl⟩ := hb.1 hz
      cases n0 <;> cases n1 <;> rfl
    · rw [if_neg hz]
      have hne : ¬ (x = 0 ∧ y = 0) := fun h => hz (hb.2 h)
      cases n0 <;> cases n1
      · rw [if_neg (by decide), if_neg (by decide), hk0 K (by omega)]; rfl
      · rw [if_pos (by decide), if_neg (by decide)]
        unfold cmpI; rw [sg_false, sg_true, if_neg (by omega), if_pos (by omega)]
      · rw [if_pos (by decide), if_pos rfl]
        unfold cmpI; rw [sg_false, sg_true, if_pos (by omega)]
      · rw [if_neg (by decide), if_pos rfl, hk1 K (by omega)]
        simp only [Option.bind_some, sg_true]
        unfold cmpI
        congr 1
        by_cases h : y < x
        · rw [if_pos h, if_pos (by omega)]
        · rw [if_neg h, if_neg (show ¬ -x < -y by omega)]
          by_cases h : x < y
          · rw [if_pos h, if_pos (by omega)]
          · rw [if_neg h, if_neg (by omega)]
  refine ⟨K0 + K1 + 1, fun K hK => ?_⟩
  dsimp only
  unfold impl_compareWide.f
  rw [isZero_eq, isZero_eq]; simp only [Option.bind_some]
  by_cases h : h0 = 0 ∧ l0 = 0
  · rw [if_pos (by simpa using h)]
    refine key K hK _ ?_
    rw [decide_eq_true_iff, z1]
    exact ⟨fun h2 => ⟨z0.1 h, h2⟩, fun h2 => h2.2⟩
  · rw [if_neg (by simpa using h)]
    refine key K hK _ ⟨fun h => (by cases h), fun h2 => absurd (z0.2 h2.1) h⟩
/-! products -/
end Go.Proofs.YtlhojnbllfmmoaaDoor.PD
