import Derived.Test.YtlhojnbllfmmoaaDoorQIntextPDx1
/- Numbers in Go's own arithmetic, and the reference's way to bring n / 2^k into its form: plain lemmas on the printed functions. -/
namespace Go.Proofs.YtlhojnbllfmmoaaDoor.PD
open Go.RowKit Go.Proofs.YtlhojnbllfmmoaaDoorW.PrintWords Go.Proofs.YtlhojnbllfmmoaaDoorW.PrintLast Go.Proofs.YtlhojnbllfmmoaaDoorW.PrintMore
theorem w64 {x : Int} (h1 : -9223372036854775808 ≤ x) (h2 : x ≤ 9223372036854775807) : wrap64 x = x := by unfold wrap64; omega
theorem u64w (n : Int) : IntKind.u64.wrap n = n % 18446744073709551616 := by simp [IntKind.wrap, IntKind.bits, IntKind.signed]
theorem u64s {n : Int} (h0 : 0 ≤ n) (h1 : n < 18446744073709551616) : IntKind.u64.wrap n = n := by rw [u64w]; omega
theorem tmod_two {n : Int} : Int.tmod n 2 = 0 ↔ n % 2 = 0 :=
  ⟨fun h => Int.emod_eq_zero_of_dvd (Int.dvd_of_tmod_eq_zero h), fun h => Int.tmod_eq_zero_of_dvd (Int.dvd_of_emod_eq_zero h)⟩
/-- A quotient rounded down, by a number above 0: its bounds. -/
theorem ediv_between {a b : Int} (hb : 0 < b) : (0 ≤ a → 0 ≤ a / b ∧ a / b ≤ a) ∧ (a < 0 → a ≤ a / b ∧ a / b < 0) := by
  refine ⟨fun h => ⟨Int.ediv_nonneg h (by omega), Int.ediv_le_self _ h⟩, fun h => ⟨?_, Int.ediv_neg_of_neg_of_pos h hb⟩⟩
  apply Int.le_ediv_of_mul_le hb
  have h1 : (-a) * 1 ≤ (-a) * b := Int.mul_le_mul_of_nonneg_left (by omega) (by omega)
  rw [Int.mul_one, Int.neg_mul] at h1
  omega
theorem ediv_range {a b : Int} (hb : 0 < b) (h1 : -9223372036854775808 ≤ a) (h2 : a ≤ 9223372036854775807) : -9223372036854775808 ≤ a / b ∧ a / b ≤ 9223372036854775807 := by
  have := ediv_between (a := a) hb
  rcases Int.lt_or_le a 0 with h | h
  · have := this.2 h; omega
  · have := this.1 h; omega
theorem l1In_eq (a lo hi : Int) : spec_l1In.f a lo hi = some (decide (lo ≤ a ∧ a ≤ hi)) := by
  unfold spec_l1In.f
  by_cases h : lo ≤ a
  · rw [if_pos h]; simp [h]
  · rw [if_neg h]; simp [h]
theorem inside_eq (a lo hi : Int) : impl_inside.f a lo hi = some (decide (lo ≤ a ∧ a ≤ hi)) := by
  unfold impl_inside.f
  by_cases h : lo ≤ a
  · rw [if_pos h]; simp [h]
  · rw [if_neg h]; simp [h]
theorem isPlaces_eq (a : Int) : impl_isPlaces.f a = some (decide (0 ≤ a ∧ a ≤ 24)) := by
  unfold impl_isPlaces.f; rw [inside_eq]; rfl
/-- A valid dyadic number. -/
def good (n k : Int) : Bool := decide (0 ≤ k ∧ k ≤ 24 ∧ -1099511627776 ≤ n ∧ n ≤ 1099511627776 ∧ (k = 0 ∨ n % 2 ≠ 0))
theorem good_iff {n k : Int} : good n k = true ↔ 0 ≤ k ∧ k ≤ 24 ∧ -1099511627776 ≤ n ∧ n ≤ 1099511627776 ∧ (k = 0 ∨ n % 2 ≠ 0) := by
  unfold good; rw [decide_eq_true_iff]
theorem good_last (n k : Int) (h1 : 0 ≤ k ∧ k ≤ 24) (h2 : -1099511627776 ≤ n ∧ n ≤ 1099511627776) : (if k = 0 then (some true) else (some ((Int.tmod n 2) != 0))) = some (good n k) := by
  by_cases hk : k = 0
  · rw [if_pos hk]
    have : good n k = true := good_iff.2 ⟨h1.1, h1.2, h2.1, h2.2, .inl hk⟩
    rw [this]
  · rw [if_neg hk]
    congr 1
    by_cases hn : n % 2 = 0
    · rw [tmod_two.2 hn]
      have : good n k = false := by
        rw [Bool.eq_false_iff]; intro h
        have := (good_iff.1 h).2.2.2.2
        omega
      rw [this]; rfl
    · have h3 : Int.tmod n 2 ≠ 0 := fun h => hn (tmod_two.1 h)
      have : good n k = true := good_iff.2 ⟨h1.1, h1.2, h2.1, h2.2, .inr hn⟩
      rw [this]; simpa using h3
theorem dyGood_eq (n k : Int) : spec_dyGood.f n k = some (good n k) := by
  unfold spec_dyGood.f
  rw [l1In_eq]; simp only [Option.bind_some]
  by_cases h1 : 0 ≤ k ∧ k ≤ 24
  · rw [if_pos (by simpa using h1), l1In_eq]; simp only [Option.bind_some]
    by_cases h2 : -1099511627776 ≤ n ∧ n ≤ 1099511627776
    · rw [if_pos (by simpa using h2)]
      exact good_last n k h1 h2
    · rw [if_neg (by simpa using h2)]
      have : good n k = false := by
        rw [Bool.eq_false_iff]; intro h
        have := good_iff.1 h; omega
      rw [this]
  · rw [if_neg (by simpa using h1)]
    have : good n k = false := by
      rw [Bool.eq_false_iff]; intro h
      have := good_iff.1 h; omega
    rw [this]
theorem isDyadic_eq (n k : Int) : impl_isDyadic.f n k = some (good n k) := by
  unfold impl_isDyadic.f
  rw [isPlaces_eq]; simp only [Option.bind_some]
  by_cases h1 : 0 ≤ k ∧ k ≤ 24
  · rw [if_pos (by simpa using h1), inside_eq]; simp only [Option.bind_some]
    by_cases h2 : -1099511627776 ≤ n ∧ n ≤ 1099511627776
    · rw [if_pos (by simpa using h2)]
      exact good_last n k h1 h2
    · rw [if_neg (by simpa using h2)]
      have : good n k = false := by
        rw [Bool.eq_false_iff]; intro h
        have := good_iff.1 h; omega
      rw [this]
  · rw [if_neg (by simpa using h1)]
    have : good n k = false := by
      rw [Bool.eq_false_iff]; intro h
      have := good_iff.1 h; omega
    rw [this]
/-- n / 2^k in its form. -/
def redN : Nat → Int → Int × Nat
  | 0, n => (n, 0)
  | k + 1, n => if n % 2 = 0 then redN k (n / 2) else (n, k + 1)
def fin (n : Int) (k : Nat) : Int × Int × Bool := if good (redN k n).1 ((redN k n).2 : Int) = true then ((redN k n).1, ((redN k n).2 : Int), true) else (0, 0, false)
def mk (n : Int) (k : Nat) : Int × Int × Bool := if n = 0 then (0, 0, true) else fin n k
theorem dyDown_eq {a b : Int} (hb : 0 < b) (h1 : -9223372036854775808 ≤ a) (h2 : a ≤ 9223372036854775807) : spec_dyDown.f a b = some (a / b) := by
  have hr := ediv_range hb h1 h2
  have hbt := ediv_between (a := a) hb
  unfold spec_dyDown.f
  rw [if_neg (by omega)]
  by_cases hc : 0 ≤ a ∨ b ∣ a
  · have e1 : Int.tmod a b = a % b := by rw [Int.tmod_eq_emod, if_pos hc]; omega
    have e2 : Int.tdiv a b = a / b := by rw [Int.tdiv_eq_ediv, if_pos hc]; omega
    have := Int.emod_nonneg a (show b ≠ 0 by omega)
    rw [e1, if_neg (by omega), e2, w64 hr.1 hr.2]
  · have e1 : Int.tmod a b = a % b - b := by
      rw [Int.tmod_eq_emod, if_neg hc]
      omega
    have e2 : Int.tdiv a b = a / b + 1 := by
      rw [Int.tdiv_eq_ediv, if_neg hc, Int.sign_eq_one_of_pos hb]
    have := Int.emod_lt_of_pos a hb
    have hneg : a < 0 := by omega
    have := hbt.2 hneg
    rw [e1, if_pos (by omega), e2, w64 (x := a / b + 1) (by omega) (by omega), w64 (by omega) (by omega)]
    congr 1; omega
theorem shl_one (k : Nat) (h : k ≤ 62) : shl .i64 1 (k : Int) = 2 ^ k := by
  have hp : (2 : Int) ^ k ≤ 2 ^ 62 := by
    have := Nat.pow_le_pow_right (show 0 < 2 by decide) h
    exact_mod_cast this
  have hp0 : (0 : Int) < 2 ^ k := by
    have := Nat.two_pow_pos k
    exact_mod_cast this
  unfold shl
  rw [Int.toNat_natCast, Nat.min_eq_left (by show k ≤ 64; omega), Int.one_mul, i64_w, w64 (by omega) (by
    have : (2 : Int) ^ 62 = 4611686018427387904 := by decide
    omega)]
theorem dyPower_eq (k : Nat) (h : k ≤ 62) : spec_dyPower.f (k : Int) = some (2 ^ k) := by
  unfold spec_dyPower.f
  rw [u64s (by omega) (by omega), if_pos (by omega), shl_one k h]
end Go.Proofs.YtlhojnbllfmmoaaDoor.PD
