import Derived.Test.YtgaoniapddpaaaaQHalvOfPDx1
/- Numbers in Go's own arithmetic, and the reference's way to bring n / 2^k into its form: plain lemmas on the printed functions. -/
namespace Go.Proofs.Ytgaoniapddpaaaa.PD
open Go.RowKit Go.Proofs.YtgaoniapddpaaaaW.PrintWords Go.Proofs.YtgaoniapddpaaaaW.PrintLast Go.Proofs.YtgaoniapddpaaaaW.PrintMore
theorem w64 {x : Int} (h1 : -9223372036854775808 ≤ x) (h2 : x ≤ 9223372036854775807) : wrap64 x = x := by unfold wrap64; omega
theorem u64w (n : Int) : IntKind.u64.wrap n = n % 18446744073709551616 := by simp [IntKind.wrap, IntKind.bits, IntKind.signed]
theorem u64s {n : Int} (h0 : 0 ≤ n) (h1 : n < 18446744073709551616) : IntKind.u64.wrap n = n := by rw [u64w]; omega
theorem tmod_two {n : Int} : Int.tmod n 2 = 0 ↔ n % 2 = 0 :=
  ⟨fun h => Int.emod_eq_zero_of_dvd (Int.dvd_of_tmod_eq_zero h), fun h => Int.tmod_eq_zero_of_dvd (Int.dvd_of_emod_eq_zero h)⟩
theorem l1In_eq (a lo hi : Int) : spec_l1In.f a lo hi = some (decide (lo ≤ a ∧ a ≤ hi)) := by
  unfold spec_l1In.f
  by_cases h : lo ≤ a
  · rw [if_pos h]; simp [h]
  · rw [if_neg h]; simp [h]
theorem inside_eq (a lo hi : Int) : impl_inside.f a lo hi = some (decide (lo ≤ a ∧ a ≤ hi)) := by
  unfold impl_inside.f
  by_cases h : lo ≤ a
  · rw [if_pos h]; simp [h]
  · rw [if_neg h]; simp [h]
/-- A valid dyadic number. -/
def good (n k : Int) : Bool := decide (0 ≤ k ∧ k ≤ 24 ∧ -1099511627776 ≤ n ∧ n ≤ 1099511627776 ∧ (k = 0 ∨ n % 2 ≠ 0))
/-- n / 2^k in its form. -/
def redN : Nat → Int → Int × Nat
  | 0, n => (n, 0)
  | k + 1, n => if n % 2 = 0 then redN k (n / 2) else (n, k + 1)
def fin (n : Int) (k : Nat) : Int × Int × Bool := if good (redN k n).1 ((redN k n).2 : Int) = true then ((redN k n).1, ((redN k n).2 : Int), true) else (0, 0, false)
def mk (n : Int) (k : Nat) : Int × Int × Bool := if n = 0 then (0, 0, true) else fin n k
theorem shl_one (k : Nat) (h : k ≤ 62) : shl .i64 1 (k : Int) = 2 ^ k := by
  have hp : (2 : Int) ^ k ≤ 2 ^ 62 := by
    have := Nat.pow_le_pow_right (show 0 < 2 by decide) h
    exact_mod_cast this
  have hp0 : (0 : Int) < 2 ^ k := by
    have := Nat.two_pow_pos k
    exact_mod_cast this
  unfold shl
  rw [Int.toNat_natCast, Nat.min_eq_left (by show k ≤ 64; omega), Int.one_mul, i64_w, w64 (by omega) (by
    have : (2 : Int) ^ 62 = 4611686018427387904 := by decide
    omega)]
theorem dyPower_eq (k : Nat) (h : k ≤ 62) : spec_dyPower.f (k : Int) = some (2 ^ k) := by
  unfold spec_dyPower.f
  rw [u64s (by omega) (by omega), if_pos (by omega), shl_one k h]
end Go.Proofs.Ytgaoniapddpaaaa.PD
