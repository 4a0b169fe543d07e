import Derived.Test.YtlmpdahiekflcaaDoorQParsicPDx1
/- Numbers in Go's own arithmetic, and the reference's way to bring n / 2^k into its form: plain lemmas on the printed functions. -/
namespace Go.Proofs.YtlmpdahiekflcaaDoor.PD
open Go.RowKit Go.Proofs.YtlmpdahiekflcaaDoorW.PrintWords Go.Proofs.YtlmpdahiekflcaaDoorW.PrintLast Go.Proofs.YtlmpdahiekflcaaDoorW.PrintMore
theorem w64 {x : Int} (h1 : -9223372036854775808 ≤ x) (h2 : x ≤ 9223372036854775807) : wrap64 x = x := by unfold wrap64; omega
theorem tmod_two {n : Int} : Int.tmod n 2 = 0 ↔ n % 2 = 0 :=
  ⟨fun h => Int.emod_eq_zero_of_dvd (Int.dvd_of_tmod_eq_zero h), fun h => Int.tmod_eq_zero_of_dvd (Int.dvd_of_emod_eq_zero h)⟩
theorem l1In_eq (a lo hi : Int) : spec_l1In.f a lo hi = some (decide (lo ≤ a ∧ a ≤ hi)) := by
  unfold spec_l1In.f
  by_cases h : lo ≤ a
  · rw [if_pos h]; simp [h]
  · rw [if_neg h]; simp [h]
theorem inside_eq (a lo hi : Int) : impl_inside.f a lo hi = some (decide (lo ≤ a ∧ a ≤ hi)) := by
  unfold impl_inside.f
  by_cases h : lo ≤ a
  · rw [if_pos h]; simp [h]
  · rw [if_neg h]; simp [h]
theorem isPlaces_eq (a : Int) : impl_isPlaces.f a = some (decide (0 ≤ a ∧ a ≤ 24)) := by
  unfold impl_isPlaces.f; rw [inside_eq]; rfl
/-- A valid dyadic number. -/
def good (n k : Int) : Bool := decide (0 ≤ k ∧ k ≤ 24 ∧ -1099511627776 ≤ n ∧ n ≤ 1099511627776 ∧ (k = 0 ∨ n % 2 ≠ 0))
theorem good_iff {n k : Int} : good n k = true ↔ 0 ≤ k ∧ k ≤ 24 ∧ -1099511627776 ≤ n ∧ n ≤ 1099511627776 ∧ (k = 0 ∨ n % 2 ≠ 0) := by
  unfold good; rw [decide_eq_true_iff]
theorem good_last (n k : Int) (h1 : 0 ≤ k ∧ k ≤ 24) (h2 : -1099511627776 ≤ n ∧ n ≤ 1099511627776) : (if k = 0 then (some true) else (some ((Int.tmod n 2) != 0))) = some (good n k) := by
  by_cases hk : k = 0
  · rw [if_pos hk]
    have : good n k = true := good_iff.2 ⟨h1.1, h1.2, h2.1, h2.2, .inl hk⟩
    rw [this]
  · rw [if_neg hk]
    congr 1
    by_cases hn : n % 2 = 0
    · rw [tmod_two.2 hn]
      have : good n k = false := by
        rw [Bool.eq_false_iff]; intro h
        have := (good_iff.1 h).2.2.2.2
        omega
      rw [this]; rfl
    · have h3 : Int.tmod n 2 ≠ 0 := fun h => hn (tmod_two.1 h)
      have : good n k = true := good_iff.2 ⟨h1.1, h1.2, h2.1, h2.2, .inr hn⟩
      rw [this]; simpa using h3
theorem dyGood_eq (n k : Int) : spec_dyGood.f n k = some (good n k) := by
  unfold spec_dyGood.f
  rw [l1In_eq]; simp only [Option.bind_some]
  by_cases h1 : 0 ≤ k ∧ k ≤ 24
  · rw [if_pos (by simpa using h1), l1In_eq]; simp only [Option.bind_some]
    by_cases h2 : -1099511627776 ≤ n ∧ n ≤ 1099511627776
    · rw [if_pos (by simpa using h2)]
      exact good_last n k h1 h2
    · rw [if_neg (by simpa using h2)]
      have : good n k = false := by
        rw [Bool.eq_false_iff]; intro h
        have := good_iff.1 h; omega
      rw [this]
  · rw [if_neg (by simpa using h1)]
    have : good n k = false := by
      rw [Bool.eq_false_iff]; intro h
      have := good_iff.1 h; omega
    rw [this]
theorem isDyadic_eq (n k : Int) : impl_isDyadic.f n k = some (good n k) := by
  unfold impl_isDyadic.f
  rw [isPlaces_eq]; simp only [Option.bind_some]
  by_cases h1 : 0 ≤ k ∧ k ≤ 24
  · rw [if_pos (by simpa using h1), inside_eq]; simp only [Option.bind_some]
    by_cases h2 : -1099511627776 ≤ n ∧ n ≤ 1099511627776
    · rw [if_pos (by simpa using h2)]
      exact good_last n k h1 h2
    · rw [if_neg (by simpa using h2)]
      have : good n k = false := by
        rw [Bool.eq_false_iff]; intro h
        have := good_iff.1 h; omega
      rw [this]
  · rw [if_neg (by simpa using h1)]
    have : good n k = false := by
      rw [Bool.eq_false_iff]; intro h
      have := good_iff.1 h; omega
    rw [this]
/-- n / 2^k in its form. -/
def redN : Nat → Int → Int × Nat
  | 0, n => (n, 0)
  | k + 1, n => if n % 2 = 0 then redN k (n / 2) else (n, k + 1)
def fin (n : Int) (k : Nat) : Int × Int × Bool := if good (redN k n).1 ((redN k n).2 : Int) = true then ((redN k n).1, ((redN k n).2 : Int), true) else (0, 0, false)
def mk (n : Int) (k : Nat) : Int × Int × Bool := if n = 0 then (0, 0, true) else fin n k
end Go.Proofs.YtlmpdahiekflcaaDoor.PD
