import Derived.Test.YthanmlojikidbaaGreatQUnknnsPDx0
/- Numbers in Go's own arithmetic, and the reference's way to bring n / 2^k into its form: plain lemmas on the printed functions. -/
namespace Go.Proofs.YthanmlojikidbaaGreat.PD
open Go.RowKit Go.Proofs.YthanmlojikidbaaGreatW.PrintWords Go.Proofs.YthanmlojikidbaaGreatW.PrintLast Go.Proofs.YthanmlojikidbaaGreatW.PrintMore
theorem w64 {x : Int} (h1 : -9223372036854775808 ≤ x) (h2 : x ≤ 9223372036854775807) : wrap64 x = x := by unfold wrap64; omega
theorem l1In_eq (a lo hi : Int) : spec_l1In.f a lo hi = some (decide (lo ≤ a ∧ a ≤ hi)) := by
  unfold spec_l1In.f
  by_cases h : lo ≤ a
  · rw [if_pos h]; simp [h]
  · rw [if_neg h]; simp [h]
theorem inside_eq (a lo hi : Int) : impl_inside.f a lo hi = some (decide (lo ≤ a ∧ a ≤ hi)) := by
  unfold impl_inside.f
  by_cases h : lo ≤ a
  · rw [if_pos h]; simp [h]
  · rw [if_neg h]; simp [h]
/-- A valid dyadic number. -/
def good (n k : Int) : Bool := decide (0 ≤ k ∧ k ≤ 24 ∧ -1099511627776 ≤ n ∧ n ≤ 1099511627776 ∧ (k = 0 ∨ n % 2 ≠ 0))
/-- n / 2^k in its form. -/
def redN : Nat → Int → Int × Nat
  | 0, n => (n, 0)
  | k + 1, n => if n % 2 = 0 then redN k (n / 2) else (n, k + 1)
def fin (n : Int) (k : Nat) : Int × Int × Bool := if good (redN k n).1 ((redN k n).2 : Int) = true then ((redN k n).1, ((redN k n).2 : Int), true) else (0, 0, false)
def mk (n : Int) (k : Nat) : Int × Int × Bool := if n = 0 then (0, 0, true) else fin n k
end Go.Proofs.YthanmlojikidbaaGreat.PD
