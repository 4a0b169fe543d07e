import Derived.Test.YthgalpfnfidcdaaQDivideDownPDx1
import Derived.Test.YthgalpfnfidcdaaQDivideDownMb
/- Sums, comparisons, roundings and products of dyadic numbers: what the program computes and what the reference computes is one plain function: lemmas on the printed functions. -/
namespace Go.Proofs.Ythgalpfnfidcdaa.PD
open Go.RowKit Go.Proofs.YthgalpfnfidcdaaW.PrintWords Go.Proofs.YthgalpfnfidcdaaW.PrintLast Go.Proofs.YthgalpfnfidcdaaW.PrintMore
/-- As Option.bind_some, but no rfl lemma: the kernel is not asked to unfold the callee. -/
theorem bs {α β : Type} (a : α) (f : α → Option β) : (some a).bind f = f a := id (Option.bind_some a f)
def Small (n : Int) : Prop := -1099511627776 ≤ n ∧ n ≤ 1099511627776
instance small_dec (n : Int) : Decidable (Small n) := inferInstanceAs (Decidable (-1099511627776 ≤ n ∧ n ≤ 1099511627776))
theorem good_small {n k : Int} (h : good n k = true) : Small n := by have := good_iff.1 h; exact ⟨this.2.2.1, this.2.2.2.1⟩
theorem good_k {n k : Int} (h : good n k = true) : ∃ j : Nat, k = (j : Int) ∧ j ≤ 24 := by
  have := good_iff.1 h
  exact ⟨k.toNat, by omega, by omega⟩
theorem pow_le {a b : Nat} (h : a ≤ b) : (2 : Int) ^ a ≤ 2 ^ b := by
  rw [pow_cast, pow_cast]; exact_mod_cast Nat.pow_le_pow_right (show 0 < 2 by decide) h
theorem sg_mul (n : Bool) (m c : Int) : sg n (m * c) = sg n m * c := by unfold sg; split <;> simp [Int.neg_mul]
/-- What both add: two numbers over one power of 2. -/
def over (a : Int) (ka kb : Nat) : Int := a * 2 ^ (max ka kb - ka)
/-! the reference's own way -/
/-! rounding -/
theorem dyMinus_eq {n : Int} (hn : Small n) (k : Int) : spec_dyMinus.f n k = some (-n, k) := by
  obtain ⟨h1, h2⟩ := hn
  unfold spec_dyMinus.f; rw [w64 (by omega) (by omega)]
theorem small_neg {n : Int} (hn : Small n) : Small (-n) := ⟨by have := hn.2; omega, by have := hn.1; omega⟩
theorem dyTwo_eq (a k b j : Int) : spec_dyTwo.f a k b j = some (good a k && good b j) := by
  unfold spec_dyTwo.f
  rw [dyGood_eq, dyGood_eq]; simp only [Option.bind_some]
  cases good a k <;> rfl
theorem eqD_self (a b : Int) : laws_eqDyadic.f a b a b = some true := by unfold laws_eqDyadic.f; rw [if_pos rfl, if_pos rfl]
/-- Where both come to one answer, the law answers true. -/
theorem law_d {f g : Nat → Option (Int × Int × Bool)} {r : Int × Int × Bool} (hf : Ev f r) (hg : Ev g r) :
    ∃ k, ((f k).bind fun b => ((g k).bind fun c => ((laws_eqDyadic.f c.1 c.2.1 b.1 b.2.1).bind fun t => (if t = true then (if (c.2.2 != b.2.2) = true then (none) else (some true)) else (none))))) = some true := by
  obtain ⟨K0, h0⟩ := hf
  obtain ⟨K1, h1⟩ := hg
  refine ⟨K0 + K1, ?_⟩
  rw [h0 _ (by omega)]; simp only [Option.bind_some]
  rw [h1 _ (by omega)]; simp only [Option.bind_some]
  rw [eqD_self]; simp only [Option.bind_some, if_true]
  rw [if_neg (by simp)]
end Go.Proofs.Ythgalpfnfidcdaa.PD
