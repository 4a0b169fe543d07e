import Derived.Test.YtlmpdahiekflcaaDoorQParsicPDx1
import Derived.Test.YtlmpdahiekflcaaDoorQParsicMb
/- Sums, comparisons, roundings and products of dyadic numbers: what the program computes and what the reference computes is one plain function: lemmas on the printed functions. -/
namespace Go.Proofs.YtlmpdahiekflcaaDoor.PD
open Go.RowKit Go.Proofs.YtlmpdahiekflcaaDoorW.PrintWords Go.Proofs.YtlmpdahiekflcaaDoorW.PrintLast Go.Proofs.YtlmpdahiekflcaaDoorW.PrintMore
def Small (n : Int) : Prop := -1099511627776 ≤ n ∧ n ≤ 1099511627776
instance small_dec (n : Int) : Decidable (Small n) := inferInstanceAs (Decidable (-1099511627776 ≤ n ∧ n ≤ 1099511627776))
theorem good_small {n k : Int} (h : good n k = true) : Small n := by have := good_iff.1 h; exact ⟨this.2.2.1, this.2.2.2.1⟩
/-- What both add: two numbers over one power of 2. -/
def over (a : Int) (ka kb : Nat) : Int := a * 2 ^ (max ka kb - ka)
end Go.Proofs.YtlmpdahiekflcaaDoor.PD
