import Derived.Test.YtlhojnbllfmmoaaDoorQDyadxtPDx1
import Derived.Test.YtlhojnbllfmmoaaDoorQDyadxtMa
import Derived.Laws.BitsLemmas
/- Sums, comparisons, roundings and products of dyadic numbers: what the program computes and what the reference computes is one plain function: lemmas on the printed functions. -/
namespace Go.Proofs.YtlhojnbllfmmoaaDoor.PD
open Go.RowKit Go.Proofs.YtlhojnbllfmmoaaDoorW.PrintWords Go.Proofs.YtlhojnbllfmmoaaDoorW.PrintLast Go.Proofs.YtlhojnbllfmmoaaDoorW.PrintMore
def Small (n : Int) : Prop := -1099511627776 ≤ n ∧ n ≤ 1099511627776
instance small_dec (n : Int) : Decidable (Small n) := inferInstanceAs (Decidable (-1099511627776 ≤ n ∧ n ≤ 1099511627776))
theorem good_small {n k : Int} (h : good n k = true) : Small n := by have := good_iff.1 h; exact ⟨this.2.2.1, this.2.2.2.1⟩
/-- What both add: two numbers over one power of 2. -/
def over (a : Int) (ka kb : Nat) : Int := a * 2 ^ (max ka kb - ka)
/-! the reference's own way -/
/-! rounding -/
end Go.Proofs.YtlhojnbllfmmoaaDoor.PD
