import Derived.Test.YtgaoniapddpaaaaQHalvOfPDx1
import Derived.Test.YtgaoniapddpaaaaQHalvOfMa
import Derived.Laws.BitsLemmas
/- Sums, comparisons, roundings and products of dyadic numbers: what the program computes and what the reference computes is one plain function: lemmas on the printed functions. -/
namespace Go.Proofs.Ytgaoniapddpaaaa.PD
open Go.RowKit Go.Proofs.YtgaoniapddpaaaaW.PrintWords Go.Proofs.YtgaoniapddpaaaaW.PrintLast Go.Proofs.YtgaoniapddpaaaaW.PrintMore
def Small (n : Int) : Prop := -1099511627776 ≤ n ∧ n ≤ 1099511627776
instance small_dec (n : Int) : Decidable (Small n) := inferInstanceAs (Decidable (-1099511627776 ≤ n ∧ n ≤ 1099511627776))
/-- What both add: two numbers over one power of 2. -/
def over (a : Int) (ka kb : Nat) : Int := a * 2 ^ (max ka kb - ka)
end Go.Proofs.Ytgaoniapddpaaaa.PD
