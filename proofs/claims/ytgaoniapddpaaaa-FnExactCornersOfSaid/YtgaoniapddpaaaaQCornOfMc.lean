import Derived.Test.YtgaoniapddpaaaaQCornOfPDx1
import Derived.Test.YtgaoniapddpaaaaQCornOfMb
/- Sums, comparisons, roundings and products of dyadic numbers: what the program computes and what the reference computes is one plain function: lemmas on the printed functions. -/
namespace Go.Proofs.Ytgaoniapddpaaaa.PD
open Go.RowKit Go.Proofs.YtgaoniapddpaaaaW.PrintWords Go.Proofs.YtgaoniapddpaaaaW.PrintLast Go.Proofs.YtgaoniapddpaaaaW.PrintMore
def Small (n : Int) : Prop := -1099511627776 ≤ n ∧ n ≤ 1099511627776
instance small_dec (n : Int) : Decidable (Small n) := inferInstanceAs (Decidable (-1099511627776 ≤ n ∧ n ≤ 1099511627776))
/-- What both add: two numbers over one power of 2. -/
def over (a : Int) (ka kb : Nat) : Int := a * 2 ^ (max ka kb - ka)
theorem wide_fit {n : Int} (hn : Small n) {p : Nat} (hp : p ≤ 100) : ∃ l, impl_wideOf.f n = some (decide (n < 0), 0, l) ∧ Ev (fun K => impl_wide_fit.f K (decide (n < 0)) 0 l (p : Int)) (mk n p) := by
  obtain ⟨h1, h2⟩ := hn
  obtain ⟨l, e, p0, p1, p2, p3⟩ := wideOf_ev (n := n) (by omega) (by omega)
  have hn0 : num 0 l = l := by unfold num; omega
  have := fit_ev (n := decide (n < 0)) (h := 0) (l := l) ⟨by omega, by omega, by omega, by omega⟩ (k := p) (by omega)
  rw [hn0, p2] at this
  exact ⟨l, e, this⟩
end Go.Proofs.Ytgaoniapddpaaaa.PD
