import Derived.Test.YtgaoniapddpaaaaQCommoxMc
import Derived.Test.YtgaoniapddpaaaaQCommoxMq
/- The numbers of a box as dyadic ones: plain lemmas on the printed functions. -/
namespace Go.Proofs.Ytgaoniapddpaaaa.PD
open Go.RowKit Go.Proofs.YtgaoniapddpaaaaW.PrintWords Go.Proofs.YtgaoniapddpaaaaW.PrintLast Go.Proofs.YtgaoniapddpaaaaW.PrintMore
theorem okS_small {k : Int} (h0 : 0 ≤ k) (h8 : k ≤ 8) {x y : Int} (h : okS (8 * 2 ^ k.toNat) x y = true) : -2048 ≤ x ∧ x ≤ 2048 ∧ -2048 ≤ y ∧ y ≤ 2048 ∧ x < y := by
  obtain ⟨p1, p2⟩ := pow8 h0 h8
  unfold okS at h
  have := of_decide_eq_true h
  omega
end Go.Proofs.Ytgaoniapddpaaaa.PD
