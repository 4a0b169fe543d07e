import Derived.Test.YtgaoniapddpaaaaQHalvOfPDx1
import Derived.Test.YtgaoniapddpaaaaQHalvOfMc
import Derived.Test.YtgaoniapddpaaaaQHalvOfMq
/- The numbers of a box as dyadic ones: plain lemmas on the printed functions. -/
namespace Go.Proofs.Ytgaoniapddpaaaa.PD
open Go.RowKit Go.Proofs.YtgaoniapddpaaaaW.PrintWords Go.Proofs.YtgaoniapddpaaaaW.PrintLast Go.Proofs.YtgaoniapddpaaaaW.PrintMore
theorem okS_small {k : Int} (h0 : 0 ≤ k) (h8 : k ≤ 8) {x y : Int} (h : okS (8 * 2 ^ k.toNat) x y = true) : -2048 ≤ x ∧ x ≤ 2048 ∧ -2048 ≤ y ∧ y ≤ 2048 ∧ x < y := by
  obtain ⟨p1, p2⟩ := pow8 h0 h8
  unfold okS at h
  have := of_decide_eq_true h
  omega
theorem has_eq (k : Int) {L : List Int} (hL : L.length ≤ 3) (H : List Int) (i : Int) : impl_Box_has.f k L H i = some (decide (0 ≤ i ∧ i < L.length), k) := by
  unfold impl_Box_has.f
  rw [inside_eq, w64 (by omega) (by omega)]; simp only [bs']
  rw [show decide (0 ≤ i ∧ i ≤ (L.length : Int) - 1) = decide (0 ≤ i ∧ i < (L.length : Int)) from decide_eq_decide.2 ⟨fun h => by omega, fun h => by omega⟩]
theorem bxSide_ev (k : Int) (L H : List Int) (hL : L.length ≤ 9223372036854775807) (i : Int) : Ev (fun K => spec_bxSide.f K k L H i) (goodB k L H && decide (0 ≤ i ∧ i < L.length)) := by
  obtain ⟨⟨K0, h⟩, _⟩ := bxGood_ev k L H hL
  dsimp only at h
  refine ⟨K0, fun K hK => ?_⟩
  dsimp only; unfold spec_bxSide.f
  rw [h K hK]; simp only [bs']
  by_cases g : goodB k L H = true
  · have G := goodB_ok g
    have := G.l3
    rw [if_pos g, l1In_eq, w64 (by omega) (by omega), g]; simp only [bs', Bool.true_and]
    rw [show decide (0 ≤ i ∧ i ≤ (L.length : Int) - 1) = decide (0 ≤ i ∧ i < (L.length : Int)) from decide_eq_decide.2 ⟨fun h => by omega, fun h => by omega⟩]
  · rw [if_neg g, Bool.eq_false_iff.2 g, Bool.false_and]
end Go.Proofs.Ytgaoniapddpaaaa.PD
