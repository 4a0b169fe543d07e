import Derived.Test.YtgaoniapddpaaaaQSideOfPDx1
import Derived.Test.YtgaoniapddpaaaaQSideOfMc
import Derived.Test.YtgaoniapddpaaaaQSideOfMq
/- The numbers of a box as dyadic ones: plain lemmas on the printed functions. -/
namespace Go.Proofs.Ytgaoniapddpaaaa.PD
open Go.RowKit Go.Proofs.YtgaoniapddpaaaaW.PrintWords Go.Proofs.YtgaoniapddpaaaaW.PrintLast Go.Proofs.YtgaoniapddpaaaaW.PrintMore
theorem eqDy_self (a b : Int) : laws_eqDyadic.f a b a b = some true := by
  unfold laws_eqDyadic.f; rw [if_pos rfl, if_pos rfl]
theorem okS_small {k : Int} (h0 : 0 ≤ k) (h8 : k ≤ 8) {x y : Int} (h : okS (8 * 2 ^ k.toNat) x y = true) : -2048 ≤ x ∧ x ≤ 2048 ∧ -2048 ≤ y ∧ y ≤ 2048 ∧ x < y := by
  obtain ⟨p1, p2⟩ := pow8 h0 h8
  unfold okS at h
  have := of_decide_eq_true h
  omega
theorem small_of {n : Int} (h : -1000000 ≤ n ∧ n ≤ 1000000) : Small n := by
  unfold Small; omega
theorem dyadic_ev {n K : Int} (hn : -1000000 ≤ n ∧ n ≤ 1000000) (h0 : 0 ≤ K) (h1 : K ≤ 100) (L H : List Int) : Ev (fun k => impl_Box_dyadic.f k K L H n) ((mk n K.toNat).1, (mk n K.toNat).2.1, K) := by
  obtain ⟨p, rfl⟩ := Int.eq_ofNat_of_zero_le h0
  obtain ⟨l, e, ⟨K0, h⟩⟩ := wide_fit (small_of hn) (p := p) (by omega)
  dsimp only at h
  refine ⟨K0, fun k hk => ?_⟩
  dsimp only; unfold impl_Box_dyadic.f
  rw [e]; simp only [bs']
  rw [h k hk]; simp only [bs', Int.toNat_natCast]
theorem bxNumber_ev {n K : Int} (hn : -1000000 ≤ n ∧ n ≤ 1000000) (h0 : 0 ≤ K) (h1 : K ≤ 100) : Ev (fun k => spec_bxNumber.f k n K) ((mk n K.toNat).1, (mk n K.toNat).2.1) := by
  obtain ⟨p, rfl⟩ := Int.eq_ofNat_of_zero_le h0
  obtain ⟨K0, h⟩ := dyMake_ev n p (by omega) (by omega) (by omega)
  dsimp only at h
  refine ⟨K0, fun k hk => ?_⟩
  dsimp only; unfold spec_bxNumber.f
  rw [h k hk]; simp only [bs', Int.toNat_natCast]
theorem has_eq (k : Int) {L : List Int} (hL : L.length ≤ 3) (H : List Int) (i : Int) : impl_Box_has.f k L H i = some (decide (0 ≤ i ∧ i < L.length), k) := by
  unfold impl_Box_has.f
  rw [inside_eq, w64 (by omega) (by omega)]; simp only [bs']
  rw [show decide (0 ≤ i ∧ i ≤ (L.length : Int) - 1) = decide (0 ≤ i ∧ i < (L.length : Int)) from decide_eq_decide.2 ⟨fun h => by omega, fun h => by omega⟩]
theorem bxSide_ev (k : Int) (L H : List Int) (hL : L.length ≤ 9223372036854775807) (i : Int) : Ev (fun K => spec_bxSide.f K k L H i) (goodB k L H && decide (0 ≤ i ∧ i < L.length)) := by
  obtain ⟨⟨K0, h⟩, _⟩ := bxGood_ev k L H hL
  dsimp only at h
  refine ⟨K0, fun K hK => ?_⟩
  dsimp only; unfold spec_bxSide.f
  rw [h K hK]; simp only [bs']
  by_cases g : goodB k L H = true
  · have G := goodB_ok g
    have := G.l3
    rw [if_pos g, l1In_eq, w64 (by omega) (by omega), g]; simp only [bs', Bool.true_and]
    rw [show decide (0 ≤ i ∧ i ≤ (L.length : Int) - 1) = decide (0 ≤ i ∧ i < (L.length : Int)) from decide_eq_decide.2 ⟨fun h => by omega, fun h => by omega⟩]
  · rw [if_neg g, Bool.eq_false_iff.2 g, Bool.false_and]
end Go.Proofs.Ytgaoniapddpaaaa.PD
