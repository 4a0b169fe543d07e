import Derived.Test.YtgaoniapddpaaaaQCornOfPDx1
import Derived.Test.YtgaoniapddpaaaaQCornOfMc
import Derived.Test.YtgaoniapddpaaaaQCornOfMq
/- The numbers of a box as dyadic ones: plain lemmas on the printed functions. -/
namespace Go.Proofs.Ytgaoniapddpaaaa.PD
open Go.RowKit Go.Proofs.YtgaoniapddpaaaaW.PrintWords Go.Proofs.YtgaoniapddpaaaaW.PrintLast Go.Proofs.YtgaoniapddpaaaaW.PrintMore
theorem eqDy_self (a b : Int) : laws_eqDyadic.f a b a b = some true := by
  unfold laws_eqDyadic.f; rw [if_pos rfl, if_pos rfl]
theorem okS_small {k : Int} (h0 : 0 ≤ k) (h8 : k ≤ 8) {x y : Int} (h : okS (8 * 2 ^ k.toNat) x y = true) : -2048 ≤ x ∧ x ≤ 2048 ∧ -2048 ≤ y ∧ y ≤ 2048 ∧ x < y := by
  obtain ⟨p1, p2⟩ := pow8 h0 h8
  unfold okS at h
  have := of_decide_eq_true h
  omega
theorem small_of {n : Int} (h : -1000000 ≤ n ∧ n ≤ 1000000) : Small n := by
  unfold Small; omega
theorem dyadic_ev {n K : Int} (hn : -1000000 ≤ n ∧ n ≤ 1000000) (h0 : 0 ≤ K) (h1 : K ≤ 100) (L H : List Int) : Ev (fun k => impl_Box_dyadic.f k K L H n) ((mk n K.toNat).1, (mk n K.toNat).2.1, K) := by
  obtain ⟨p, rfl⟩ := Int.eq_ofNat_of_zero_le h0
  obtain ⟨l, e, ⟨K0, h⟩⟩ := wide_fit (small_of hn) (p := p) (by omega)
  dsimp only at h
  refine ⟨K0, fun k hk => ?_⟩
  dsimp only; unfold impl_Box_dyadic.f
  rw [e]; simp only [bs']
  rw [h k hk]; simp only [bs', Int.toNat_natCast]
theorem bxNumber_ev {n K : Int} (hn : Small n) (h0 : 0 ≤ K) (h1 : K ≤ 100) : Ev (fun k => spec_bxNumber.f k n K) ((mk n K.toNat).1, (mk n K.toNat).2.1) := by
  obtain ⟨p, rfl⟩ := Int.eq_ofNat_of_zero_le h0
  unfold Small at hn
  obtain ⟨K0, h⟩ := dyMake_ev n p (by omega) (by omega) (by omega)
  dsimp only at h
  refine ⟨K0, fun k hk => ?_⟩
  dsimp only; unfold spec_bxNumber.f
  rw [h k hk]; simp only [bs', Int.toNat_natCast]
end Go.Proofs.Ytgaoniapddpaaaa.PD
