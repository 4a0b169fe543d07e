/- FnExactDyadicOf, told over numbers alone: the law's printed function answers true. -/
import Derived.Test.YthgalpfnfidcdaaPDx1
import Derived.Test.YthgalpfnfidcdaaMc
namespace Go.Proofs.Ythgalpfnfidcdaa.Pure
open Go.RowKit Go.Proofs.Ythgalpfnfidcdaa.PD Go.Proofs.YthgalpfnfidcdaaW.PrintWords Go.Proofs.YthgalpfnfidcdaaW.PrintLast Go.Proofs.YthgalpfnfidcdaaW.PrintMore
theorem FnExactDyadicOf (a0 a1 : Int) (_w0 : (Lit.int .i64 a0).wf = true) (_w1 : (Lit.int .i64 a1).wf = true) : ∃ k, laws_FnExactDyadicOf.f k a0 a1 = some true := by
  have h : ∃ r, Ev (fun K => spec_DyadicOf.f K a0 a1) r ∧ Ev (fun K => impl_DyadicOf.f K a0 a1) r := by
    by_cases c : Small a0 ∧ 0 ≤ a1 ∧ a1 ≤ 40
    · obtain ⟨h1, h2, h3⟩ := c
      obtain ⟨k, rfl⟩ := Int.eq_ofNat_of_zero_le h2
      obtain ⟨l, e, ⟨K0, h0⟩⟩ := wide_fit h1 (p := k) (by omega)
      have hs := h1
      obtain ⟨s1, s2⟩ := hs
      obtain ⟨K1, h4⟩ := dyMake_ev a0 k (by omega) (by omega) (by omega)
      dsimp only at h0 h4
      refine ⟨mk a0 k, ⟨K1, fun K hK => ?_⟩, ⟨K0 + 1, fun K hK => ?_⟩⟩
      · dsimp only; unfold spec_DyadicOf.f
        rw [l1In_small, l1In_eq]; simp only [Option.bind_some]
        rw [if_pos (decide_eq_true h1), if_pos (decide_eq_true ⟨h2, h3⟩), h4 K hK]; rfl
      · obtain ⟨K, rfl⟩ : ∃ m, K = m + 1 := ⟨K - 1, by omega⟩
        dsimp only; unfold impl_DyadicOf.f
        rw [inside_small, inside_eq]; simp only [Option.bind_some]
        rw [if_pos (decide_eq_true h1), show decide (0 ≤ (k : Int) ∧ (k : Int) ≤ 40) = true from decide_eq_true ⟨h2, h3⟩]
        simp only [impl_DyadicOf.j0]
        rw [if_neg (by decide), e]; simp only [Option.bind_some]
        rw [h0 K (by omega)]; rfl
    · refine ⟨(0, 0, false), ⟨0, fun K _ => ?_⟩, ⟨1, fun K hK => ?_⟩⟩
      · dsimp only; unfold spec_DyadicOf.f
        rw [l1In_small, l1In_eq]; simp only [Option.bind_some]
        by_cases c1 : Small a0
        · rw [if_pos (decide_eq_true c1), if_neg (fun h => c ⟨c1, of_decide_eq_true h⟩)]
        · rw [if_neg (fun h => c1 (of_decide_eq_true h))]
      · obtain ⟨K, rfl⟩ : ∃ m, K = m + 1 := ⟨K - 1, by omega⟩
        dsimp only; unfold impl_DyadicOf.f
        rw [inside_small, inside_eq]; simp only [Option.bind_some]
        by_cases c1 : Small a0
        · rw [if_pos (decide_eq_true c1), show decide (0 ≤ a1 ∧ a1 ≤ 40) = false by rw [decide_eq_false_iff_not]; exact fun h => c ⟨c1, h⟩]; rfl
        · rw [if_neg (fun h => c1 (of_decide_eq_true h))]; rfl
  obtain ⟨r, h0, h1⟩ := h
  exact law_d h0 h1
end Go.Proofs.Ythgalpfnfidcdaa.Pure
