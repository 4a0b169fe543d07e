/- FnExactRoundUp, told over numbers alone: the law's printed function answers true. -/
import Derived.Test.YthgalpfnfidcdaaPDx1
import Derived.Test.YthgalpfnfidcdaaMc
namespace Go.Proofs.Ythgalpfnfidcdaa.Pure
open Go.RowKit Go.Proofs.Ythgalpfnfidcdaa.PD Go.Proofs.YthgalpfnfidcdaaW.PrintWords Go.Proofs.YthgalpfnfidcdaaW.PrintLast Go.Proofs.YthgalpfnfidcdaaW.PrintMore
theorem FnExactRoundUp (a0_0 a0_1 a1 : Int) (_w0_0 : (Lit.int .i64 a0_0).wf = true) (_w0_1 : (Lit.int .i64 a0_1).wf = true) (_w1 : (Lit.int .i64 a1).wf = true) : ∃ k, laws_FnExactRoundUp.f k a0_0 a0_1 a1 = some true := by
  have h : ∃ r, Ev (fun K => spec_RoundUp.f K a0_0 a0_1 a1) r ∧ Ev (fun K => impl_RoundUp.f K a0_0 a0_1 a1) r := by
    by_cases g0 : good a0_0 a0_1 = true
    · by_cases g1 : 0 ≤ a1 ∧ a1 ≤ 24
      · obtain ⟨ka, rfl, hka⟩ := good_k g0
        obtain ⟨p, rfl⟩ := Int.eq_ofNat_of_zero_le g1.1
        have sm := good_small g0
        obtain ⟨K0, h0⟩ := dyRound_ev (small_neg sm) hka (p := p) (by omega)
        obtain ⟨K1, h1⟩ := roundDown_ev (small_neg sm) hka (p := p) (by omega)
        have sr := rnd_small (ka := ka) (p := p) (small_neg sm)
        dsimp only at h0 h1
        refine ⟨(-(rnd (-a0_0) ka p).1, (rnd (-a0_0) ka p).2, true), ⟨K0, fun K hK => ?_⟩, ⟨K1 + 1, fun K hK => ?_⟩⟩
        · dsimp only; unfold spec_RoundUp.f
          rw [dyPlaces_eq, g0, decide_eq_true g1]; simp only [Option.bind_some, Bool.and_self, if_true]
          rw [dyMinus_eq sm]; simp only [Option.bind_some]
          rw [h0 K hK]; simp only [Option.bind_some]
          rw [dyMinus_eq sr]; rfl
        · obtain ⟨K, rfl⟩ : ∃ m, K = m + 1 := ⟨K - 1, by omega⟩
          dsimp only; unfold impl_RoundUp.f
          rw [isDyadic_eq, isPlaces_eq, g0, decide_eq_true g1]; simp only [Option.bind_some, if_true]
          simp only [impl_RoundUp.j0]
          rw [if_neg (by decide), minus_eq sm]; simp only [Option.bind_some]
          rw [h1 K (by omega)]; simp only [Option.bind_some]
          rw [minus_eq sr]; rfl
      · refine ⟨(0, 0, false), ⟨0, fun K _ => ?_⟩, ⟨1, fun K hK => ?_⟩⟩
        · dsimp only; unfold spec_RoundUp.f
          rw [dyPlaces_eq, g0, decide_eq_false g1]; rfl
        · obtain ⟨K, rfl⟩ : ∃ m, K = m + 1 := ⟨K - 1, by omega⟩
          dsimp only; unfold impl_RoundUp.f
          rw [isDyadic_eq, isPlaces_eq, g0, decide_eq_false g1]; rfl
    · refine ⟨(0, 0, false), ⟨0, fun K _ => ?_⟩, ⟨1, fun K hK => ?_⟩⟩
      · dsimp only; unfold spec_RoundUp.f
        rw [dyPlaces_eq, Bool.eq_false_iff.2 g0]; rfl
      · obtain ⟨K, rfl⟩ : ∃ m, K = m + 1 := ⟨K - 1, by omega⟩
        dsimp only; unfold impl_RoundUp.f
        rw [isDyadic_eq, Bool.eq_false_iff.2 g0]; rfl
  obtain ⟨r, h0, h1⟩ := h
  exact law_d h0 h1
end Go.Proofs.Ythgalpfnfidcdaa.Pure
