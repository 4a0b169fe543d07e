import Derived.Test.YtinpcalgdiigiaaQIsIntervalPDx1
import Derived.Test.YtinpcalgdiigiaaQIsIntervalMg
/- FnExactIsInterval, told over numbers alone: the law's printed function answers true. -/
namespace Go.Proofs.Ytinpcalgdiigiaa.Pure
open Go.RowKit Go.Proofs.Ytinpcalgdiigiaa.PD Go.Proofs.YtinpcalgdiigiaaW.PrintWords Go.Proofs.YtinpcalgdiigiaaW.PrintLast Go.Proofs.YtinpcalgdiigiaaW.PrintMore
theorem FnExactIsInterval (a0_0 a0_1 a0_2 a0_3 : Int) (_w0_0 : (Lit.int .i64 a0_0).wf = true) (_w0_1 : (Lit.int .i64 a0_1).wf = true) (_w0_2 : (Lit.int .i64 a0_2).wf = true) (_w0_3 : (Lit.int .i64 a0_3).wf = true) : ∃ k, laws_FnExactIsInterval.f k a0_0 a0_1 a0_2 a0_3 = some true := by
  have h0 : Ev (fun K => spec_IsInterval.f K a0_0 a0_1 a0_2 a0_3) (goodI a0_0 a0_1 a0_2 a0_3) := by
    obtain ⟨K0, h⟩ := ivGood_ev a0_0 a0_1 a0_2 a0_3
    dsimp only at h
    refine ⟨K0, fun K hK => ?_⟩
    dsimp only; unfold spec_IsInterval.f
    rw [h K hK]; simp only [bs]
  have h1 : Ev (fun K => impl_IsInterval.f K a0_0 a0_1 a0_2 a0_3) (goodI a0_0 a0_1 a0_2 a0_3) := by
    obtain ⟨K0, h⟩ := isInterval_ev a0_0 a0_1 a0_2 a0_3
    dsimp only at h
    refine ⟨K0, fun K hK => ?_⟩
    dsimp only; unfold impl_IsInterval.f
    rw [h K hK]; simp only [bs]
  unfold laws_FnExactIsInterval.f
  rw [toInterval_eq]; simp only [bs]
  exact law_b h0 h1
end Go.Proofs.Ytinpcalgdiigiaa.Pure
