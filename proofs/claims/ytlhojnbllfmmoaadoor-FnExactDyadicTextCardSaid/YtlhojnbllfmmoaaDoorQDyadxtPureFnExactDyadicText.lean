import Derived.Test.YtlhojnbllfmmoaaDoorQDyadxtPDx1
import Derived.Test.YtlhojnbllfmmoaaDoorQDyadxtMw
/- FnExactDyadicText, told over numbers and texts alone: the law's printed function answers true. -/
namespace Go.Proofs.YtlhojnbllfmmoaaDoor.Pure
open Go.RowKit Go.Proofs.YtlhojnbllfmmoaaDoor.PD Go.Proofs.YtlhojnbllfmmoaaDoorW.PrintWords Go.Proofs.YtlhojnbllfmmoaaDoorW.PrintLast Go.Proofs.YtlhojnbllfmmoaaDoorW.PrintMore
theorem FnExactDyadicText (a0_0 a0_1 : Int) (_w0 : (Lit.int .i64 a0_0).wf = true) (_w1 : (Lit.int .i64 a0_1).wf = true) : ∃ k, laws_FnExactDyadicText.f k a0_0 a0_1 = some true := by
  by_cases g : good a0_0 a0_1 = true
  · obtain ⟨K1, e1⟩ := dyText_ev g
    dsimp only at e1
    refine ⟨K1, ?_⟩
    unfold laws_FnExactDyadicText.f laws_toDyadic.f spec_DyadicText.f impl_DyadicText.f
    simp only [bs2]
    rw [dyGood_eq, g]; simp only [bs2, if_true]
    rw [e1 _ (Nat.le_refl _)]; simp only [bs2]
    rw [isDyadic_eq, g]; simp only [bs2, if_true]
    rw [dyadicText_eq g]; simp only [bs2]
    rw [if_pos trivial, if_neg (by simp)]
  · refine ⟨0, ?_⟩
    unfold laws_FnExactDyadicText.f laws_toDyadic.f spec_DyadicText.f impl_DyadicText.f
    simp only [bs2]
    rw [dyGood_eq]; simp only [bs2]
    rw [if_neg g]; simp only [bs2]
    rw [isDyadic_eq]; simp only [bs2]
    rw [if_neg g]; simp only [bs2]
    rw [if_pos trivial, if_neg (by simp)]
end Go.Proofs.YtlhojnbllfmmoaaDoor.Pure
