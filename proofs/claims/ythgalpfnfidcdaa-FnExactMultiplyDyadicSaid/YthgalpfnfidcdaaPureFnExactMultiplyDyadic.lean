/- FnExactMultiplyDyadic, told over numbers alone: the law's printed function answers true. -/
import Derived.Test.YthgalpfnfidcdaaPDx1
import Derived.Test.YthgalpfnfidcdaaMd
namespace Go.Proofs.Ythgalpfnfidcdaa.Pure
open Go.RowKit Go.Proofs.Ythgalpfnfidcdaa.PD Go.Proofs.YthgalpfnfidcdaaW.PrintWords Go.Proofs.YthgalpfnfidcdaaW.PrintLast Go.Proofs.YthgalpfnfidcdaaW.PrintMore
theorem FnExactMultiplyDyadic (a0_0 a0_1 a1_0 a1_1 : Int) (_w0_0 : (Lit.int .i64 a0_0).wf = true) (_w0_1 : (Lit.int .i64 a0_1).wf = true) (_w1_0 : (Lit.int .i64 a1_0).wf = true) (_w1_1 : (Lit.int .i64 a1_1).wf = true) : ∃ k, laws_FnExactMultiplyDyadic.f k a0_0 a0_1 a1_0 a1_1 = some true := by
  have h : ∃ r, Ev (fun K => spec_MultiplyDyadic.f K a0_0 a0_1 a1_0 a1_1) r ∧ Ev (fun K => impl_MultiplyDyadic.f K a0_0 a0_1 a1_0 a1_1) r := by
    by_cases g0 : good a0_0 a0_1 = true
    · by_cases g1 : good a1_0 a1_1 = true
      · obtain ⟨ka, rfl, hka⟩ := good_k g0
        obtain ⟨kb, rfl, hkb⟩ := good_k g1
        obtain ⟨K0, h0⟩ := dyMul_ev (good_small g0) (good_small g1) hka hkb
        obtain ⟨K1, h1⟩ := productOf_ev (good_small g0) (good_small g1) hka hkb
        dsimp only at h0 h1
        refine ⟨mk (a0_0 * a1_0) (ka + kb), ⟨K0, fun K hK => ?_⟩, ⟨K1 + 1, fun K hK => ?_⟩⟩
        · dsimp only; unfold spec_MultiplyDyadic.f
          rw [dyTwo_eq, g0, g1]; simp only [Option.bind_some, Bool.and_self, if_true]
          rw [h0 K hK]; rfl
        · dsimp only; unfold impl_MultiplyDyadic.f
          rw [isDyadic_eq, isDyadic_eq, g0, g1]; simp only [Option.bind_some, if_true]
          rw [h1 K (by omega)]; rfl
      · refine ⟨(0, 0, false), ⟨0, fun K _ => ?_⟩, ⟨1, fun K hK => ?_⟩⟩
        · dsimp only; unfold spec_MultiplyDyadic.f
          rw [dyTwo_eq, g0, Bool.eq_false_iff.2 g1]; rfl
        · dsimp only; unfold impl_MultiplyDyadic.f
          rw [isDyadic_eq, isDyadic_eq, g0, Bool.eq_false_iff.2 g1]; rfl
    · refine ⟨(0, 0, false), ⟨0, fun K _ => ?_⟩, ⟨1, fun K hK => ?_⟩⟩
      · dsimp only; unfold spec_MultiplyDyadic.f
        rw [dyTwo_eq, Bool.eq_false_iff.2 g0]; rfl
      · dsimp only; unfold impl_MultiplyDyadic.f
        rw [isDyadic_eq, Bool.eq_false_iff.2 g0]; rfl
  obtain ⟨r, h0, h1⟩ := h
  exact law_d h0 h1
end Go.Proofs.Ythgalpfnfidcdaa.Pure
