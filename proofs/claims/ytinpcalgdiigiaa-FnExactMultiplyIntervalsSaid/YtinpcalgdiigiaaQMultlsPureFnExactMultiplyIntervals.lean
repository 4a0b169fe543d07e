import Derived.Test.YtinpcalgdiigiaaQMultlsPDx1
import Derived.Test.YtinpcalgdiigiaaQMultlsMn
/- FnExactMultiplyIntervals, told over numbers alone: the law's printed function answers true. -/
namespace Go.Proofs.Ytinpcalgdiigiaa.Pure
open Go.RowKit Go.Proofs.Ytinpcalgdiigiaa.PD Go.Proofs.YtinpcalgdiigiaaW.PrintWords Go.Proofs.YtinpcalgdiigiaaW.PrintLast Go.Proofs.YtinpcalgdiigiaaW.PrintMore
theorem FnExactMultiplyIntervals (a0_0 a0_1 a0_2 a0_3 a1_0 a1_1 a1_2 a1_3 : Int) (_w0_0 : (Lit.int .i64 a0_0).wf = true) (_w0_1 : (Lit.int .i64 a0_1).wf = true) (_w0_2 : (Lit.int .i64 a0_2).wf = true) (_w0_3 : (Lit.int .i64 a0_3).wf = true) (_w1_0 : (Lit.int .i64 a1_0).wf = true) (_w1_1 : (Lit.int .i64 a1_1).wf = true) (_w1_2 : (Lit.int .i64 a1_2).wf = true) (_w1_3 : (Lit.int .i64 a1_3).wf = true) : ∃ k, laws_FnExactMultiplyIntervals.f k a0_0 a0_1 a0_2 a0_3 a1_0 a1_1 a1_2 a1_3 = some true := by
  have h : ∃ r, Ev (fun K => spec_MultiplyIntervals.f K a0_0 a0_1 a0_2 a0_3 a1_0 a1_1 a1_2 a1_3) r ∧ Ev (fun K => impl_MultiplyIntervals.f K a0_0 a0_1 a0_2 a0_3 a1_0 a1_1 a1_2 a1_3) r := by
    obtain ⟨K0, h0⟩ := ivTwo_ev a0_0 a0_1 a0_2 a0_3 a1_0 a1_1 a1_2 a1_3
    obtain ⟨K1, h1⟩ := isInterval_ev a0_0 a0_1 a0_2 a0_3
    obtain ⟨K2, h2⟩ := isInterval_ev a1_0 a1_1 a1_2 a1_3
    dsimp only at h0 h1 h2
    by_cases g : goodI a0_0 a0_1 a0_2 a0_3 = true
    · by_cases g' : goodI a1_0 a1_1 a1_2 a1_3 = true
      · obtain ⟨p0, p1, p2⟩ := goodI_iff.1 g
        obtain ⟨q0, q1, q2⟩ := goodI_iff.1 g'
        replace p0 : G (a0_0, a0_1) := p0
        replace p1 : G (a0_2, a0_3) := p1
        replace q0 : G (a1_0, a1_1) := q0
        replace q1 : G (a1_2, a1_3) := q1
        obtain ⟨K3, h3⟩ := ivMul_ev p0 p1 q0 q1
        obtain ⟨x, y, z, t, ok, ⟨K4, h4⟩, hres⟩ := multiply_ev p0 p1 q0 q1
        dsimp only at h3 h4
        rw [hres] at h3
        refine ⟨(if ok = true then (x, y, z, t, true) else (0, 0, 0, 0, false)), ⟨K0 + K3, fun K hK => ?_⟩, ⟨K1 + K2 + K4 + 1, fun K hK => ?_⟩⟩
        · dsimp only; unfold spec_MultiplyIntervals.f
          rw [h0 K (by omega), g, g']; simp only [bs, if_true, Bool.and_self]
          rw [h3 K (by omega)]; rfl
        · obtain ⟨K, rfl⟩ : ∃ j, K = j + 1 := ⟨K - 1, by omega⟩
          dsimp only; unfold impl_MultiplyIntervals.f
          rw [h1 (K + 1) (by omega), h2 (K + 1) (by omega), g, g']; simp only [bs, if_true, Bool.not_true]
          simp only [impl_MultiplyIntervals.j0]
          rw [if_neg (by decide), h4 K (by omega)]; simp only [bs]
          rw [result_eq]; simp only [bs]
          cases ok <;> rfl
      · refine ⟨(0, 0, 0, 0, false), ⟨K0, fun K hK => ?_⟩, ⟨K1 + K2 + 1, fun K hK => ?_⟩⟩
        · dsimp only; unfold spec_MultiplyIntervals.f
          rw [h0 K hK, g, Bool.eq_false_iff.2 g']; rfl
        · obtain ⟨K, rfl⟩ : ∃ j, K = j + 1 := ⟨K - 1, by omega⟩
          dsimp only; unfold impl_MultiplyIntervals.f
          rw [h1 (K + 1) (by omega), h2 (K + 1) (by omega), g, Bool.eq_false_iff.2 g']; simp only [bs, if_true, Bool.not_false]
          simp only [impl_MultiplyIntervals.j0, if_true]
    · refine ⟨(0, 0, 0, 0, false), ⟨K0, fun K hK => ?_⟩, ⟨K1 + 1, fun K hK => ?_⟩⟩
      · dsimp only; unfold spec_MultiplyIntervals.f
        rw [h0 K hK, Bool.eq_false_iff.2 g]; rfl
      · obtain ⟨K, rfl⟩ : ∃ j, K = j + 1 := ⟨K - 1, by omega⟩
        dsimp only; unfold impl_MultiplyIntervals.f
        rw [h1 (K + 1) (by omega), Bool.eq_false_iff.2 g]; simp only [bs, Bool.false_eq_true, if_false]
        simp only [impl_MultiplyIntervals.j0, if_true]
  obtain ⟨r, h0, h1⟩ := h
  unfold laws_FnExactMultiplyIntervals.f
  rw [toInterval_eq, toInterval_eq]; simp only [bs]
  exact law_v h0 h1
end Go.Proofs.Ytinpcalgdiigiaa.Pure
