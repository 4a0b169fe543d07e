import Derived.Test.YtinpcalgdiigiaaQCommonPartPDx1
import Derived.Test.YtinpcalgdiigiaaQCommonPartMh
/- FnExactCommonPart, told over numbers alone: the law's printed function answers true. -/
namespace Go.Proofs.Ytinpcalgdiigiaa.Pure
open Go.RowKit Go.Proofs.Ytinpcalgdiigiaa.PD Go.Proofs.YtinpcalgdiigiaaW.PrintWords Go.Proofs.YtinpcalgdiigiaaW.PrintLast Go.Proofs.YtinpcalgdiigiaaW.PrintMore
theorem FnExactCommonPart (a0_0 a0_1 a0_2 a0_3 a1_0 a1_1 a1_2 a1_3 : Int) (_w0_0 : (Lit.int .i64 a0_0).wf = true) (_w0_1 : (Lit.int .i64 a0_1).wf = true) (_w0_2 : (Lit.int .i64 a0_2).wf = true) (_w0_3 : (Lit.int .i64 a0_3).wf = true) (_w1_0 : (Lit.int .i64 a1_0).wf = true) (_w1_1 : (Lit.int .i64 a1_1).wf = true) (_w1_2 : (Lit.int .i64 a1_2).wf = true) (_w1_3 : (Lit.int .i64 a1_3).wf = true) : ∃ k, laws_FnExactCommonPart.f k a0_0 a0_1 a0_2 a0_3 a1_0 a1_1 a1_2 a1_3 = some true := by
  have h : ∃ r, Ev (fun K => spec_CommonPart.f K a0_0 a0_1 a0_2 a0_3 a1_0 a1_1 a1_2 a1_3) r ∧ Ev (fun K => impl_CommonPart.f K a0_0 a0_1 a0_2 a0_3 a1_0 a1_1 a1_2 a1_3) r := by
    obtain ⟨K0, h0⟩ := ivTwo_ev a0_0 a0_1 a0_2 a0_3 a1_0 a1_1 a1_2 a1_3
    obtain ⟨K1, h1⟩ := isInterval_ev a0_0 a0_1 a0_2 a0_3
    obtain ⟨K2, h2⟩ := isInterval_ev a1_0 a1_1 a1_2 a1_3
    dsimp only at h0 h1 h2
    by_cases g : goodI a0_0 a0_1 a0_2 a0_3 = true
    · by_cases g' : goodI a1_0 a1_1 a1_2 a1_3 = true
      · obtain ⟨p0, p1, p2⟩ := goodI_iff.1 g
        obtain ⟨q0, q1, q2⟩ := goodI_iff.1 g'
        replace p0 : G (a0_0, a0_1) := p0
        replace p1 : G (a0_2, a0_3) := p1
        replace q0 : G (a1_0, a1_1) := q0
        replace q1 : G (a1_2, a1_3) := q1
        obtain ⟨K3, h3⟩ := ivEnds_ev ⟨a0_0, a0_1⟩ [⟨a1_0, a1_1⟩] (by simp) (by
          intro y hy; simp only [List.mem_cons, List.mem_nil_iff, or_false] at hy
          rcases hy with rfl | rfl <;> assumption)
        obtain ⟨K4, h4⟩ := ivEnds_ev ⟨a0_2, a0_3⟩ [⟨a1_2, a1_3⟩] (by simp) (by
          intro y hy; simp only [List.mem_cons, List.mem_nil_iff, or_false] at hy
          rcases hy with rfl | rfl <;> assumption)
        obtain ⟨K5, h5⟩ := greater_ev p0 q0
        obtain ⟨K6, h6⟩ := lesser_ev p1 q1
        obtain ⟨K7, h7⟩ := spec_cmp (G_mx2 p0 q0) (G_mn2 p1 q1)
        obtain ⟨K8, h8⟩ := impl_cmp (G_mx2 p0 q0) (G_mn2 p1 q1)
        dsimp only at h3 h4 h5 h6 h7 h8
        have e3 : hi (pr ⟨a0_0, a0_1⟩) [⟨a1_0, a1_1⟩] = mx2 (a0_0, a0_1) (a1_0, a1_1) := rfl
        have e4 : lo (pr ⟨a0_2, a0_3⟩) [⟨a1_2, a1_3⟩] = mn2 (a0_2, a0_3) (a1_2, a1_3) := rfl
        rw [e3] at h3
        rw [e4] at h4
        generalize mx2 (a0_0, a0_1) (a1_0, a1_1) = u at *
        generalize mn2 (a0_2, a0_3) (a1_2, a1_3) = t at *
        refine ⟨(if cmpI (v u.1 u.2) (v t.1 t.2) > 0 then (0, 0, 0, 0, false) else (u.1, u.2, t.1, t.2, true)), ⟨K0 + K3 + K4 + K7, fun K hK => ?_⟩, ⟨K1 + K2 + K5 + K6 + K8 + 1, fun K hK => ?_⟩⟩
        · dsimp only; unfold spec_CommonPart.f
          rw [h0 K (by omega), g, g']; simp only [bs, if_true, Bool.and_self]
          unfold spec_ivCommon.f
          rw [h3 K (by omega)]; simp only [bs]
          rw [h4 K (by omega)]; simp only [bs]
          rw [h7 K (by omega)]; simp only [bs]
          split <;> rfl
        · obtain ⟨K, rfl⟩ : ∃ j, K = j + 1 := ⟨K - 1, by omega⟩
          dsimp only; unfold impl_CommonPart.f
          rw [h1 (K + 1) (by omega), h2 (K + 1) (by omega), g, g']; simp only [bs, if_true]
          unfold impl_commonPart.f
          rw [h5 (K + 1) (by omega)]; simp only [bs]
          rw [h6 (K + 1) (by omega)]; simp only [bs]
          rw [h8 (K + 1) (by omega)]; simp only [bs]
          split <;> rfl
      · refine ⟨(0, 0, 0, 0, false), ⟨K0, fun K hK => ?_⟩, ⟨K1 + K2 + 1, fun K hK => ?_⟩⟩
        · dsimp only; unfold spec_CommonPart.f
          rw [h0 K hK, g, Bool.eq_false_iff.2 g']; rfl
        · dsimp only; unfold impl_CommonPart.f
          rw [h1 K (by omega), h2 K (by omega), g, Bool.eq_false_iff.2 g']; rfl
    · refine ⟨(0, 0, 0, 0, false), ⟨K0, fun K hK => ?_⟩, ⟨K1 + 1, fun K hK => ?_⟩⟩
      · dsimp only; unfold spec_CommonPart.f
        rw [h0 K hK, Bool.eq_false_iff.2 g]; rfl
      · dsimp only; unfold impl_CommonPart.f
        rw [h1 K (by omega), Bool.eq_false_iff.2 g]; rfl
  obtain ⟨r, h0, h1⟩ := h
  unfold laws_FnExactCommonPart.f
  rw [toInterval_eq, toInterval_eq]; simp only [bs]
  exact law_v h0 h1
end Go.Proofs.Ytinpcalgdiigiaa.Pure
