import Derived.Test.YtinpcalgdiigiaaQSubtractIntervalsPDx1
import Derived.Test.YtinpcalgdiigiaaQSubtractIntervalsMj
/- FnExactSubtractIntervals, told over numbers alone: the law's printed function answers true. -/
namespace Go.Proofs.Ytinpcalgdiigiaa.Pure
open Go.RowKit Go.Proofs.Ytinpcalgdiigiaa.PD Go.Proofs.YtinpcalgdiigiaaW.PrintWords Go.Proofs.YtinpcalgdiigiaaW.PrintLast Go.Proofs.YtinpcalgdiigiaaW.PrintMore
theorem FnExactSubtractIntervals (a0_0 a0_1 a0_2 a0_3 a1_0 a1_1 a1_2 a1_3 : Int) (_w0_0 : (Lit.int .i64 a0_0).wf = true) (_w0_1 : (Lit.int .i64 a0_1).wf = true) (_w0_2 : (Lit.int .i64 a0_2).wf = true) (_w0_3 : (Lit.int .i64 a0_3).wf = true) (_w1_0 : (Lit.int .i64 a1_0).wf = true) (_w1_1 : (Lit.int .i64 a1_1).wf = true) (_w1_2 : (Lit.int .i64 a1_2).wf = true) (_w1_3 : (Lit.int .i64 a1_3).wf = true) : ∃ k, laws_FnExactSubtractIntervals.f k a0_0 a0_1 a0_2 a0_3 a1_0 a1_1 a1_2 a1_3 = some true := by
  have h : ∃ r, Ev (fun K => spec_SubtractIntervals.f K a0_0 a0_1 a0_2 a0_3 a1_0 a1_1 a1_2 a1_3) r ∧ Ev (fun K => impl_SubtractIntervals.f K a0_0 a0_1 a0_2 a0_3 a1_0 a1_1 a1_2 a1_3) r := by
    obtain ⟨K0, h0⟩ := ivTwo_ev a0_0 a0_1 a0_2 a0_3 a1_0 a1_1 a1_2 a1_3
    obtain ⟨K1, h1⟩ := isInterval_ev a0_0 a0_1 a0_2 a0_3
    obtain ⟨K2, h2⟩ := isInterval_ev a1_0 a1_1 a1_2 a1_3
    dsimp only at h0 h1 h2
    by_cases g : goodI a0_0 a0_1 a0_2 a0_3 = true
    · by_cases g' : goodI a1_0 a1_1 a1_2 a1_3 = true
      · obtain ⟨p0, p1, p2⟩ := goodI_iff.1 g
        obtain ⟨q0, q1, q2⟩ := goodI_iff.1 g'
        replace p0 : G (a0_0, a0_1) := p0
        replace p1 : G (a0_2, a0_3) := p1
        replace q0 : G (a1_0, a1_1) := q0
        replace q1 : G (a1_2, a1_3) := q1
        obtain ⟨ka, e0, hka⟩ := good_k p0
        obtain ⟨kb, e1, hkb⟩ := good_k p1
        obtain ⟨kc, e2, hkc⟩ := good_k q0
        obtain ⟨kd, e3, hkd⟩ := good_k q1
        dsimp only at e0 e1 e2 e3
        subst e0 e1 e2 e3
        obtain ⟨K3, h3⟩ := dyAdd_ev p0 (good_neg q1)
        obtain ⟨K4, h4⟩ := dyAdd_ev p1 (good_neg q0)
        obtain ⟨K5, h5⟩ := sum_ev true (good_small p0) (small_neg (good_small q1)) hka hkd
        obtain ⟨K6, h6⟩ := sum_ev (kp true (mk (over a0_0 ka kd + over (-a1_2) kd ka) (max ka kd))).2.2 (good_small p1) (small_neg (good_small q0)) hkb hkc
        dsimp only at h3 h4 h5 h6
        generalize hr1 : mk (over a0_0 ka kd + over (-a1_2) kd ka) (max ka kd) = r1 at *
        generalize hr2 : mk (over a0_2 kb kc + over (-a1_0) kc kb) (max kb kc) = r2 at *
        refine ⟨both r1 r2, ⟨K0 + K3 + K4, fun K hK => ?_⟩, ⟨K1 + K2 + K5 + K6 + 1, fun K hK => ?_⟩⟩
        · dsimp only; unfold spec_SubtractIntervals.f
          rw [h0 K (by omega), g, g']; simp only [bs, if_true, Bool.and_self]
          unfold spec_ivSub.f spec_ivMinus.f
          rw [dyMinus_eq (good_small q1), dyMinus_eq (good_small q0)]; simp only [bs]
          unfold spec_ivAdd.f
          rw [h3 K (by omega)]; simp only [bs]
          rw [h4 K (by omega)]; simp only [bs]
          rw [ivBoth_eq]; rfl
        · obtain ⟨K, rfl⟩ : ∃ j, K = j + 1 := ⟨K - 1, by omega⟩
          dsimp only; unfold impl_SubtractIntervals.f
          rw [h1 (K + 1) (by omega), h2 (K + 1) (by omega), g, g']; simp only [bs, if_true, Bool.not_true]
          simp only [impl_SubtractIntervals.j0]
          rw [if_neg (by decide)]
          unfold impl_reckoner_subtract.f
          rw [minus_eq (good_small q1), minus_eq (good_small q0)]; simp only [bs]
          rw [h5 K (by omega)]; simp only [bs]
          rw [h6 K (by omega)]; simp only [bs]
          rw [result_eq]; simp only [bs]
          rw [both_kp]
      · refine ⟨(0, 0, 0, 0, false), ⟨K0, fun K hK => ?_⟩, ⟨K1 + K2 + 1, fun K hK => ?_⟩⟩
        · dsimp only; unfold spec_SubtractIntervals.f
          rw [h0 K hK, g, Bool.eq_false_iff.2 g']; rfl
        · obtain ⟨K, rfl⟩ : ∃ j, K = j + 1 := ⟨K - 1, by omega⟩
          dsimp only; unfold impl_SubtractIntervals.f
          rw [h1 (K + 1) (by omega), h2 (K + 1) (by omega), g, Bool.eq_false_iff.2 g']; simp only [bs, if_true, Bool.not_false]
          simp only [impl_SubtractIntervals.j0, if_true]
    · refine ⟨(0, 0, 0, 0, false), ⟨K0, fun K hK => ?_⟩, ⟨K1 + 1, fun K hK => ?_⟩⟩
      · dsimp only; unfold spec_SubtractIntervals.f
        rw [h0 K hK, Bool.eq_false_iff.2 g]; rfl
      · obtain ⟨K, rfl⟩ : ∃ j, K = j + 1 := ⟨K - 1, by omega⟩
        dsimp only; unfold impl_SubtractIntervals.f
        rw [h1 (K + 1) (by omega), Bool.eq_false_iff.2 g]; simp only [bs, Bool.false_eq_true, if_false]
        simp only [impl_SubtractIntervals.j0, if_true]
  obtain ⟨r, h0, h1⟩ := h
  unfold laws_FnExactSubtractIntervals.f
  rw [toInterval_eq, toInterval_eq]; simp only [bs]
  exact law_v h0 h1
end Go.Proofs.Ytinpcalgdiigiaa.Pure
