import Derived.Test.YtinpcalgdiigiaaQDivilsPDx1
import Derived.Test.YtinpcalgdiigiaaQDivilsMp
/- FnExactDivideIntervals, told over numbers alone: the law's printed function answers true. -/
namespace Go.Proofs.Ytinpcalgdiigiaa.Pure
open Go.RowKit Go.Proofs.Ytinpcalgdiigiaa.PD Go.Proofs.YtinpcalgdiigiaaW.PrintWords Go.Proofs.YtinpcalgdiigiaaW.PrintLast Go.Proofs.YtinpcalgdiigiaaW.PrintMore
theorem FnExactDivideIntervals (a0_0 a0_1 a0_2 a0_3 a1_0 a1_1 a1_2 a1_3 : Int) (_w0_0 : (Lit.int .i64 a0_0).wf = true) (_w0_1 : (Lit.int .i64 a0_1).wf = true) (_w0_2 : (Lit.int .i64 a0_2).wf = true) (_w0_3 : (Lit.int .i64 a0_3).wf = true) (_w1_0 : (Lit.int .i64 a1_0).wf = true) (_w1_1 : (Lit.int .i64 a1_1).wf = true) (_w1_2 : (Lit.int .i64 a1_2).wf = true) (_w1_3 : (Lit.int .i64 a1_3).wf = true) : ∃ k, laws_FnExactDivideIntervals.f k a0_0 a0_1 a0_2 a0_3 a1_0 a1_1 a1_2 a1_3 = some true := by
  have h : ∃ r, Ev (fun K => spec_DivideIntervals.f K a0_0 a0_1 a0_2 a0_3 a1_0 a1_1 a1_2 a1_3) r ∧ Ev (fun K => impl_DivideIntervals.f K a0_0 a0_1 a0_2 a0_3 a1_0 a1_1 a1_2 a1_3) r := by
    obtain ⟨K0, h0⟩ := ivTwo_ev a0_0 a0_1 a0_2 a0_3 a1_0 a1_1 a1_2 a1_3
    obtain ⟨K1, h1⟩ := isInterval_ev a0_0 a0_1 a0_2 a0_3
    obtain ⟨K2, h2⟩ := isInterval_ev a1_0 a1_1 a1_2 a1_3
    dsimp only at h0 h1 h2
    by_cases g : goodI a0_0 a0_1 a0_2 a0_3 = true
    · by_cases g' : goodI a1_0 a1_1 a1_2 a1_3 = true
      · obtain ⟨p0, p1, p2⟩ := goodI_iff.1 g
        obtain ⟨q0, q1, q2⟩ := goodI_iff.1 g'
        have hz := ivZero_eq a1_0 a1_1 a1_2 a1_3
        have hs := signOf_eq a1_0 a1_1 a1_2 a1_3
        -- the program's way to its first test
        have hi : ∀ K, K1 + K2 ≤ K → impl_DivideIntervals.f K a0_0 a0_1 a0_2 a0_3 a1_0 a1_1 a1_2 a1_3 = impl_DivideIntervals.j0 K (decide (a1_0 ≤ 0 ∧ 0 ≤ a1_2)) a0_0 a0_1 a0_2 a0_3 a1_0 a1_1 a1_2 a1_3 := by
          intro K hK
          unfold impl_DivideIntervals.f
          rw [h1 K (by omega), h2 K (by omega), g, g']; simp only [bs, if_true]
          cases e : impl_signOf.f a1_0 a1_1 a1_2 a1_3 with
          | none => rw [e] at hs; cases hs
          | some t =>
            rw [e] at hs; simp only [bs] at hs ⊢
            rw [Option.some.inj hs]
        by_cases z : a1_0 ≤ 0 ∧ 0 ≤ a1_2
        · rw [decide_eq_true z] at hz hi
          refine ⟨(0, 0, 0, 0, false), ⟨K0, fun K hK => ?_⟩, ⟨K1 + K2 + 1, fun K hK => ?_⟩⟩
          · dsimp only; unfold spec_DivideIntervals.f
            rw [h0 K (by omega), g, g']; simp only [bs, if_true, Bool.and_self]
            rw [hz]; simp only [bs, if_true]
          · dsimp only; rw [hi K (by omega)]
            obtain ⟨K, rfl⟩ : ∃ j, K = j + 1 := ⟨K - 1, by omega⟩
            simp only [impl_DivideIntervals.j0, if_true]
        · rw [decide_eq_false z] at hz hi
          have nz : a1_0 ≠ 0 ∧ a1_2 ≠ 0 := by
            obtain ⟨s1, s2⟩ := v_sign (a := a1_0) (k := a1_1)
            obtain ⟨s3, s4⟩ := v_sign (a := a1_2) (k := a1_3)
            omega
          obtain ⟨K3, h3⟩ := ivDiv_ev p0 p1 q0 q1 nz.1 nz.2
          obtain ⟨K4, h4⟩ := least_ev p0 p1 q0 q1 nz.1 nz.2
          obtain ⟨K5, h5⟩ := least_ev (good_neg p1) (good_neg p0) q0 q1 nz.1 nz.2
          dsimp only at h3 h4 h5
          refine ⟨resD a0_0 a0_1 a0_2 a0_3 a1_0 a1_1 a1_2 a1_3, ⟨K0 + K3, fun K hK => ?_⟩, ⟨K1 + K2 + K4 + K5 + 1, fun K hK => ?_⟩⟩
          · dsimp only; unfold spec_DivideIntervals.f
            rw [h0 K (by omega), g, g']; simp only [bs, if_true, Bool.and_self]
            rw [hz]; simp only [bs, Bool.false_eq_true, if_false]
            rw [h3 K (by omega)]; rfl
          · dsimp only; rw [hi K (by omega)]
            obtain ⟨K, rfl⟩ : ∃ j, K = j + 1 := ⟨K - 1, by omega⟩
            simp only [impl_DivideIntervals.j0]
            rw [if_neg (by decide), h4 K (by omega), minus_eq (good_small p1), minus_eq (good_small p0)]; simp only [bs]
            rw [h5 K (by omega), resD_eq]; simp only [bs]
            unfold resQ
            have hsm : Small (low4 (-a0_2) a0_3 (-a0_0) a0_1 a1_0 a1_1 a1_2 a1_3).1 := good_small (G_mn2 (G_mn2 (G_mn2 (dz_good _ _ _ _) (dz_good _ _ _ _)) (dz_good _ _ _ _)) (dz_good _ _ _ _))
            by_cases c1 : ok4 a0_0 a0_1 a0_2 a0_3 a1_0 a1_1 a1_2 a1_3 = true
            · by_cases c2 : ok4 (-a0_2) a0_3 (-a0_0) a0_1 a1_0 a1_1 a1_2 a1_3 = true
              · rw [if_pos c1, if_pos c2, c1, c2]; simp only [if_true, Bool.and_self]
                rw [minus_eq hsm]; rfl
              · rw [if_pos c1, if_neg c2, c1, Bool.eq_false_iff.2 c2]; rfl
            · rw [if_neg c1, Bool.eq_false_iff.2 c1]; rfl
      · refine ⟨(0, 0, 0, 0, false), ⟨K0, fun K hK => ?_⟩, ⟨K1 + K2 + 1, fun K hK => ?_⟩⟩
        · dsimp only; unfold spec_DivideIntervals.f
          rw [h0 K hK, g, Bool.eq_false_iff.2 g']; rfl
        · obtain ⟨K, rfl⟩ : ∃ j, K = j + 1 := ⟨K - 1, by omega⟩
          dsimp only; unfold impl_DivideIntervals.f
          rw [h1 (K + 1) (by omega), h2 (K + 1) (by omega), g, Bool.eq_false_iff.2 g']; simp only [bs, if_true, Bool.false_eq_true, if_false]
          simp only [impl_DivideIntervals.j0, if_true]
    · refine ⟨(0, 0, 0, 0, false), ⟨K0, fun K hK => ?_⟩, ⟨K1 + 1, fun K hK => ?_⟩⟩
      · dsimp only; unfold spec_DivideIntervals.f
        rw [h0 K hK, Bool.eq_false_iff.2 g]; rfl
      · obtain ⟨K, rfl⟩ : ∃ j, K = j + 1 := ⟨K - 1, by omega⟩
        dsimp only; unfold impl_DivideIntervals.f
        rw [h1 (K + 1) (by omega), Bool.eq_false_iff.2 g]; simp only [bs, Bool.false_eq_true, if_false]
        simp only [impl_DivideIntervals.j0, if_true]
  obtain ⟨r, h0, h1⟩ := h
  unfold laws_FnExactDivideIntervals.f
  rw [toInterval_eq, toInterval_eq]; simp only [bs]
  exact law_v h0 h1
end Go.Proofs.Ytinpcalgdiigiaa.Pure
