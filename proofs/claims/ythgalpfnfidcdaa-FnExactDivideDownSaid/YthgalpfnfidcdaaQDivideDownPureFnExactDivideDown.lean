import Derived.Test.YthgalpfnfidcdaaQDivideDownPDx1
import Derived.Test.YthgalpfnfidcdaaQDivideDownMm
/- FnExactDivideDown, told over numbers alone: the law's printed function answers true. -/
namespace Go.Proofs.Ythgalpfnfidcdaa.Pure
open Go.RowKit Go.Proofs.Ythgalpfnfidcdaa.PD Go.Proofs.YthgalpfnfidcdaaW.PrintWords Go.Proofs.YthgalpfnfidcdaaW.PrintLast Go.Proofs.YthgalpfnfidcdaaW.PrintMore
theorem FnExactDivideDown (a0_0 a0_1 a1_0 a1_1 a2 : Int) (_w0_0 : (Lit.int .i64 a0_0).wf = true) (_w0_1 : (Lit.int .i64 a0_1).wf = true) (_w1_0 : (Lit.int .i64 a1_0).wf = true) (_w1_1 : (Lit.int .i64 a1_1).wf = true) (_w2 : (Lit.int .i64 a2).wf = true) : ∃ k, laws_FnExactDivideDown.f k a0_0 a0_1 a1_0 a1_1 a2 = some true := by
  have h : ∃ r, Ev (fun K => spec_DivideDown.f K a0_0 a0_1 a1_0 a1_1 a2) r ∧ Ev (fun K => impl_DivideDown.f K a0_0 a0_1 a1_0 a1_1 a2) r := by
    by_cases g0 : good a0_0 a0_1 = true
    · by_cases g1 : good a1_0 a1_1 = true
      · obtain ⟨ka, rfl, hka⟩ := good_k g0
        obtain ⟨kb, rfl, hkb⟩ := good_k g1
        by_cases g2 : 0 ≤ a2 ∧ a2 ≤ 24
        · obtain ⟨p, rfl⟩ := Int.eq_ofNat_of_zero_le g2.1
          by_cases z : a1_0 = 0
          · refine ⟨(0, 0, false), ⟨0, fun K _ => ?_⟩, ⟨0, fun K _ => ?_⟩⟩
            · dsimp only; unfold spec_DivideDown.f spec_dyDivide.f
              rw [dyTwo_eq, g0, g1]; simp only [bs, Bool.and_self, if_true]
              rw [l1In_eq, decide_eq_true g2]; simp only [bs, if_true]
              rw [if_pos z]; rfl
            · dsimp only; unfold impl_DivideDown.f
              rw [isDyadic_eq, isDyadic_eq, g0, g1]; simp only [bs, if_true]
              rw [if_pos z]
          · obtain ⟨K0, h0⟩ := divide_ev (good_small g0) (good_small g1) z hka hkb (p := p) (by omega)
            obtain ⟨K1, h1⟩ := quot_ev (good_small g0) (good_small g1) z (kk := (kb : Int) - ka) (by omega) (by omega) (p := p) (by omega)
            dsimp only at h0 h1
            rw [show (kb : Int) - ka + p = kb + p - ka by omega] at h1
            refine ⟨mk (dq a0_0 a1_0 ((kb : Int) + p - ka)) p, ⟨K0, fun K hK => ?_⟩, ⟨K1, fun K hK => ?_⟩⟩
            · dsimp only; unfold spec_DivideDown.f
              rw [dyTwo_eq, g0, g1]; simp only [bs, Bool.and_self, if_true]
              rw [l1In_eq, decide_eq_true g2]; simp only [bs, if_true]
              rw [h0 K hK]; rfl
            · dsimp only; unfold impl_DivideDown.f
              rw [isDyadic_eq, isDyadic_eq, g0, g1]; simp only [bs, if_true]
              rw [if_neg z, isPlaces_eq, decide_eq_true g2]; simp only [bs, if_true]
              rw [w64 (x := (kb : Int) - ka) (by omega) (by omega), h1 K hK]; rfl
        · refine ⟨(0, 0, false), ⟨0, fun K _ => ?_⟩, ⟨0, fun K _ => ?_⟩⟩
          · dsimp only; unfold spec_DivideDown.f
            rw [dyTwo_eq, g0, g1]; simp only [bs, Bool.and_self, if_true]
            rw [l1In_eq, decide_eq_false g2]; rfl
          · dsimp only; unfold impl_DivideDown.f
            rw [isDyadic_eq, isDyadic_eq, g0, g1]; simp only [bs, if_true]
            rw [isPlaces_eq, decide_eq_false g2]
            split <;> rfl
      · refine ⟨(0, 0, false), ⟨0, fun K _ => ?_⟩, ⟨0, fun K _ => ?_⟩⟩
        · dsimp only; unfold spec_DivideDown.f
          rw [dyTwo_eq, g0, Bool.eq_false_iff.2 g1]; rfl
        · dsimp only; unfold impl_DivideDown.f
          rw [isDyadic_eq, isDyadic_eq, g0, Bool.eq_false_iff.2 g1]; rfl
    · refine ⟨(0, 0, false), ⟨0, fun K _ => ?_⟩, ⟨0, fun K _ => ?_⟩⟩
      · dsimp only; unfold spec_DivideDown.f
        rw [dyTwo_eq, Bool.eq_false_iff.2 g0]; rfl
      · dsimp only; unfold impl_DivideDown.f
        rw [isDyadic_eq, Bool.eq_false_iff.2 g0]; rfl
  obtain ⟨r, h0, h1⟩ := h
  exact law_d h0 h1
end Go.Proofs.Ythgalpfnfidcdaa.Pure
