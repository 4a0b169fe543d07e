import Derived.Test.YtinpcalgdiigiaaQSignOfPDx1
import Derived.Test.YtinpcalgdiigiaaQSignOfMg
/- FnExactSignOf, told over numbers alone: the law's printed function answers true. -/
namespace Go.Proofs.Ytinpcalgdiigiaa.Pure
open Go.RowKit Go.Proofs.Ytinpcalgdiigiaa.PD Go.Proofs.YtinpcalgdiigiaaW.PrintWords Go.Proofs.YtinpcalgdiigiaaW.PrintLast Go.Proofs.YtinpcalgdiigiaaW.PrintMore
set_option linter.unusedSimpArgs false
theorem FnExactSignOf (a0_0 a0_1 a0_2 a0_3 : Int) (_w0_0 : (Lit.int .i64 a0_0).wf = true) (_w0_1 : (Lit.int .i64 a0_1).wf = true) (_w0_2 : (Lit.int .i64 a0_2).wf = true) (_w0_3 : (Lit.int .i64 a0_3).wf = true) : ∃ k, laws_FnExactSignOf.f k a0_0 a0_1 a0_2 a0_3 = some true := by
  have h : ∃ r, Ev (fun K => spec_SignOf.f K a0_0 a0_1 a0_2 a0_3) r ∧ Ev (fun K => impl_SignOf.f K a0_0 a0_1 a0_2 a0_3) r := by
    obtain ⟨K0, h0⟩ := ivGood_ev a0_0 a0_1 a0_2 a0_3
    obtain ⟨K1, h1⟩ := isInterval_ev a0_0 a0_1 a0_2 a0_3
    dsimp only at h0 h1
    by_cases g : goodI a0_0 a0_1 a0_2 a0_3 = true
    · obtain ⟨g0, g1, g2⟩ := goodI_iff.1 g
      refine ⟨(if 0 < a0_0 then 1 else if a0_2 < 0 then -1 else 0, true), ⟨K0, fun K hK => ?_⟩, ⟨K1, fun K hK => ?_⟩⟩
      · dsimp only; unfold spec_SignOf.f
        rw [h0 K hK, g]; simp only [bs, if_true]
        have s0 := v_sign (a := a0_0) (k := a0_1)
        have s1 := v_sign (a := a0_2) (k := a0_3)
        unfold spec_ivSign.f spec_ivZero.f spec_l1Sign.f
        by_cases c : a0_0 ≤ 0
        · rw [if_pos c]; simp only [bs]
          by_cases c1 : a0_2 ≥ 0
          · rw [if_pos (by simpa using c1), if_neg (by omega), if_neg (by omega)]; rfl
          · rw [if_neg (by simpa using c1)]
            have c2 : ¬ a0_0 > 0 := by omega
            have c3 : a0_0 < 0 := by omega
            have c4 : a0_2 < 0 := by omega
            simp [c2, c3, c4]
        · rw [if_neg c]; simp only [bs]
          have c2 : 0 < a0_0 := by omega
          have c3 : ¬ a0_0 < 0 := by omega
          simp [c2, c3]
      · dsimp only; unfold impl_SignOf.f
        rw [h1 K hK, g]; simp only [bs, if_true]
        unfold impl_signOf.f
        by_cases c : a0_0 > 0
        · rw [if_pos c, if_pos c]; rfl
        · rw [if_neg c, if_neg c]; split <;> rfl
    · refine ⟨(0, false), ⟨K0, fun K hK => ?_⟩, ⟨K1, fun K hK => ?_⟩⟩
      · dsimp only; unfold spec_SignOf.f
        rw [h0 K hK, Bool.eq_false_iff.2 g]; rfl
      · dsimp only; unfold impl_SignOf.f
        rw [h1 K hK, Bool.eq_false_iff.2 g]; rfl
  obtain ⟨r, h0, h1⟩ := h
  unfold laws_FnExactSignOf.f
  rw [toInterval_eq]; simp only [bs]
  exact law_i h0 h1
end Go.Proofs.Ytinpcalgdiigiaa.Pure
