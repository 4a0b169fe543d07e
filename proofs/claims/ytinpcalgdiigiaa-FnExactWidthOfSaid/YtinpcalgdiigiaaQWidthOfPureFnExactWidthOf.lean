import Derived.Test.YtinpcalgdiigiaaQWidthOfPDx1
import Derived.Test.YtinpcalgdiigiaaQWidthOfMg
/- FnExactWidthOf, told over numbers alone: the law's printed function answers true. -/
namespace Go.Proofs.Ytinpcalgdiigiaa.Pure
open Go.RowKit Go.Proofs.Ytinpcalgdiigiaa.PD Go.Proofs.YtinpcalgdiigiaaW.PrintWords Go.Proofs.YtinpcalgdiigiaaW.PrintLast Go.Proofs.YtinpcalgdiigiaaW.PrintMore
theorem FnExactWidthOf (a0_0 a0_1 a0_2 a0_3 : Int) (_w0_0 : (Lit.int .i64 a0_0).wf = true) (_w0_1 : (Lit.int .i64 a0_1).wf = true) (_w0_2 : (Lit.int .i64 a0_2).wf = true) (_w0_3 : (Lit.int .i64 a0_3).wf = true) : ∃ k, laws_FnExactWidthOf.f k a0_0 a0_1 a0_2 a0_3 = some true := by
  have h : ∃ r, Ev (fun K => spec_WidthOf.f K a0_0 a0_1 a0_2 a0_3) r ∧ Ev (fun K => impl_WidthOf.f K a0_0 a0_1 a0_2 a0_3) r := by
    obtain ⟨K0, h0⟩ := ivGood_ev a0_0 a0_1 a0_2 a0_3
    obtain ⟨K1, h1⟩ := isInterval_ev a0_0 a0_1 a0_2 a0_3
    dsimp only at h0 h1
    by_cases g : goodI a0_0 a0_1 a0_2 a0_3 = true
    · obtain ⟨p0, p1, p2⟩ := goodI_iff.1 g
      obtain ⟨ka, rfl, hka⟩ := good_k p0
      obtain ⟨kb, rfl, hkb⟩ := good_k p1
      obtain ⟨K2, h2⟩ := dySub_ev p1 p0
      obtain ⟨K3, h3⟩ := sumOf_ev (good_small p1) (small_neg (good_small p0)) hkb hka
      dsimp only at h2 h3
      refine ⟨mk (over a0_2 kb ka + over (-a0_0) ka kb) (max kb ka), ⟨K0 + K2, fun K hK => ?_⟩, ⟨K1 + K3, fun K hK => ?_⟩⟩
      · dsimp only; unfold spec_WidthOf.f
        rw [h0 K (by omega), g]; simp only [bs, if_true]
        rw [h2 K (by omega)]; rfl
      · dsimp only; unfold impl_WidthOf.f
        rw [h1 K (by omega), g]; simp only [bs, if_true]
        rw [minus_eq (good_small p0)]; simp only [bs]
        rw [h3 K (by omega)]; rfl
    · refine ⟨(0, 0, false), ⟨K0, fun K hK => ?_⟩, ⟨K1, fun K hK => ?_⟩⟩
      · dsimp only; unfold spec_WidthOf.f
        rw [h0 K hK, Bool.eq_false_iff.2 g]; rfl
      · dsimp only; unfold impl_WidthOf.f
        rw [h1 K hK, Bool.eq_false_iff.2 g]; rfl
  obtain ⟨r, h0, h1⟩ := h
  unfold laws_FnExactWidthOf.f
  rw [toInterval_eq]; simp only [bs]
  exact law_d h0 h1
end Go.Proofs.Ytinpcalgdiigiaa.Pure
