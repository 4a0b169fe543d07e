import Derived.Test.YtfnmppeoleicbaaQDegrOfPDx1
import Derived.Test.YtfnmppeoleicbaaQDegrOfMr
/- FnExactDegreeOf, told over numbers and lists alone: the law's printed function answers true. -/
namespace Go.Proofs.Ytfnmppeoleicbaa.Pure
open Go.RowKit Go.Proofs.Ytfnmppeoleicbaa.PD Go.Proofs.YtfnmppeoleicbaaW.PrintWords Go.Proofs.YtfnmppeoleicbaaW.PrintLast Go.Proofs.YtfnmppeoleicbaaW.PrintMore
theorem FnExactDegreeOf (l0 : List S57) (w0 : l0.length ≤ maxLen ∧ ∀ y ∈ l0, ((Lit.int .i64 y.f0).wf = true ∧ ((Lit.int .i64 y.f1).wf = true ∧ ((Lit.int .i64 y.f2).wf = true ∧ (Lit.int .i64 y.f3).wf = true)))) : ∃ k, laws_FnExactDegreeOf.f k l0 = some true := by
  have m1 : l0.length ≤ 9223372036854775807 := w0.1
  obtain ⟨t, ht, hc⟩ := szTermS_eq m1
  rcases hc with hc | ⟨h0, h1⟩
  · refine ⟨0, ?_⟩
    unfold laws_FnExactDegreeOf.f
    rw [ht]; simp only [bs']
    rw [if_pos hc]
  · obtain ⟨K0, e0⟩ := toTermS_ev h1 false
    obtain ⟨K1, e1⟩ := toTermS_ev h1 true
    have h2 : (l0.map cvT).length ≤ 1000000 := by rw [List.length_map]; exact h1
    obtain ⟨K2, e2⟩ := poGood_ev h2
    obtain ⟨K3, e3⟩ := isPoly_ev h2
    dsimp only at e0 e1 e2 e3
    have key : ∀ K, K2 + K3 + l0.length + 1 ≤ K → ∃ r, spec_DegreeOf.f K (l0.map cvT) = some r ∧ impl_DegreeOf.f K (l0.map cvT) = some r := by
      intro K hK
      by_cases g : goodT (l0.map cvT) = true
      · obtain ⟨r, h3, h4⟩ := degree_l0 h2 (l0.map cvT).length 0 K (-1) (by omega) (by rw [List.length_map]; omega)
        refine ⟨(r, true), ?_, ?_⟩
        · unfold spec_DegreeOf.f spec_poDegree.f
          rw [e2 _ (by omega), g]; simp only [bs', if_true]
          rw [show (0 : Int) = ((0 : Nat) : Int) from rfl, h3]; simp only [bs']
        · unfold impl_DegreeOf.f impl_degreeOf.f
          rw [e3 _ (by omega), g]; simp only [bs', if_true]
          rw [show (0 : Int) = ((0 : Nat) : Int) from rfl, h4]; simp only [bs']
      · refine ⟨(0, false), ?_, ?_⟩
        · unfold spec_DegreeOf.f
          rw [e2 _ (by omega)]; simp only [bs']
          rw [if_neg g]
        · unfold impl_DegreeOf.f
          rw [e3 _ (by omega)]; simp only [bs']
          rw [if_neg g]
    obtain ⟨r, s2, s3⟩ := key (K0 + K1 + K2 + K3 + l0.length + 1) (by omega)
    refine ⟨K0 + K1 + K2 + K3 + l0.length + 1, ?_⟩
    unfold laws_FnExactDegreeOf.f
    rw [ht]; simp only [bs']
    rw [if_neg (by omega), e0 _ (by omega)]; simp only [bs']
    rw [s2]; simp only [bs']
    rw [s3]; simp only [bs', if_true]
    rw [if_neg (by simp), intactTermS_self]; simp only [bs', if_true]
    rw [e1 _ (by omega)]; simp only [bs']
    rw [s3]; simp only [bs', if_true]
    rw [if_neg (by simp)]
end Go.Proofs.Ytfnmppeoleicbaa.Pure
