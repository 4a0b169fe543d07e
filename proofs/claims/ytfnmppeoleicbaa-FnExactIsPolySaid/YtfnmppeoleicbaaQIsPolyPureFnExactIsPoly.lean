import Derived.Test.YtfnmppeoleicbaaQIsPolyPDx1
import Derived.Test.YtfnmppeoleicbaaQIsPolyMr
/- FnExactIsPoly, told over numbers and lists alone: the law's printed function answers true. -/
namespace Go.Proofs.Ytfnmppeoleicbaa.Pure
open Go.RowKit Go.Proofs.Ytfnmppeoleicbaa.PD Go.Proofs.YtfnmppeoleicbaaW.PrintWords Go.Proofs.YtfnmppeoleicbaaW.PrintLast Go.Proofs.YtfnmppeoleicbaaW.PrintMore
theorem FnExactIsPoly (l0 : List S57) (w0 : l0.length ≤ maxLen ∧ ∀ y ∈ l0, ((Lit.int .i64 y.f0).wf = true ∧ ((Lit.int .i64 y.f1).wf = true ∧ ((Lit.int .i64 y.f2).wf = true ∧ (Lit.int .i64 y.f3).wf = true)))) : ∃ k, laws_FnExactIsPoly.f k l0 = some true := by
  have m1 : l0.length ≤ 9223372036854775807 := w0.1
  obtain ⟨t, ht, hc⟩ := szTermS_eq m1
  rcases hc with hc | ⟨h0, h1⟩
  · refine ⟨0, ?_⟩
    unfold laws_FnExactIsPoly.f
    rw [ht]; simp only [bs']
    rw [if_pos hc]
  · obtain ⟨K0, e0⟩ := toTermS_ev h1 false
    obtain ⟨K1, e1⟩ := toTermS_ev h1 true
    have h2 : (l0.map cvT).length ≤ 1000000 := by rw [List.length_map]; exact h1
    obtain ⟨K2, e2⟩ := poGood_ev h2
    obtain ⟨K3, e3⟩ := isPoly_ev h2
    dsimp only at e0 e1 e2 e3
    have s2 : ∀ K, K2 ≤ K → spec_IsPoly.f K (l0.map cvT) = some (goodT (l0.map cvT)) := fun K hK => by
      unfold spec_IsPoly.f; rw [e2 K hK]; simp only [bs']
    have s3 : ∀ K, K3 ≤ K → impl_IsPoly.f K (l0.map cvT) = some (goodT (l0.map cvT)) := fun K hK => by
      unfold impl_IsPoly.f; rw [e3 K hK]; simp only [bs']
    refine ⟨K0 + K1 + K2 + K3, ?_⟩
    unfold laws_FnExactIsPoly.f
    rw [ht]; simp only [bs']
    rw [if_neg (by omega), e0 _ (by omega)]; simp only [bs']
    rw [s2 _ (by omega)]; simp only [bs']
    rw [s3 _ (by omega)]; simp only [bs']
    rw [if_neg (by simp), intactTermS_self]; simp only [bs', if_true]
    rw [e1 _ (by omega)]; simp only [bs']
    rw [s3 _ (by omega)]; simp only [bs']
    rw [if_neg (by simp)]
end Go.Proofs.Ytfnmppeoleicbaa.Pure
