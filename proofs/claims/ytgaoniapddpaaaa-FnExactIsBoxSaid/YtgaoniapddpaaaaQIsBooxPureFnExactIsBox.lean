import Derived.Test.YtgaoniapddpaaaaQIsBooxPDx1
import Derived.Test.YtgaoniapddpaaaaQIsBooxMq
/- FnExactIsBox, told over numbers and lists alone: the law's printed function answers true. -/
namespace Go.Proofs.Ytgaoniapddpaaaa.Pure
open Go.RowKit Go.Proofs.Ytgaoniapddpaaaa.PD Go.Proofs.YtgaoniapddpaaaaW.PrintWords Go.Proofs.YtgaoniapddpaaaaW.PrintLast Go.Proofs.YtgaoniapddpaaaaW.PrintMore
theorem FnExactIsBox (a0_0 : Int) (l0_1 l0_2 : List Int) (_w0_0 : (Lit.int .i64 a0_0).wf = true) (w0_1 : l0_1.length ≤ maxLen ∧ ∀ y ∈ l0_1, (Lit.int .i64 y).wf = true) (w0_2 : l0_2.length ≤ maxLen ∧ ∀ y ∈ l0_2, (Lit.int .i64 y).wf = true) : ∃ k, laws_FnExactIsBox.f k a0_0 l0_1 l0_2 = some true := by
  have m1 : l0_1.length ≤ 9223372036854775807 := w0_1.1
  have m2 : l0_2.length ≤ 9223372036854775807 := w0_2.1
  obtain ⟨t, ht, hc⟩ := szBox_eq (k := a0_0) m1 m2
  rcases hc with hc | ⟨h0, h1, h2⟩
  · refine ⟨0, ?_⟩
    unfold laws_FnExactIsBox.f
    rw [ht]; simp only [bs']
    rw [if_pos hc]
  · obtain ⟨K0, e0⟩ := toBox_ev (k := a0_0) h1 h2 false
    obtain ⟨K1, e1⟩ := toBox_ev (k := a0_0) h1 h2 true
    obtain ⟨⟨K2, e2⟩, ⟨K3, e3⟩⟩ := bxGood_ev a0_0 l0_1 l0_2 m1
    dsimp only at e0 e1 e2 e3
    refine ⟨K0 + K1 + K2 + K3, ?_⟩
    have s2 : spec_IsBox.f (K0 + K1 + K2 + K3) a0_0 l0_1 l0_2 = some (goodB a0_0 l0_1 l0_2) := by
      unfold spec_IsBox.f; rw [e2 _ (by omega)]; rfl
    have s3 : impl_IsBox.f (K0 + K1 + K2 + K3) a0_0 l0_1 l0_2 = some (goodB a0_0 l0_1 l0_2) := by
      unfold impl_IsBox.f; rw [e3 _ (by omega)]; rfl
    unfold laws_FnExactIsBox.f
    rw [ht]; simp only [bs']
    rw [if_neg (by omega), e0 _ (by omega)]; simp only [bs']
    rw [s2]; simp only [bs']
    rw [s3]; simp only [bs']
    rw [if_neg (by simp), intactBox_self]; simp only [bs', if_true]
    rw [e1 _ (by omega)]; simp only [bs']
    rw [s3]; simp only [bs']
    rw [if_neg (by simp)]
end Go.Proofs.Ytgaoniapddpaaaa.Pure
