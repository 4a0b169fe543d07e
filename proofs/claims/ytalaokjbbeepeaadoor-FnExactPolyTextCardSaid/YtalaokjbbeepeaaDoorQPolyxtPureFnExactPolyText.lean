import Derived.Test.YtalaokjbbeepeaaDoorQPolyxtPDx1
import Derived.Test.YtalaokjbbeepeaaDoorQPolyxtMy
/- FnExactPolyText, told over numbers and lists alone: the law's printed function answers true. -/
namespace Go.Proofs.YtalaokjbbeepeaaDoor.Pure
open Go.RowKit Go.Proofs.YtalaokjbbeepeaaDoor.PD Go.Proofs.YtalaokjbbeepeaaDoorW.PrintWords Go.Proofs.YtalaokjbbeepeaaDoorW.PrintLast Go.Proofs.YtalaokjbbeepeaaDoorW.PrintMore
theorem FnExactPolyText (l0 : List S23) (w0 : l0.length ≤ maxLen ∧ ∀ y ∈ l0, ((Lit.int .i64 y.f0).wf = true ∧ ((Lit.int .i64 y.f1).wf = true ∧ ((Lit.int .i64 y.f2).wf = true ∧ (Lit.int .i64 y.f3).wf = true)))) : ∃ k, laws_FnExactPolyText.f k l0 = some true := by
  have m1 : l0.length ≤ 9223372036854775807 := w0.1
  obtain ⟨t, ht, hc⟩ := szTermS_eq m1
  rcases hc with hc | ⟨h0, h1⟩
  · refine ⟨0, ?_⟩
    unfold laws_FnExactPolyText.f
    rw [ht]; simp only [bs']
    rw [if_pos hc]
  · obtain ⟨K0, e0⟩ := toTermS_ev h1 false
    obtain ⟨K1, e1⟩ := toTermS_ev h1 true
    have h2 : (l0.map cvT).length ≤ 1000000 := by rw [List.length_map]; exact h1
    obtain ⟨K2, e2⟩ := poGood_ev h2
    obtain ⟨K3, e3⟩ := isPoly_ev h2
    dsimp only at e0 e1 e2 e3
    have key : ∃ K4 r, ∀ K, K4 ≤ K → spec_PolyText.f K (l0.map cvT) = some r ∧ impl_PolyText.f K (l0.map cvT) = some r := by
      by_cases g : goodT (l0.map cvT) = true
      · obtain ⟨r, ⟨K5, r5⟩, ⟨K6, r6⟩⟩ := polyText_both g
        dsimp only at r5 r6
        refine ⟨K2 + K3 + K5 + K6, (r, true), fun K hK => ⟨?_, ?_⟩⟩
        · unfold spec_PolyText.f
          rw [e2 _ (by omega), g]; simp only [bs', if_true]
          rw [r5 _ (by omega)]; simp only [bs']
        · unfold impl_PolyText.f
          rw [e3 _ (by omega), g]; simp only [bs', if_true]
          rw [r6 _ (by omega)]; simp only [bs']
      · refine ⟨K2 + K3, ((⟨#[]⟩ : ByteArray), false), fun K hK => ⟨?_, ?_⟩⟩
        · unfold spec_PolyText.f
          rw [e2 _ (by omega)]; simp only [bs']
          rw [if_neg g]
        · unfold impl_PolyText.f
          rw [e3 _ (by omega)]; simp only [bs']
          rw [if_neg g]
    obtain ⟨K4, r, hr⟩ := key
    obtain ⟨s2, s3⟩ := hr (K0 + K1 + K4) (by omega)
    refine ⟨K0 + K1 + K4, ?_⟩
    unfold laws_FnExactPolyText.f
    rw [ht]; simp only [bs']
    rw [if_neg (by omega), e0 _ (by omega)]; simp only [bs']
    rw [s2]; simp only [bs']
    rw [s3]; simp only [bs', if_true]
    rw [if_neg (by simp), intactTermS_self]; simp only [bs', if_true]
    rw [e1 _ (by omega)]; simp only [bs']
    rw [s3]; simp only [bs', if_true]
    rw [if_neg (by simp)]
end Go.Proofs.YtalaokjbbeepeaaDoor.Pure
