import Derived.Test.YtemjjknnelngcaaDoorQSystxtPDx1
import Derived.Test.YtemjjknnelngcaaDoorQSystxtNb
/- FnExactSystemText, told over numbers and lists alone: the law's printed function answers true. -/
namespace Go.Proofs.YtemjjknnelngcaaDoor.Pure
open Go.RowKit Go.Proofs.YtemjjknnelngcaaDoor.PD Go.Proofs.YtemjjknnelngcaaDoorW.PrintWords Go.Proofs.YtemjjknnelngcaaDoorW.PrintLast Go.Proofs.YtemjjknnelngcaaDoorW.PrintMore
theorem FnExactSystemText (l0 : List (List S46)) (w0 : l0.length ≤ maxLen ∧ ∀ y ∈ l0, (y.length ≤ maxLen ∧ ∀ z ∈ y, ((Lit.int .i64 z.f0).wf = true ∧ ((Lit.int .i64 z.f1).wf = true ∧ ((Lit.int .i64 z.f2).wf = true ∧ (Lit.int .i64 z.f3).wf = true))))) : ∃ k, laws_FnExactSystemText.f k l0 = some true := by
  have m1 : l0.length ≤ 9223372036854775807 := w0.1
  have m2 : ∀ y ∈ l0, y.length ≤ 9223372036854775807 := fun y hy => (w0.2 y hy).1
  obtain ⟨t, ht, hc⟩ := szTermSS_eq m1 m2 1000002 (by omega)
  rcases hc with hc | ⟨h0, h1, h2⟩
  · refine ⟨1000002, ?_⟩
    unfold laws_FnExactSystemText.f
    rw [ht]; simp only [bs']
    rw [if_pos hc]
  · obtain ⟨K0, e0⟩ := toTermSS_ev h1 h2 false
    obtain ⟨K1, e1⟩ := toTermSS_ev h1 h2 true
    have h3 : (l0.map (·.map cvT)).length ≤ 1000000 := by rw [List.length_map]; exact h1
    have h4 : ∀ y ∈ l0.map (·.map cvT), y.length ≤ 1000000 := fun y hy => by
      obtain ⟨x, hx, rfl⟩ := List.mem_map.1 hy
      rw [List.length_map]; exact h2 x hx
    obtain ⟨K2, e2⟩ := poSystem_ev h3 h4
    obtain ⟨K3, e3⟩ := isSystem_ev h3 h4
    dsimp only at e0 e1 e2 e3
    have key : ∃ K4 r, ∀ K, K4 ≤ K → spec_SystemText.f K (l0.map (·.map cvT)) = some r ∧ impl_SystemText.f K (l0.map (·.map cvT)) = some r := by
      by_cases g : sysB (l0.map (·.map cvT)) = true
      · obtain ⟨r, ⟨K5, r5⟩, ⟨K6, r6⟩⟩ := sysText_both g
        dsimp only at r5 r6
        refine ⟨K2 + K3 + K5 + K6, (r, true), fun K hK => ⟨?_, ?_⟩⟩
        · unfold spec_SystemText.f
          rw [e2 _ (by omega), g]; simp only [bs', if_true]
          rw [r5 _ (by omega)]; simp only [bs']
        · unfold impl_SystemText.f
          rw [e3 _ (by omega), g]; simp only [bs', if_true]
          exact r6 _ (by omega)
      · refine ⟨K2 + K3, ((⟨#[]⟩ : ByteArray), false), fun K hK => ⟨?_, ?_⟩⟩
        · unfold spec_SystemText.f
          rw [e2 _ (by omega)]; simp only [bs']
          rw [if_neg g]
        · unfold impl_SystemText.f
          rw [e3 _ (by omega)]; simp only [bs']
          rw [if_neg g]
    obtain ⟨K4, r, hr⟩ := key
    obtain ⟨s2, s3⟩ := hr (1000002 + K0 + K1 + K4) (by omega)
    obtain ⟨u, hu, hd⟩ := szTermSS_eq m1 m2 (1000002 + K0 + K1 + K4) (by omega)
    refine ⟨1000002 + K0 + K1 + K4, ?_⟩
    unfold laws_FnExactSystemText.f
    rw [hu]; simp only [bs']
    by_cases hu0 : u < 0
    · rw [if_pos hu0]
    rw [if_neg hu0, e0 _ (by omega)]; simp only [bs']
    rw [s2]; simp only [bs']
    rw [s3]; simp only [bs', if_true]
    rw [if_neg (by simp), intactTermSS_self]; simp only [bs', if_true]
    rw [e1 _ (by omega)]; simp only [bs']
    rw [s3]; simp only [bs', if_true]
    rw [if_neg (by simp)]
end Go.Proofs.YtemjjknnelngcaaDoor.Pure
