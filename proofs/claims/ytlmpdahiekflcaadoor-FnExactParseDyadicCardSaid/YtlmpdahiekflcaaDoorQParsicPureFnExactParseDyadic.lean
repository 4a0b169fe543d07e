import Derived.Test.YtlmpdahiekflcaaDoorQParsicPDx1
import Derived.Test.YtlmpdahiekflcaaDoorQParsicNd
/- FnExactParseDyadic, told over numbers and bytes alone: the law's printed function answers true. -/
namespace Go.Proofs.YtlmpdahiekflcaaDoor.Pure
open Go.RowKit Go.Proofs.YtlmpdahiekflcaaDoor.PD Go.Proofs.YtlmpdahiekflcaaDoorW.PrintWords Go.Proofs.YtlmpdahiekflcaaDoorW.PrintLast Go.Proofs.YtlmpdahiekflcaaDoorW.PrintMore
theorem both {s : ByteArray} (hs : s.size ≤ 1000000) : ∃ r N, (∀ K, N ≤ K → spec_dyParse.f K s = some r) ∧ impl_ParseDyadic.f s = some r := by
  by_cases c : ∃ n k, good n k = true ∧ txt n k = s
  · obtain ⟨n, k, g, rfl⟩ := c
    obtain ⟨N, h⟩ := dyParse_txt g
    exact ⟨_, N, h, implParse_txt g⟩
  · have no : ∀ r, ShapeP s r → r = (0, 0, false) := fun r h => by
      rcases h with h | ⟨n, k, g, e, _⟩
      · exact h
      · exact absurd ⟨n, k, g, e⟩ c
    obtain ⟨r, N, h1, h2⟩ := dyParse_any hs
    obtain ⟨q, h3, h4⟩ := implParse_any hs
    rw [no r h2] at h1
    rw [no q h4] at h3
    exact ⟨_, N, h1, h3⟩
theorem FnExactParseDyadic (a0 : ByteArray) : ∃ k, laws_FnExactParseDyadic.f k a0 = some true := by
  unfold laws_FnExactParseDyadic.f
  by_cases c : (a0.size : Int) > 1000000
  · exact ⟨0, by rw [if_pos c]⟩
  · obtain ⟨r, N, h1, h2⟩ := both (s := a0) (by omega)
    refine ⟨N, ?_⟩
    have h3 : spec_ParseDyadic.f N a0 = some r := by unfold spec_ParseDyadic.f; rw [h1 N (Nat.le_refl _)]; rfl
    rw [if_neg c, h3]; simp only [bs2]
    rw [h2]; simp only [bs2]
    unfold laws_eqDyadic.f
    rw [if_pos rfl, if_pos rfl]; simp
end Go.Proofs.YtlmpdahiekflcaaDoor.Pure
