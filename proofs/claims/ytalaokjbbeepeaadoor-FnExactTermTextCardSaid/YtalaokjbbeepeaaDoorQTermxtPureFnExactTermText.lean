import Derived.Test.YtalaokjbbeepeaaDoorQTermxtPDx1
import Derived.Test.YtalaokjbbeepeaaDoorQTermxtMx
/- FnExactTermText, told over numbers and texts alone: the law's printed function answers true. -/
namespace Go.Proofs.YtalaokjbbeepeaaDoor.Pure
open Go.RowKit Go.Proofs.YtalaokjbbeepeaaDoor.PD Go.Proofs.YtalaokjbbeepeaaDoorW.PrintWords Go.Proofs.YtalaokjbbeepeaaDoorW.PrintLast Go.Proofs.YtalaokjbbeepeaaDoorW.PrintMore
theorem FnExactTermText (c x y z : Int) (_w0 : (Lit.int .i64 c).wf = true) (_w1 : (Lit.int .i64 x).wf = true) (_w2 : (Lit.int .i64 y).wf = true) (_w3 : (Lit.int .i64 z).wf = true) : ∃ k, laws_FnExactTermText.f k c x y z = some true := by
  have hg : goodT [(⟨c, x, y, z⟩ : S26)] = okT ⟨c, x, y, z⟩ := by
    unfold goodT
    simp [polRun]
  obtain ⟨K2, e2⟩ := isPoly_ev (l := [(⟨c, x, y, z⟩ : S26)]) (by simp)
  dsimp only at e2
  rw [hg] at e2
  by_cases g : okT (⟨c, x, y, z⟩ : S26) = true
  · obtain ⟨g1, g2, g3, g4, g5, g6, g7, g8, g9, g10⟩ := okT_iff.1 g
    obtain ⟨K1, e1⟩ := txTerm_ev (c := c) (x := x) (y := y) (z := z) g1 g2 g4 g5 g6 g7 g8 g9
    dsimp only at e1
    refine ⟨K1 + K2, ?_⟩
    unfold laws_FnExactTermText.f laws_toTerm.f spec_TermText.f impl_TermText.f
    simp only [bs2]
    rw [poTerm_eq, decide_eq_true ⟨g1, g2, g4, g5, g6, g7, g8, g9, g10⟩]; simp only [bs2, if_true]
    rw [if_neg g3, e1 _ (by omega)]; simp only [bs2]
    rw [e2 _ (by omega), g]; simp only [bs2, if_true]
    rw [termText_eq g1 g2 g4 g5 g6 g7 g8 g9]; simp only [bs2]
    rw [if_pos trivial, if_neg (by simp)]
  · refine ⟨K2, ?_⟩
    unfold laws_FnExactTermText.f laws_toTerm.f spec_TermText.f impl_TermText.f
    simp only [bs2]
    have hs : (spec_poTerm.f c x y z).bind (fun t122 => (if t122 = true then (if c = 0 then (some ((⟨#[]⟩ : ByteArray), false)) else ((spec_txTerm.f K2 c x y z).bind fun t123 => (some (t123, true)))) else (some ((⟨#[]⟩ : ByteArray), false)))) = some ((⟨#[]⟩ : ByteArray), false) := by
      rw [poTerm_eq]; simp only [bs2, decide_eq_true_eq]
      by_cases h : -1000 ≤ c ∧ c ≤ 1000 ∧ 0 ≤ x ∧ x ≤ 4 ∧ 0 ≤ y ∧ y ≤ 4 ∧ 0 ≤ z ∧ z ≤ 4 ∧ x + y + z ≤ 4
      · rw [if_pos h]
        by_cases h0 : c = 0
        · rw [if_pos h0]
        · exact absurd (okT_iff.2 ⟨h.1, h.2.1, h0, h.2.2⟩) g
      · rw [if_neg h]
    rw [hs]; simp only [bs2]
    rw [e2 _ (Nat.le_refl _)]; simp only [bs2]
    rw [if_neg g]; simp only [bs2]
    rw [if_pos trivial, if_neg (by simp)]
end Go.Proofs.YtalaokjbbeepeaaDoor.Pure
