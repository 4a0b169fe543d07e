import Derived.Test.YtinpcalgdiigiaaQRoundOutPDx1
import Derived.Test.YtinpcalgdiigiaaQRoundOutMi
/- FnExactRoundOut, told over numbers alone: the law's printed function answers true. -/
namespace Go.Proofs.Ytinpcalgdiigiaa.Pure
open Go.RowKit Go.Proofs.Ytinpcalgdiigiaa.PD Go.Proofs.YtinpcalgdiigiaaW.PrintWords Go.Proofs.YtinpcalgdiigiaaW.PrintLast Go.Proofs.YtinpcalgdiigiaaW.PrintMore
theorem FnExactRoundOut (a0_0 a0_1 a0_2 a0_3 a1 : Int) (_w0_0 : (Lit.int .i64 a0_0).wf = true) (_w0_1 : (Lit.int .i64 a0_1).wf = true) (_w0_2 : (Lit.int .i64 a0_2).wf = true) (_w0_3 : (Lit.int .i64 a0_3).wf = true) (_w1 : (Lit.int .i64 a1).wf = true) : ∃ k, laws_FnExactRoundOut.f k a0_0 a0_1 a0_2 a0_3 a1 = some true := by
  have h : ∃ r, Ev (fun K => spec_RoundOut.f K a0_0 a0_1 a0_2 a0_3 a1) r ∧ Ev (fun K => impl_RoundOut.f K a0_0 a0_1 a0_2 a0_3 a1) r := by
    obtain ⟨K0, h0⟩ := ivGood_ev a0_0 a0_1 a0_2 a0_3
    obtain ⟨K1, h1⟩ := isInterval_ev a0_0 a0_1 a0_2 a0_3
    dsimp only at h0 h1
    by_cases g : goodI a0_0 a0_1 a0_2 a0_3 = true
    · by_cases g' : 0 ≤ a1 ∧ a1 ≤ 24
      · obtain ⟨p0, p1, p2⟩ := goodI_iff.1 g
        obtain ⟨p, rfl⟩ := Int.eq_ofNat_of_zero_le g'.1
        obtain ⟨K2, h2⟩ := ivRound_ev p0 p1 (p := p) (by omega)
        obtain ⟨K3, h3⟩ := roundOut_ev p0 p1 (p := p) (by omega)
        dsimp only at h2 h3
        refine ⟨((rndI a0_0 a0_1 a0_2 a0_3 p).1, (rndI a0_0 a0_1 a0_2 a0_3 p).2.1, (rndI a0_0 a0_1 a0_2 a0_3 p).2.2.1, (rndI a0_0 a0_1 a0_2 a0_3 p).2.2.2, true), ⟨K0 + K2, fun K hK => ?_⟩, ⟨K1 + K3, fun K hK => ?_⟩⟩
        · dsimp only; unfold spec_RoundOut.f
          rw [h0 K (by omega), g]; simp only [bs, if_true]
          rw [l1In_eq, decide_eq_true g']; simp only [bs, if_true]
          rw [h2 K (by omega)]; rfl
        · dsimp only; unfold impl_RoundOut.f
          rw [h1 K (by omega), g]; simp only [bs, if_true]
          rw [isPlaces_eq, decide_eq_true g']; simp only [bs, if_true]
          rw [h3 K (by omega)]; rfl
      · refine ⟨(0, 0, 0, 0, false), ⟨K0, fun K hK => ?_⟩, ⟨K1, fun K hK => ?_⟩⟩
        · dsimp only; unfold spec_RoundOut.f
          rw [h0 K hK, g]; simp only [bs, if_true]
          rw [l1In_eq, decide_eq_false g']; rfl
        · dsimp only; unfold impl_RoundOut.f
          rw [h1 K hK, g]; simp only [bs, if_true]
          rw [isPlaces_eq, decide_eq_false g']; rfl
    · refine ⟨(0, 0, 0, 0, false), ⟨K0, fun K hK => ?_⟩, ⟨K1, fun K hK => ?_⟩⟩
      · dsimp only; unfold spec_RoundOut.f
        rw [h0 K hK, Bool.eq_false_iff.2 g]; rfl
      · dsimp only; unfold impl_RoundOut.f
        rw [h1 K hK, Bool.eq_false_iff.2 g]; rfl
  obtain ⟨r, h0, h1⟩ := h
  unfold laws_FnExactRoundOut.f
  rw [toInterval_eq]; simp only [bs]
  exact law_v h0 h1
end Go.Proofs.Ytinpcalgdiigiaa.Pure
