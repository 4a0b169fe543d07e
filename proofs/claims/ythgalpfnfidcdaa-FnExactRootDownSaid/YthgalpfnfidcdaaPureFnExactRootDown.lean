/- FnExactRootDown, told over numbers alone: the law's printed function answers true. -/
import Derived.Test.YthgalpfnfidcdaaPDx1
import Derived.Test.YthgalpfnfidcdaaMc
import Derived.Test.YthgalpfnfidcdaaMe
namespace Go.Proofs.Ythgalpfnfidcdaa.Pure
open Go.RowKit Go.Proofs.Ythgalpfnfidcdaa.PD Go.Proofs.YthgalpfnfidcdaaW.PrintWords Go.Proofs.YthgalpfnfidcdaaW.PrintLast Go.Proofs.YthgalpfnfidcdaaW.PrintMore
theorem FnExactRootDown (a0_0 a0_1 a1 : Int) (_w0_0 : (Lit.int .i64 a0_0).wf = true) (_w0_1 : (Lit.int .i64 a0_1).wf = true) (_w1 : (Lit.int .i64 a1).wf = true) : ∃ k, laws_FnExactRootDown.f k a0_0 a0_1 a1 = some true := by
  have h : ∃ r, Ev (fun K => spec_RootDown.f K a0_0 a0_1 a1) r ∧ Ev (fun K => impl_RootDown.f K a0_0 a0_1 a1) r := by
    by_cases g0 : good a0_0 a0_1 = true
    · by_cases g1 : 0 ≤ a1 ∧ a1 ≤ 24
      · obtain ⟨ka, rfl, hka⟩ := good_k g0
        obtain ⟨p, rfl⟩ := Int.eq_ofNat_of_zero_le g1.1
        by_cases c : a0_0 < 0
        · refine ⟨(0, 0, false), ⟨0, fun K _ => ?_⟩, ⟨1, fun K hK => ?_⟩⟩
          · dsimp only; unfold spec_RootDown.f
            rw [dyPlaces_eq, g0, decide_eq_true g1]; simp only [bs, Bool.and_self, if_true]
            rw [if_pos c]
          · dsimp only; unfold impl_RootDown.f
            obtain ⟨K, rfl⟩ : ∃ j, K = j + 1 := ⟨K - 1, by omega⟩
            rw [isDyadic_eq, g0]; simp only [bs, if_true]
            rw [if_pos c]; simp only [impl_RootDown.j0, if_true]
        · obtain ⟨m, ⟨K0, h0⟩, r0⟩ := dyRoot_ev (good_small g0) (by omega) hka (p := p) (by omega)
          obtain ⟨m', ⟨K1, h1⟩, r1⟩ := root_ev (good_small g0) (by omega) hka (p := p) (by omega)
          have := root_one r0 r1
          subst this
          dsimp only at h0 h1
          refine ⟨mk m p, ⟨K0, fun K hK => ?_⟩, ⟨K1, fun K hK => ?_⟩⟩
          · dsimp only; unfold spec_RootDown.f
            rw [dyPlaces_eq, g0, decide_eq_true g1]; simp only [bs, Bool.and_self, if_true]
            rw [if_neg c, h0 K hK]; rfl
          · dsimp only; unfold impl_RootDown.f
            rw [isDyadic_eq, isPlaces_eq, g0, decide_eq_true g1]; simp only [bs, if_true]
            rw [if_neg c]; exact h1 K hK
      · refine ⟨(0, 0, false), ⟨0, fun K _ => ?_⟩, ⟨1, fun K hK => ?_⟩⟩
        · dsimp only; unfold spec_RootDown.f
          rw [dyPlaces_eq, g0, decide_eq_false g1]; rfl
        · dsimp only; unfold impl_RootDown.f
          obtain ⟨K, rfl⟩ : ∃ j, K = j + 1 := ⟨K - 1, by omega⟩
          rw [isDyadic_eq, isPlaces_eq, g0, decide_eq_false g1]; simp only [bs, if_true]
          split <;> simp only [impl_RootDown.j0, if_true, Bool.not_false]
    · refine ⟨(0, 0, false), ⟨0, fun K _ => ?_⟩, ⟨1, fun K hK => ?_⟩⟩
      · dsimp only; unfold spec_RootDown.f
        rw [dyPlaces_eq, Bool.eq_false_iff.2 g0]; rfl
      · dsimp only; unfold impl_RootDown.f
        obtain ⟨K, rfl⟩ : ∃ j, K = j + 1 := ⟨K - 1, by omega⟩
        rw [isDyadic_eq, Bool.eq_false_iff.2 g0]; rfl
  obtain ⟨r, h0, h1⟩ := h
  exact law_d h0 h1
end Go.Proofs.Ythgalpfnfidcdaa.Pure
