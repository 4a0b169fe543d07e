import Derived.Test.YtgaoniapddpaaaaQCornOfPDx1
import Derived.Test.YtgaoniapddpaaaaQCornOfNe
/- FnExactCornersOf, told over numbers and lists alone: the law's printed function answers true. -/
namespace Go.Proofs.Ytgaoniapddpaaaa.Pure
open Go.RowKit Go.Proofs.Ytgaoniapddpaaaa.PD Go.Proofs.YtgaoniapddpaaaaW.PrintWords Go.Proofs.YtgaoniapddpaaaaW.PrintLast Go.Proofs.YtgaoniapddpaaaaW.PrintMore
theorem FnExactCornersOf (a0_0 : Int) (l0_1 l0_2 : List Int) (_w0_0 : (Lit.int .i64 a0_0).wf = true) (w0_1 : l0_1.length ≤ maxLen ∧ ∀ y ∈ l0_1, (Lit.int .i64 y).wf = true) (w0_2 : l0_2.length ≤ maxLen ∧ ∀ y ∈ l0_2, (Lit.int .i64 y).wf = true) : ∃ k, laws_FnExactCornersOf.f k a0_0 l0_1 l0_2 = some true := by
  have m1 : l0_1.length ≤ 9223372036854775807 := w0_1.1
  have m2 : l0_2.length ≤ 9223372036854775807 := w0_2.1
  obtain ⟨t, ht, hc⟩ := szBox_eq (k := a0_0) m1 m2
  rcases hc with hc | ⟨h0, h1, h2⟩
  · refine ⟨0, ?_⟩
    unfold laws_FnExactCornersOf.f
    rw [ht]; simp only [bs']
    rw [if_pos hc]
  · obtain ⟨K0, e0⟩ := toBox_ev (k := a0_0) h1 h2 false
    obtain ⟨K1, e1⟩ := toBox_ev (k := a0_0) h1 h2 true
    obtain ⟨⟨K2, e2⟩, ⟨K3, e3⟩⟩ := bxGood_ev a0_0 l0_1 l0_2 m1
    obtain ⟨q, hq, ⟨K4, e4⟩⟩ := markBox_ev a0_0 h1 h2
    dsimp only at e0 e1 e2 e3 e4
    have key : ∃ (r : List (List S37) × Bool) (n : Nat), r.1.length ≤ 8 ∧ (∀ x ∈ r.1, x.length ≤ 3) ∧ ∀ K, n ≤ K → spec_CornersOf.f K a0_0 l0_1 l0_2 = some r ∧ impl_CornersOf.f K a0_0 l0_1 l0_2 = some r := by
      by_cases g : goodB a0_0 l0_1 l0_2 = true
      · have G := goodB_ok g
        have l3 := G.l3
        obtain ⟨N1, h3⟩ := corners_ev G l0_1.length 0 (by omega)
        obtain ⟨N2, h4⟩ := implc_l0 G l0_1.length 0 [[]] (by omega) (by rw [List.length_singleton, Nat.one_mul]; exact pow_le3 l3) (fun r h => by rw [List.mem_singleton.1 h]; exact Nat.le_refl _)
        dsimp only at h3 h4
        have hcn : (sd a0_0 l0_1 l0_2 l0_1.length 0).foldl st [[]] = cn (sd a0_0 l0_1 l0_2 l0_1.length 0) := by
          rw [st_cn]; simp
        rw [hcn] at h4
        refine ⟨(cn (sd a0_0 l0_1 l0_2 l0_1.length 0), true), N1 + N2 + K2 + K3, by show (cn _).length ≤ 8; rw [cn_len, sd_len]; exact pow_le3 l3, fun x hx => by rw [cn_rows _ x hx, sd_len]; exact l3, fun K hK => ⟨?_, ?_⟩⟩
        · unfold spec_CornersOf.f
          rw [e2 _ (by omega), g]; simp only [bs', if_true]
          rw [show (0 : Int) = ((0 : Nat) : Int) from rfl, h3 K (by omega)]; simp only [bs']
        · unfold impl_CornersOf.f
          rw [e3 _ (by omega), g]; simp only [bs', if_true]
          exact h4 K (by omega)
      · refine ⟨([], false), K2 + K3, by simp, by simp, fun K hK => ⟨?_, ?_⟩⟩
        · unfold spec_CornersOf.f
          rw [e2 _ (by omega)]; simp only [bs']
          rw [if_neg g]
        · unfold impl_CornersOf.f
          rw [e3 _ (by omega)]; simp only [bs']
          rw [if_neg g]
    obtain ⟨r, n, hr, hr3, key⟩ := key
    obtain ⟨K5, e5⟩ := eqDSS_ev (l := r.1) (by omega) (fun x h => by have := hr3 x h; omega)
    obtain ⟨t2, g2, h20, ⟨K6, e6⟩, ⟨K7, e7⟩⟩ := markDSS_ev (x := r.1) hr hr3
    dsimp only at e5 e6 e7
    obtain ⟨s2, s3⟩ := key (K0 + K1 + K4 + K5 + K6 + K7 + n) (by omega)
    refine ⟨K0 + K1 + K4 + K5 + K6 + K7 + n, ?_⟩
    unfold laws_FnExactCornersOf.f
    rw [ht]; simp only [bs']
    rw [if_neg (by omega), e0 _ (by omega)]; simp only [bs']
    rw [s2]; simp only [bs']
    rw [s3]; simp only [bs']
    rw [e5 _ (by omega)]; simp only [bs', if_true]
    rw [if_neg (by simp), intactBox_self]; simp only [bs', if_true]
    rw [e4 _ (by omega)]; simp only [bs']
    rw [if_neg (by omega)]
    rw [e6 _ (by omega)]; simp only [bs']
    rw [e7 _ (by omega)]; simp only [bs', if_true]
    rw [if_neg (by omega), e1 _ (by omega)]; simp only [bs']
    rw [s3]; simp only [bs']
    rw [e5 _ (by omega)]; simp only [bs', if_true]
    rw [if_neg (by simp), if_neg (by omega)]
end Go.Proofs.Ytgaoniapddpaaaa.Pure
