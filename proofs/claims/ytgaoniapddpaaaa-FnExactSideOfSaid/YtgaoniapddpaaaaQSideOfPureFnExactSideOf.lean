import Derived.Test.YtgaoniapddpaaaaQSideOfPDx1
import Derived.Test.YtgaoniapddpaaaaQSideOfMs
/- FnExactSideOf, told over numbers and lists alone: the law's printed function answers true. -/
namespace Go.Proofs.Ytgaoniapddpaaaa.Pure
open Go.RowKit Go.Proofs.Ytgaoniapddpaaaa.PD Go.Proofs.YtgaoniapddpaaaaW.PrintWords Go.Proofs.YtgaoniapddpaaaaW.PrintLast Go.Proofs.YtgaoniapddpaaaaW.PrintMore
theorem FnExactSideOf (a0_0 : Int) (l0_1 l0_2 : List Int) (a1 : Int) (_w0_0 : (Lit.int .i64 a0_0).wf = true) (w0_1 : l0_1.length ≤ maxLen ∧ ∀ y ∈ l0_1, (Lit.int .i64 y).wf = true) (w0_2 : l0_2.length ≤ maxLen ∧ ∀ y ∈ l0_2, (Lit.int .i64 y).wf = true) (_w1 : (Lit.int .i64 a1).wf = true) : ∃ k, laws_FnExactSideOf.f k a0_0 l0_1 l0_2 a1 = some true := by
  have m1 : l0_1.length ≤ 9223372036854775807 := w0_1.1
  have m2 : l0_2.length ≤ 9223372036854775807 := w0_2.1
  obtain ⟨t, ht, hc⟩ := szBox_eq (k := a0_0) m1 m2
  rcases hc with hc | ⟨h0, h1, h2⟩
  · refine ⟨0, ?_⟩
    unfold laws_FnExactSideOf.f
    rw [ht]; simp only [bs']
    rw [if_pos hc]
  · obtain ⟨K0, e0⟩ := toBox_ev (k := a0_0) h1 h2 false
    obtain ⟨K1, e1⟩ := toBox_ev (k := a0_0) h1 h2 true
    obtain ⟨_, ⟨K3, e3⟩⟩ := bxGood_ev a0_0 l0_1 l0_2 m1
    obtain ⟨K2, e2⟩ := bxSide_ev a0_0 l0_1 l0_2 m1 a1
    dsimp only at e0 e1 e2 e3
    have key : ∃ n r, ∀ K, n ≤ K → spec_SideOf.f K a0_0 l0_1 l0_2 a1 = some r ∧ impl_SideOf.f K a0_0 l0_1 l0_2 a1 = some r := by
      by_cases g : goodB a0_0 l0_1 l0_2 = true
      · have G := goodB_ok g
        have l3 := G.l3
        have hl := G.hl
        by_cases hi : 0 ≤ a1 ∧ a1 < (l0_1.length : Int)
        · obtain ⟨i, rfl⟩ := Int.eq_ofNat_of_zero_le hi.1
          have hs := okS_small G.k0 G.k8 (G.side i (by omega))
          obtain ⟨K4, e4⟩ := dyadic_ev (n := l0_1.getD i 0) (K := a0_0) (by omega) G.k0 (by have := G.k8; omega) l0_1 l0_2
          obtain ⟨K5, e5⟩ := dyadic_ev (n := l0_2.getD i 0) (K := a0_0) (by omega) G.k0 (by have := G.k8; omega) l0_1 l0_2
          obtain ⟨K6, e6⟩ := bxNumber_ev (n := l0_1.getD i 0) (K := a0_0) (by omega) G.k0 (by have := G.k8; omega)
          obtain ⟨K7, e7⟩ := bxNumber_ev (n := l0_2.getD i 0) (K := a0_0) (by omega) G.k0 (by have := G.k8; omega)
          dsimp only at e4 e5 e6 e7
          refine ⟨K2 + K3 + K4 + K5 + K6 + K7, ((mk (l0_1.getD i 0) a0_0.toNat).1, (mk (l0_1.getD i 0) a0_0.toNat).2.1, (mk (l0_2.getD i 0) a0_0.toNat).1, (mk (l0_2.getD i 0) a0_0.toNat).2.1, true), fun K hK => ⟨?_, ?_⟩⟩
          rotate_left
          · unfold impl_SideOf.f
            rw [e3 _ (by omega), g]; simp only [bs', if_true]
            rw [has_eq _ l3, decide_eq_true hi]; simp only [bs', if_true]
            unfold impl_Box_side.f
            rw [if_pos (by omega), if_pos (by omega), if_pos (by omega), rd_at, rd_at, e4 _ (by omega)]; simp only [bs']
            rw [e5 _ (by omega)]; simp only [bs']
          · unfold spec_SideOf.f
            rw [e2 _ (by omega), g, decide_eq_true hi]; simp only [bs', Bool.and_self, if_true]
            rw [if_pos (by omega), if_pos (by omega), rd_at, rd_at, e6 _ (by omega)]; simp only [bs']
            rw [if_pos (by omega), e7 _ (by omega)]; simp only [bs']
        · refine ⟨K2 + K3, (0, 0, 0, 0, false), fun K hK => ⟨?_, ?_⟩⟩
          · unfold spec_SideOf.f
            rw [e2 _ (by omega), decide_eq_false hi, Bool.and_false]; simp only [bs']
            rw [if_neg (by decide)]
          · unfold impl_SideOf.f
            rw [e3 _ (by omega), g]; simp only [bs', if_true]
            rw [has_eq _ l3, decide_eq_false hi]; simp only [bs']
            rw [if_neg (by decide)]
      · refine ⟨K2 + K3, (0, 0, 0, 0, false), fun K hK => ⟨?_, ?_⟩⟩
        · unfold spec_SideOf.f
          rw [e2 _ (by omega), Bool.eq_false_iff.2 g, Bool.false_and]; simp only [bs']
          rw [if_neg (by decide)]
        · unfold impl_SideOf.f
          rw [e3 _ (by omega)]; simp only [bs']
          rw [if_neg g]
    obtain ⟨n, r, key⟩ := key
    obtain ⟨s2, s3⟩ := key (K0 + K1 + n) (by omega)
    refine ⟨K0 + K1 + n, ?_⟩
    unfold laws_FnExactSideOf.f
    rw [ht]; simp only [bs']
    rw [if_neg (by omega), e0 _ (by omega)]; simp only [bs']
    rw [s2]; simp only [bs']
    rw [s3]; simp only [bs']
    rw [eqDy_self]; simp only [bs', if_true]
    rw [eqDy_self]; simp only [bs', if_true]
    rw [if_neg (by simp), intactBox_self]; simp only [bs', if_true]
    rw [e1 _ (by omega)]; simp only [bs']
    rw [s3]; simp only [bs']
    rw [eqDy_self]; simp only [bs', if_true]
    rw [eqDy_self]; simp only [bs', if_true]
    rw [if_neg (by simp)]
end Go.Proofs.Ytgaoniapddpaaaa.Pure
