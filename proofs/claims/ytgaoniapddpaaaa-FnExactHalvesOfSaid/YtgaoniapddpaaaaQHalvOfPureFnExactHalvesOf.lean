import Derived.Test.YtgaoniapddpaaaaQHalvOfPDx1
import Derived.Test.YtgaoniapddpaaaaQHalvOfNf
/- FnExactHalvesOf, told over numbers and lists alone: the law's printed function answers true. -/
namespace Go.Proofs.Ytgaoniapddpaaaa.Pure
open Go.RowKit Go.Proofs.Ytgaoniapddpaaaa.PD Go.Proofs.YtgaoniapddpaaaaW.PrintWords Go.Proofs.YtgaoniapddpaaaaW.PrintLast Go.Proofs.YtgaoniapddpaaaaW.PrintMore
theorem FnExactHalvesOf (a0_0 : Int) (l0_1 l0_2 : List Int) (a1 : Int) (_w0_0 : (Lit.int .i64 a0_0).wf = true) (w0_1 : l0_1.length ≤ maxLen ∧ ∀ y ∈ l0_1, (Lit.int .i64 y).wf = true) (w0_2 : l0_2.length ≤ maxLen ∧ ∀ y ∈ l0_2, (Lit.int .i64 y).wf = true) (_w1 : (Lit.int .i64 a1).wf = true) : ∃ k, laws_FnExactHalvesOf.f k a0_0 l0_1 l0_2 a1 = some true := by
  have m1 : l0_1.length ≤ 9223372036854775807 := w0_1.1
  have m2 : l0_2.length ≤ 9223372036854775807 := w0_2.1
  obtain ⟨t, ht, hc⟩ := szBox_eq (k := a0_0) m1 m2
  rcases hc with hc | ⟨h0, h1, h2⟩
  · refine ⟨0, ?_⟩
    unfold laws_FnExactHalvesOf.f
    rw [ht]; simp only [bs']
    rw [if_pos hc]
  · obtain ⟨K0, e0⟩ := toBox_ev (k := a0_0) h1 h2 false
    obtain ⟨K1, e1⟩ := toBox_ev (k := a0_0) h1 h2 true
    obtain ⟨⟨K2, e2⟩, ⟨K3, e3⟩⟩ := bxGood_ev a0_0 l0_1 l0_2 m1
    obtain ⟨K4, e4⟩ := markBoxV_ev a0_0 h1 h2 (v := 101) (by omega) (by omega)
    dsimp only at e0 e1 e2 e3 e4
    obtain ⟨K8, e8⟩ := bxSide_ev a0_0 l0_1 l0_2 m1 a1
    dsimp only at e8
    have key : ∃ (r : List S27 × Bool) (n : Nat), r.1.length ≤ 2 ∧ (∀ x ∈ r.1, x.f1.length ≤ 3 ∧ x.f2.length ≤ 3) ∧ ∀ K, n ≤ K → spec_HalvesOf.f K a0_0 l0_1 l0_2 a1 = some r ∧ impl_HalvesOf.f K a0_0 l0_1 l0_2 a1 = some r := by
      by_cases g : goodB a0_0 l0_1 l0_2 = true
      · have G := goodB_ok g
        have l3 := G.l3
        by_cases hi : 0 ≤ a1 ∧ a1 < (l0_1.length : Int)
        · obtain ⟨i, rfl⟩ := Int.eq_ofNat_of_zero_le hi.1
          obtain ⟨⟨N1, h3⟩, ⟨N2, h4⟩⟩ := halves_ev G (i := i) (by omega)
          dsimp only at h3 h4
          refine ⟨hlv a0_0.toNat l0_1 l0_2 i, N1 + N2 + K8 + K3, (hlv_small _ _ _ _).1, (hlv_small _ _ _ _).2, fun K hK => ⟨?_, ?_⟩⟩
          · unfold spec_HalvesOf.f
            rw [e8 _ (by omega), g, decide_eq_true hi]; simp only [bs', Bool.and_self, if_true]
            rw [h3 K (by omega)]; simp only [bs']
          · unfold impl_HalvesOf.f
            rw [e3 _ (by omega), g]; simp only [bs', if_true]
            rw [has_eq _ l3, decide_eq_true hi]; simp only [bs', if_true]
            rw [h4 K (by omega)]; simp only [bs']
        · refine ⟨([], false), K8 + K3, by simp, by simp, fun K hK => ⟨?_, ?_⟩⟩
          · unfold spec_HalvesOf.f
            rw [e8 _ (by omega), g, decide_eq_false hi, Bool.and_false]; simp only [bs']
            rw [if_neg (by decide)]
          · unfold impl_HalvesOf.f
            rw [e3 _ (by omega), g]; simp only [bs', if_true]
            rw [has_eq _ l3, decide_eq_false hi]; simp only [bs']
            rw [if_neg (by decide)]
      · refine ⟨([], false), K8 + K3, by simp, by simp, fun K hK => ⟨?_, ?_⟩⟩
        · unfold spec_HalvesOf.f
          rw [e8 _ (by omega), Bool.eq_false_iff.2 g, Bool.false_and]; simp only [bs']
          rw [if_neg (by decide)]
        · unfold impl_HalvesOf.f
          rw [e3 _ (by omega)]; simp only [bs']
          rw [if_neg g]
    obtain ⟨r, n, hr, hr3, key⟩ := key
    obtain ⟨K5, e5⟩ := eqBSS_ev (l := r.1) (by omega) (fun x h => by have := hr3 x h; omega)
    obtain ⟨t2, g2, h20, ⟨K6, e6⟩, ⟨K7, e7⟩⟩ := markBSS_ev (x := r.1) hr hr3
    dsimp only at e5 e6 e7
    obtain ⟨s2, s3⟩ := key (K0 + K1 + K4 + K5 + K6 + K7 + n) (by omega)
    refine ⟨K0 + K1 + K4 + K5 + K6 + K7 + n, ?_⟩
    unfold laws_FnExactHalvesOf.f
    rw [ht]; simp only [bs']
    rw [if_neg (by omega), e0 _ (by omega)]; simp only [bs']
    rw [s2]; simp only [bs']
    rw [s3]; simp only [bs']
    rw [e5 _ (by omega)]; simp only [bs', if_true]
    rw [if_neg (by simp), intactBox_self]; simp only [bs', if_true]
    rw [e4 _ (by omega)]; simp only [bs']
    rw [if_neg (by omega)]
    rw [e6 _ (by omega)]; simp only [bs']
    rw [e7 _ (by omega)]; simp only [bs', if_true]
    rw [if_neg (by omega), e1 _ (by omega)]; simp only [bs']
    rw [s3]; simp only [bs']
    rw [e5 _ (by omega)]; simp only [bs', if_true]
    rw [if_neg (by simp), if_neg (by omega)]
end Go.Proofs.Ytgaoniapddpaaaa.Pure
