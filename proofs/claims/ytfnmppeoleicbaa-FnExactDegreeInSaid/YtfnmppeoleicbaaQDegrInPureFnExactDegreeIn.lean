import Derived.Test.YtfnmppeoleicbaaQDegrInPDx1
import Derived.Test.YtfnmppeoleicbaaQDegrInMr
/- FnExactDegreeIn, told over numbers and lists alone: the law's printed function answers true. -/
namespace Go.Proofs.Ytfnmppeoleicbaa.Pure
open Go.RowKit Go.Proofs.Ytfnmppeoleicbaa.PD Go.Proofs.YtfnmppeoleicbaaW.PrintWords Go.Proofs.YtfnmppeoleicbaaW.PrintLast Go.Proofs.YtfnmppeoleicbaaW.PrintMore
theorem power_eq (t : S55) (k : Int) : spec_poPower.f t.f0 t.f1 t.f2 t.f3 k = some (impl_DegreeIn.pw t k) := by
  unfold spec_poPower.f impl_DegreeIn.pw
  by_cases h : k = 0
  · rw [if_pos h, if_pos h]
  · rw [if_neg h, if_neg h]
    by_cases h2 : k = 1
    · rw [if_pos h2, if_pos h2]
    · rw [if_neg h2, if_neg h2]
theorem degreeIn_l0 {l : List S55} (hl : l.length ≤ 1000000) (a : Int) : ∀ (d i K : Nat) (m : Int), i + d = l.length → d < K → ∃ r, spec_poDegreeIn.l0 K a m l (l.length : Int) (i : Int) = some r ∧ impl_DegreeIn.l0 K l a m (i : Int) = some (r, true) := by
  intro d
  induction d with
  | zero =>
    intro i K m hi hK
    obtain ⟨K, rfl⟩ : ∃ j, K = j + 1 := ⟨K - 1, by omega⟩
    refine ⟨m, ?_, ?_⟩
    · simp only [spec_poDegreeIn.l0]; rw [if_neg (by omega)]
    · simp only [impl_DegreeIn.l0]; rw [if_neg (by omega)]
  | succ d ih =>
    intro i K m hi hK
    obtain ⟨K, rfl⟩ : ∃ j, K = j + 1 := ⟨K - 1, by omega⟩
    have hw : wrap64 ((i : Int) + 1) = ((i + 1 : Nat) : Int) := by rw [w64 (by omega) (by omega)]; omega
    obtain ⟨r, h1, h2⟩ := ih (i + 1) K (mx m (impl_DegreeIn.pw (rd_T55 l (i : Int)) a)) (by omega) (by omega)
    refine ⟨r, ?_, ?_⟩
    · simp only [spec_poDegreeIn.l0]
      rw [if_pos (by omega), if_pos (by omega), if_pos (by omega), power_eq]; simp only [bs']
      rw [most_eq]; simp only [bs']
      rw [hw]; exact h1
    · simp only [impl_DegreeIn.l0]
      rw [if_pos (by omega), if_pos (by omega), hw]; exact h2
theorem FnExactDegreeIn (l0 : List S57) (a1 : Int) (w0 : l0.length ≤ maxLen ∧ ∀ y ∈ l0, ((Lit.int .i64 y.f0).wf = true ∧ ((Lit.int .i64 y.f1).wf = true ∧ ((Lit.int .i64 y.f2).wf = true ∧ (Lit.int .i64 y.f3).wf = true)))) (_w1 : (Lit.int .i64 a1).wf = true) : ∃ k, laws_FnExactDegreeIn.f k l0 a1 = some true := by
  have m1 : l0.length ≤ 9223372036854775807 := w0.1
  obtain ⟨t, ht, hc⟩ := szTermS_eq m1
  rcases hc with hc | ⟨h0, h1⟩
  · refine ⟨0, ?_⟩
    unfold laws_FnExactDegreeIn.f
    rw [ht]; simp only [bs']
    rw [if_pos hc]
  · obtain ⟨K0, e0⟩ := toTermS_ev h1 false
    obtain ⟨K1, e1⟩ := toTermS_ev h1 true
    have h2 : (l0.map cvT).length ≤ 1000000 := by rw [List.length_map]; exact h1
    obtain ⟨K2, e2⟩ := poGood_ev h2
    obtain ⟨K3, e3⟩ := isPoly_ev h2
    dsimp only at e0 e1 e2 e3
    have key : ∀ K, K2 + K3 + l0.length + 1 ≤ K → ∃ r, spec_DegreeIn.f K (l0.map cvT) a1 = some r ∧ impl_DegreeIn.f K (l0.map cvT) a1 = some r := by
      intro K hK
      by_cases g : goodT (l0.map cvT) = true
      · by_cases hu : 0 ≤ a1 ∧ a1 ≤ 2
        · obtain ⟨r, h3, h4⟩ := degreeIn_l0 h2 a1 (l0.map cvT).length 0 K (-1) (by omega) (by rw [List.length_map]; omega)
          refine ⟨(r, true), ?_, ?_⟩
          · unfold spec_DegreeIn.f spec_poDegreeIn.f spec_poUnknown.f
            rw [e2 _ (by omega), g]; simp only [bs', if_true]
            rw [l1In_eq, decide_eq_true hu]; simp only [bs', if_true]
            rw [show (0 : Int) = ((0 : Nat) : Int) from rfl, h3]; simp only [bs']
          · unfold impl_DegreeIn.f impl_isUnknown.f
            rw [e3 _ (by omega), g]; simp only [bs', if_true]
            rw [inside_eq, decide_eq_true hu]; simp only [bs', if_true]
            rw [if_pos hu.1, if_pos hu.2, show (0 : Int) = ((0 : Nat) : Int) from rfl, h4]
        · refine ⟨(0, false), ?_, ?_⟩
          · unfold spec_DegreeIn.f spec_poUnknown.f
            rw [e2 _ (by omega), g]; simp only [bs', if_true]
            rw [l1In_eq, decide_eq_false hu]; simp only [bs']
            rw [if_neg (by decide)]
          · unfold impl_DegreeIn.f impl_isUnknown.f
            rw [e3 _ (by omega), g]; simp only [bs', if_true]
            rw [inside_eq, decide_eq_false hu]; simp only [bs']
            rw [if_neg (by decide)]
      · refine ⟨(0, false), ?_, ?_⟩
        · unfold spec_DegreeIn.f
          rw [e2 _ (by omega)]; simp only [bs']
          rw [if_neg g]
        · unfold impl_DegreeIn.f
          rw [e3 _ (by omega)]; simp only [bs']
          rw [if_neg g]
    obtain ⟨r, s2, s3⟩ := key (K0 + K1 + K2 + K3 + l0.length + 1) (by omega)
    refine ⟨K0 + K1 + K2 + K3 + l0.length + 1, ?_⟩
    unfold laws_FnExactDegreeIn.f
    rw [ht]; simp only [bs']
    rw [if_neg (by omega), e0 _ (by omega)]; simp only [bs']
    rw [s2]; simp only [bs']
    rw [s3]; simp only [bs', if_true]
    rw [if_neg (by simp), intactTermS_self]; simp only [bs', if_true]
    rw [e1 _ (by omega)]; simp only [bs']
    rw [s3]; simp only [bs', if_true]
    rw [if_neg (by simp)]
end Go.Proofs.Ytfnmppeoleicbaa.Pure
