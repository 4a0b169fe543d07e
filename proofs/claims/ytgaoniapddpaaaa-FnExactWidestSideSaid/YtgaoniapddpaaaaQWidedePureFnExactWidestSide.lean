import Derived.Test.YtgaoniapddpaaaaQWidedePDx1
import Derived.Test.YtgaoniapddpaaaaQWidedeMq
/- FnExactWidestSide, told over numbers and lists alone: the law's printed function answers true. -/
namespace Go.Proofs.Ytgaoniapddpaaaa.Pure
open Go.RowKit Go.Proofs.Ytgaoniapddpaaaa.PD Go.Proofs.YtgaoniapddpaaaaW.PrintWords Go.Proofs.YtgaoniapddpaaaaW.PrintLast Go.Proofs.YtgaoniapddpaaaaW.PrintMore
theorem length_eq (k : Int) (L H : List Int) (i : Nat) (hi : i < L.length) (hh : H.length = L.length) : impl_Box_length.f k L H (i : Int) = some (wrap64 (rd H i - rd L i), k) := by
  unfold impl_Box_length.f
  rw [if_pos (by omega), if_pos (by omega), if_pos (by omega)]
theorem widest_l0 (k : Int) (L H : List Int) (hL : L.length ≤ 3) (hh : H.length = L.length) : ∀ (d i b K : Nat), i + d = L.length → b < L.length → d < K →
    ∃ r : Int, spec_bxWidest.l0 K (b : Int) L (L.length : Int) (i : Int) k L H = some r ∧ impl_WidestSide.l0 K (b : Int) (L.length : Int) (i : Int) k L H = some (r, true) := by
  intro d
  induction d with
  | zero =>
    intro i b K hi hb hK
    obtain ⟨K, rfl⟩ : ∃ j, K = j + 1 := ⟨K - 1, by omega⟩
    refine ⟨(b : Int), ?_, ?_⟩
    · simp only [spec_bxWidest.l0]; rw [if_neg (by omega)]
    · simp only [impl_WidestSide.l0]; rw [if_neg (by omega)]
  | succ d ih =>
    intro i b K hi hb hK
    obtain ⟨K, rfl⟩ : ∃ j, K = j + 1 := ⟨K - 1, by omega⟩
    have hw : wrap64 ((i : Int) + 1) = ((i + 1 : Nat) : Int) := by rw [w64 (by omega) (by omega)]; omega
    by_cases h : wrap64 (rd H (i : Int) - rd L (i : Int)) > wrap64 (rd H (b : Int) - rd L (b : Int))
    · obtain ⟨r, h1, h2⟩ := ih (i + 1) i K (by omega) (by omega) (by omega)
      refine ⟨r, ?_, ?_⟩
      · simp only [spec_bxWidest.l0]
        rw [if_pos (by omega), if_pos (by omega), if_pos (by omega), if_pos (by omega), if_pos (by omega), if_pos (by omega), if_pos (by omega), if_pos h, hw]; exact h1
      · simp only [impl_WidestSide.l0]
        rw [if_pos (by omega), length_eq k L H i (by omega) hh]; simp only [bs']
        rw [length_eq k L H b hb hh]; simp only [bs']
        rw [if_pos h, hw]; exact h2
    · obtain ⟨r, h1, h2⟩ := ih (i + 1) b K (by omega) hb (by omega)
      refine ⟨r, ?_, ?_⟩
      · simp only [spec_bxWidest.l0]
        rw [if_pos (by omega), if_pos (by omega), if_pos (by omega), if_pos (by omega), if_pos (by omega), if_pos (by omega), if_pos (by omega), if_neg h, hw]; exact h1
      · simp only [impl_WidestSide.l0]
        rw [if_pos (by omega), length_eq k L H i (by omega) hh]; simp only [bs']
        rw [length_eq k L H b hb hh]; simp only [bs']
        rw [if_neg h, hw]; exact h2
theorem FnExactWidestSide (a0_0 : Int) (l0_1 l0_2 : List Int) (_w0_0 : (Lit.int .i64 a0_0).wf = true) (w0_1 : l0_1.length ≤ maxLen ∧ ∀ y ∈ l0_1, (Lit.int .i64 y).wf = true) (w0_2 : l0_2.length ≤ maxLen ∧ ∀ y ∈ l0_2, (Lit.int .i64 y).wf = true) : ∃ k, laws_FnExactWidestSide.f k a0_0 l0_1 l0_2 = some true := by
  have m1 : l0_1.length ≤ 9223372036854775807 := w0_1.1
  have m2 : l0_2.length ≤ 9223372036854775807 := w0_2.1
  obtain ⟨t, ht, hc⟩ := szBox_eq (k := a0_0) m1 m2
  rcases hc with hc | ⟨h0, h1, h2⟩
  · refine ⟨0, ?_⟩
    unfold laws_FnExactWidestSide.f
    rw [ht]; simp only [bs']
    rw [if_pos hc]
  · obtain ⟨K0, e0⟩ := toBox_ev (k := a0_0) h1 h2 false
    obtain ⟨K1, e1⟩ := toBox_ev (k := a0_0) h1 h2 true
    obtain ⟨⟨K2, e2⟩, ⟨K3, e3⟩⟩ := bxGood_ev a0_0 l0_1 l0_2 m1
    dsimp only at e0 e1 e2 e3
    have key : ∀ K, K2 + K3 + 10 ≤ K → ∃ r, spec_WidestSide.f K a0_0 l0_1 l0_2 = some r ∧ impl_WidestSide.f K a0_0 l0_1 l0_2 = some r := by
      intro K hK
      by_cases g : goodB a0_0 l0_1 l0_2 = true
      · have G := goodB_ok g
        obtain ⟨r, h3, h4⟩ := widest_l0 a0_0 l0_1 l0_2 G.l3 G.hl l0_1.length 0 0 K (by omega) (by have := G.l1; omega) (by have := G.l3; omega)
        refine ⟨(r, true), ?_, ?_⟩
        · unfold spec_WidestSide.f spec_bxWidest.f
          rw [e2 _ (by omega), g]; simp only [bs', if_true]
          rw [show (0 : Int) = ((0 : Nat) : Int) from rfl, h3]; simp only [bs']
        · unfold impl_WidestSide.f
          rw [e3 _ (by omega), g]; simp only [bs', if_true]
          rw [show (0 : Int) = ((0 : Nat) : Int) from rfl, h4]
      · refine ⟨(0, false), ?_, ?_⟩
        · unfold spec_WidestSide.f
          rw [e2 _ (by omega)]; simp only [bs']
          rw [if_neg g]
        · unfold impl_WidestSide.f
          rw [e3 _ (by omega)]; simp only [bs']
          rw [if_neg g]
    obtain ⟨r, s2, s3⟩ := key (K0 + K1 + K2 + K3 + 10) (by omega)
    refine ⟨K0 + K1 + K2 + K3 + 10, ?_⟩
    unfold laws_FnExactWidestSide.f
    rw [ht]; simp only [bs']
    rw [if_neg (by omega), e0 _ (by omega)]; simp only [bs']
    rw [s2]; simp only [bs']
    rw [s3]; simp only [bs', if_true]
    rw [if_neg (by simp), intactBox_self]; simp only [bs', if_true]
    rw [e1 _ (by omega)]; simp only [bs']
    rw [s3]; simp only [bs', if_true]
    rw [if_neg (by simp)]
end Go.Proofs.Ytgaoniapddpaaaa.Pure
