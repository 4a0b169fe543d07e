import Derived.Test.YtgaoniapddpaaaaQMiddntPDx1
import Derived.Test.YtgaoniapddpaaaaQMiddntMt
/- FnExactMiddlePoint, told over numbers and lists alone: the law's printed function answers true. -/
namespace Go.Proofs.Ytgaoniapddpaaaa.Pure
open Go.RowKit Go.Proofs.Ytgaoniapddpaaaa.PD Go.Proofs.YtgaoniapddpaaaaW.PrintWords Go.Proofs.YtgaoniapddpaaaaW.PrintLast Go.Proofs.YtgaoniapddpaaaaW.PrintMore
theorem middle_l0 {k : Int} {L H : List Int} (G : BoxOk k L H) : ∀ (d i : Nat) (xs : List S37), i + d = L.length → xs.length = i →
    ∃ (r : List S37) (N : Nat), r.length ≤ 3 ∧ ∀ K, N ≤ K → spec_bxMiddle.l0 (K + d) xs L (L.length : Int) (i : Int) k L H = some r ∧ impl_Box_middle.l0 (K + d) k L H xs (i : Int) = some r := by
  have l3 := G.l3
  have hh := G.hl
  have k0 := G.k0
  have k8 := G.k8
  intro d
  induction d with
  | zero =>
    intro i xs hi hx
    refine ⟨xs, 1, by omega, fun K hK => ?_⟩
    obtain ⟨K, rfl⟩ : ∃ j, K = j + 1 := ⟨K - 1, by omega⟩
    constructor
    · simp only [spec_bxMiddle.l0]
      rw [if_neg (by omega)]
    · simp only [impl_Box_middle.l0]
      rw [if_neg (by omega)]
  | succ d ih =>
    intro i xs hi hx
    have hs := okS_small k0 k8 (G.side i (by omega))
    have hw : wrap64 ((i : Int) + 1) = ((i + 1 : Nat) : Int) := by rw [w64 (by omega) (by omega)]; omega
    have hd : wrap64 (rd L (i : Int) + rd H (i : Int)) = L.getD i 0 + H.getD i 0 := by rw [rd_at, rd_at, w64 (by omega) (by omega)]
    have hk : wrap64 (k + 1) = k + 1 := w64 (by omega) (by omega)
    generalize hz : L.getD i 0 + H.getD i 0 = z at hd
    have hz1 : Small z := small_of (by omega)
    obtain ⟨p, hpp⟩ := Int.eq_ofNat_of_zero_le (show 0 ≤ k + 1 by omega)
    obtain ⟨K0, e0⟩ := bxNumber_ev (n := z) (K := k + 1) hz1 (by omega) (by omega)
    obtain ⟨l, e, ⟨K1, e1⟩⟩ := wide_fit hz1 (p := p) (by omega)
    dsimp only at e0 e1
    rw [hpp, Int.toNat_natCast] at e0
    obtain ⟨r, N, hr, h⟩ := ih (i + 1) (xs ++ [(⟨(mk z p).1, (mk z p).2.1⟩ : S37)]) (by omega) (by rw [List.length_append]; simp; omega)
    refine ⟨r, N + K0 + K1, hr, fun K hK => ?_⟩
    obtain ⟨h1, h2⟩ := h K (by omega)
    rw [show K + (d + 1) = K + d + 1 by omega]
    constructor
    · simp only [spec_bxMiddle.l0]
      rw [if_pos (by omega), if_pos (by omega), if_pos (by omega), if_pos (by omega), hd, hk, hpp, e0 _ (by omega)]; simp only [bs']
      rw [if_pos (by omega), hw]
      exact h1
    · simp only [impl_Box_middle.l0]
      rw [if_pos (by omega), if_pos (by omega), if_pos (by omega), hd, e]; simp only [bs']
      rw [hk, hpp, e1 _ (by omega)]; simp only [bs']
      rw [if_pos (by omega), hw]
      exact h2
theorem FnExactMiddlePoint (a0_0 : Int) (l0_1 l0_2 : List Int) (_w0_0 : (Lit.int .i64 a0_0).wf = true) (w0_1 : l0_1.length ≤ maxLen ∧ ∀ y ∈ l0_1, (Lit.int .i64 y).wf = true) (w0_2 : l0_2.length ≤ maxLen ∧ ∀ y ∈ l0_2, (Lit.int .i64 y).wf = true) : ∃ k, laws_FnExactMiddlePoint.f k a0_0 l0_1 l0_2 = some true := by
  have m1 : l0_1.length ≤ 9223372036854775807 := w0_1.1
  have m2 : l0_2.length ≤ 9223372036854775807 := w0_2.1
  obtain ⟨t, ht, hc⟩ := szBox_eq (k := a0_0) m1 m2
  rcases hc with hc | ⟨h0, h1, h2⟩
  · refine ⟨0, ?_⟩
    unfold laws_FnExactMiddlePoint.f
    rw [ht]; simp only [bs']
    rw [if_pos hc]
  · obtain ⟨K0, e0⟩ := toBox_ev (k := a0_0) h1 h2 false
    obtain ⟨K1, e1⟩ := toBox_ev (k := a0_0) h1 h2 true
    obtain ⟨⟨K2, e2⟩, ⟨K3, e3⟩⟩ := bxGood_ev a0_0 l0_1 l0_2 m1
    obtain ⟨q, hq, ⟨K4, e4⟩⟩ := markBox_ev a0_0 h1 h2
    dsimp only at e0 e1 e2 e3 e4
    have key : ∃ (r : List S37 × Bool) (n : Nat), r.1.length ≤ 3 ∧ ∀ K, n ≤ K → spec_MiddlePoint.f K a0_0 l0_1 l0_2 = some r ∧ impl_MiddlePoint.f K a0_0 l0_1 l0_2 = some r := by
      by_cases g : goodB a0_0 l0_1 l0_2 = true
      · have G := goodB_ok g
        have l3 := G.l3
        obtain ⟨r, N, hr, h⟩ := middle_l0 G l0_1.length 0 [] (by omega) rfl
        refine ⟨(r, true), N + K2 + K3 + l0_1.length, hr, fun K hK => ?_⟩
        obtain ⟨h3, h4⟩ := h (K - l0_1.length) (by omega)
        rw [show K - l0_1.length + l0_1.length = K by omega] at h3 h4
        constructor
        · unfold spec_MiddlePoint.f spec_bxMiddle.f
          rw [e2 _ (by omega), g]; simp only [bs', if_true]
          rw [show (0 : Int) = ((0 : Nat) : Int) from rfl, h3]; simp only [bs']
        · unfold impl_MiddlePoint.f impl_Box_middle.f
          rw [e3 _ (by omega), g]; simp only [bs', if_true]
          rw [show (0 : Int) = ((0 : Nat) : Int) from rfl, h4]; simp only [bs']
      · refine ⟨([], false), K2 + K3, by simp, fun K hK => ⟨?_, ?_⟩⟩
        · unfold spec_MiddlePoint.f
          rw [e2 _ (by omega)]; simp only [bs']
          rw [if_neg g]
        · unfold impl_MiddlePoint.f
          rw [e3 _ (by omega)]; simp only [bs']
          rw [if_neg g]
    obtain ⟨r, n, hr, key⟩ := key
    obtain ⟨K5, e5⟩ := eqDS_ev (l := r.1) (by omega)
    obtain ⟨K6, e6⟩ := markDS_ev (l := r.1) (by omega)
    obtain ⟨K7, e7⟩ := heldDS_ev (n := r.1.length) (by omega)
    dsimp only at e5 e6 e7
    obtain ⟨s2, s3⟩ := key (K0 + K1 + K4 + K5 + K6 + K7 + n) (by omega)
    refine ⟨K0 + K1 + K4 + K5 + K6 + K7 + n, ?_⟩
    unfold laws_FnExactMiddlePoint.f
    rw [ht]; simp only [bs']
    rw [if_neg (by omega), e0 _ (by omega)]; simp only [bs']
    rw [s2]; simp only [bs']
    rw [s3]; simp only [bs']
    rw [e5 _ (by omega)]; simp only [bs', if_true]
    rw [if_neg (by simp), intactBox_self]; simp only [bs', if_true]
    rw [e4 _ (by omega)]; simp only [bs']
    rw [if_neg (by omega)]
    rw [e6 _ (by omega)]; simp only [bs']
    rw [e7 _ (by omega)]; simp only [bs', if_true]
    rw [if_neg (by omega), e1 _ (by omega)]; simp only [bs']
    rw [s3]; simp only [bs']
    rw [e5 _ (by omega)]; simp only [bs', if_true]
    rw [if_neg (by simp), if_neg (by omega)]
end Go.Proofs.Ytgaoniapddpaaaa.Pure
