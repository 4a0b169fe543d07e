import Derived.Test.YtgaoniapddpaaaaQVoluOfPDx1
import Derived.Test.YtgaoniapddpaaaaQVoluOfMs
/- FnExactVolumeOf, told over numbers and lists alone: the law's printed function answers true. -/
namespace Go.Proofs.Ytgaoniapddpaaaa.Pure
open Go.RowKit Go.Proofs.Ytgaoniapddpaaaa.PD Go.Proofs.YtgaoniapddpaaaaW.PrintWords Go.Proofs.YtgaoniapddpaaaaW.PrintLast Go.Proofs.YtgaoniapddpaaaaW.PrintMore
theorem length_eq (k : Int) (L H : List Int) (i : Nat) (hi : i < L.length) (hh : H.length = L.length) : impl_Box_length.f k L H (i : Int) = some (wrap64 (rd H i - rd L i), k) := by
  unfold impl_Box_length.f
  rw [if_pos (by omega), if_pos (by omega), if_pos (by omega)]
theorem volume_l0 {k : Int} {L H : List Int} (G : BoxOk k L H) : ∀ (d i : Nat) (n : Int), i + d = L.length → 0 ≤ n → n * 4096 ^ d ≤ 68719476736 →
    ∃ (r : Int × Int) (N : Nat), ∀ K, N ≤ K → spec_bxVolume.l0 (K + d) n L (L.length : Int) (i : Int) k L H = some r ∧ impl_Box_volume.l0 (K + d) k L H n (i : Int) = some (r.1, r.2, true) := by
  have l3 := G.l3
  have l1 := G.l1
  have hh := G.hl
  have k0 := G.k0
  have k8 := G.k8
  intro d
  induction d with
  | zero =>
    intro i n hi h0 hn
    rw [Int.pow_zero, Int.mul_one] at hn
    have hs : Small n := by unfold Small; omega
    have hp : 0 ≤ k * (L.length : Int) ∧ k * (L.length : Int) ≤ 24 := by
      have : L.length = 1 ∨ L.length = 2 ∨ L.length = 3 := by omega
      rcases this with e | e | e <;> rw [e] <;> omega
    obtain ⟨p, hpp⟩ := Int.eq_ofNat_of_zero_le hp.1
    obtain ⟨K0, e0⟩ := bxNumber_ev (n := n) (K := k * (L.length : Int)) hs hp.1 (by omega)
    obtain ⟨l, e, ⟨K1, e1⟩⟩ := wide_fit hs (p := p) (by omega)
    dsimp only at e0 e1
    have ht := mk_true (k := p) hs (by omega)
    refine ⟨((mk n p).1, (mk n p).2.1), K0 + K1 + 1, fun K hK => ?_⟩
    obtain ⟨K, rfl⟩ : ∃ j, K = j + 1 := ⟨K - 1, by omega⟩
    constructor
    · simp only [spec_bxVolume.l0]
      rw [if_neg (by omega), Int.mul_comm (L.length : Int) k, w64 (by omega) (by omega), e0 _ (by omega)]; simp only [bs']
      rw [hpp, Int.toNat_natCast]
    · simp only [impl_Box_volume.l0]
      rw [if_neg (by omega), e]; simp only [bs']
      rw [w64 (by omega) (by omega), hpp, e1 _ (by omega)]
      rw [← ht]
  | succ d ih =>
    intro i n hi h0 hn
    have hs := okS_small k0 k8 (G.side i (by omega))
    have hw : wrap64 ((i : Int) + 1) = ((i + 1 : Nat) : Int) := by rw [w64 (by omega) (by omega)]; omega
    have hd : wrap64 (rd H (i : Int) - rd L (i : Int)) = H.getD i 0 - L.getD i 0 := by rw [rd_at, rd_at, w64 (by omega) (by omega)]
    generalize hz : H.getD i 0 - L.getD i 0 = z at hd
    have hz1 : 1 ≤ z ∧ z ≤ 4096 := by omega
    have hP : (0 : Int) < 4096 ^ d := Int.pow_pos (by decide)
    have hm : n * z ≤ n * 4096 := Int.mul_le_mul_of_nonneg_left (by omega) h0
    have hm0 : 0 ≤ n * z := Int.mul_nonneg h0 (by omega)
    have hn' : n * z * 4096 ^ d ≤ 68719476736 := by
      refine Int.le_trans (Int.mul_le_mul_of_nonneg_right hm (by omega)) ?_
      rw [Int.mul_assoc, show (4096 : Int) * 4096 ^ d = 4096 ^ (d + 1) by rw [Int.pow_succ, Int.mul_comm]]
      exact hn
    have hb : n * z ≤ 68719476736 := by
      have : n * z * 1 ≤ n * z * 4096 ^ d := Int.mul_le_mul_of_nonneg_left (by omega) hm0
      omega
    obtain ⟨r, N, h⟩ := ih (i + 1) (n * z) (by omega) hm0 hn'
    refine ⟨r, N, fun K hK => ?_⟩
    obtain ⟨h1, h2⟩ := h K hK
    rw [show K + (d + 1) = K + d + 1 by omega]
    constructor
    · simp only [spec_bxVolume.l0]
      rw [if_pos (by omega), if_pos (by omega), if_pos (by omega), if_pos (by omega), hd, w64 (by omega) (by omega), hw]
      exact h1
    · simp only [impl_Box_volume.l0]
      rw [if_pos (by omega), length_eq k L H i (by omega) hh]; simp only [bs']
      rw [hd, w64 (x := n * z) (by omega) (by omega), hw]
      exact h2
theorem FnExactVolumeOf (a0_0 : Int) (l0_1 l0_2 : List Int) (_w0_0 : (Lit.int .i64 a0_0).wf = true) (w0_1 : l0_1.length ≤ maxLen ∧ ∀ y ∈ l0_1, (Lit.int .i64 y).wf = true) (w0_2 : l0_2.length ≤ maxLen ∧ ∀ y ∈ l0_2, (Lit.int .i64 y).wf = true) : ∃ k, laws_FnExactVolumeOf.f k a0_0 l0_1 l0_2 = some true := by
  have m1 : l0_1.length ≤ 9223372036854775807 := w0_1.1
  have m2 : l0_2.length ≤ 9223372036854775807 := w0_2.1
  obtain ⟨t, ht, hc⟩ := szBox_eq (k := a0_0) m1 m2
  rcases hc with hc | ⟨h0, h1, h2⟩
  · refine ⟨0, ?_⟩
    unfold laws_FnExactVolumeOf.f
    rw [ht]; simp only [bs']
    rw [if_pos hc]
  · obtain ⟨K0, e0⟩ := toBox_ev (k := a0_0) h1 h2 false
    obtain ⟨K1, e1⟩ := toBox_ev (k := a0_0) h1 h2 true
    obtain ⟨⟨K2, e2⟩, ⟨K3, e3⟩⟩ := bxGood_ev a0_0 l0_1 l0_2 m1
    dsimp only at e0 e1 e2 e3
    have key : ∃ n r, ∀ K, n ≤ K → spec_VolumeOf.f K a0_0 l0_1 l0_2 = some r ∧ impl_VolumeOf.f K a0_0 l0_1 l0_2 = some r := by
      by_cases g : goodB a0_0 l0_1 l0_2 = true
      · have G := goodB_ok g
        have l3 := G.l3
        have hb : (1 : Int) * 4096 ^ l0_1.length ≤ 68719476736 := by
          have : l0_1.length = 0 ∨ l0_1.length = 1 ∨ l0_1.length = 2 ∨ l0_1.length = 3 := by omega
          rcases this with e | e | e | e <;> rw [e] <;> decide
        obtain ⟨r, N, h⟩ := volume_l0 G l0_1.length 0 1 (by omega) (by omega) hb
        refine ⟨N + K2 + K3 + l0_1.length, (r.1, r.2, true), fun K hK => ?_⟩
        obtain ⟨h3, h4⟩ := h (K - l0_1.length) (by omega)
        rw [show K - l0_1.length + l0_1.length = K by omega] at h3 h4
        constructor
        · unfold spec_VolumeOf.f spec_bxVolume.f
          rw [e2 _ (by omega), g]; simp only [bs', if_true]
          rw [show (0 : Int) = ((0 : Nat) : Int) from rfl, h3]; simp only [bs']
        · unfold impl_VolumeOf.f impl_Box_volume.f
          rw [e3 _ (by omega), g]; simp only [bs', if_true]
          rw [show (0 : Int) = ((0 : Nat) : Int) from rfl, h4]; simp only [bs']
      · refine ⟨K2 + K3, (0, 0, false), fun K hK => ⟨?_, ?_⟩⟩
        · unfold spec_VolumeOf.f
          rw [e2 _ (by omega)]; simp only [bs']
          rw [if_neg g]
        · unfold impl_VolumeOf.f
          rw [e3 _ (by omega)]; simp only [bs']
          rw [if_neg g]
    obtain ⟨n, r, key⟩ := key
    obtain ⟨s2, s3⟩ := key (K0 + K1 + n) (by omega)
    refine ⟨K0 + K1 + n, ?_⟩
    unfold laws_FnExactVolumeOf.f
    rw [ht]; simp only [bs']
    rw [if_neg (by omega), e0 _ (by omega)]; simp only [bs']
    rw [s2]; simp only [bs']
    rw [s3]; simp only [bs']
    rw [eqDy_self]; simp only [bs', if_true]
    rw [if_neg (by simp), intactBox_self]; simp only [bs', if_true]
    rw [e1 _ (by omega)]; simp only [bs']
    rw [s3]; simp only [bs']
    rw [eqDy_self]; simp only [bs', if_true]
    rw [if_neg (by simp)]
end Go.Proofs.Ytgaoniapddpaaaa.Pure
