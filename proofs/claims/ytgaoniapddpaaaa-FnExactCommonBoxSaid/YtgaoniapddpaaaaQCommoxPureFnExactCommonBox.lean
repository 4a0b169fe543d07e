import Derived.Test.YtgaoniapddpaaaaQCommoxPDx1
import Derived.Test.YtgaoniapddpaaaaQCommoxMv
/- FnExactCommonBox, told over numbers and lists alone: the law's printed function answers true. -/
namespace Go.Proofs.Ytgaoniapddpaaaa.Pure
open Go.RowKit Go.Proofs.Ytgaoniapddpaaaa.PD Go.Proofs.YtgaoniapddpaaaaW.PrintWords Go.Proofs.YtgaoniapddpaaaaW.PrintLast Go.Proofs.YtgaoniapddpaaaaW.PrintMore
theorem impl_l0 {x1 x2 x3 x4 : List Int} (n : Nat) (hn : n ≤ 1000) (h1 : x1.length = n) (h2 : x2.length = n) (h3 : x3.length = n) (h4 : x4.length = n) : ∀ (e i K : Nat), i + e = n → e < K →
    impl_CommonBox.l0 K (n : Int) (prt (List.zipWith mx x1 x3) x1 i) (prt (List.zipWith mn x2 x4) x2 i) x3 x4 (i : Int) = some (List.zipWith mx x1 x3, List.zipWith mn x2 x4) := by
  have z1 := zip_len mx (l := x1) (m := x3) (by omega)
  have z2 := zip_len mn (l := x2) (m := x4) (by omega)
  intro e
  induction e with
  | zero =>
    intro i K hi hK
    obtain ⟨K, rfl⟩ : ∃ j, K = j + 1 := ⟨K - 1, by omega⟩
    simp only [impl_CommonBox.l0]
    rw [if_neg (by omega), prt_all z1 (by omega), prt_all z2 (by omega)]
  | succ e ih =>
    intro i K hi hK
    obtain ⟨K, rfl⟩ : ∃ j, K = j + 1 := ⟨K - 1, by omega⟩
    have i1 : i < x1.length := by omega
    have i2 : i < x2.length := by omega
    simp only [impl_CommonBox.l0]
    rw [if_pos (by omega), if_pos (by omega), if_pos (by rw [prt_len z1]; omega), if_pos (by rw [prt_len z2]; omega), if_pos (by omega), if_pos (by omega), rd_at, rd_at, rd_at, rd_at, prt_get z1 i1, prt_get z2 i2, ← zip_get mx (by omega) i1, ← zip_get mn (by omega) i2, Int.toNat_natCast, prt_set z1 i1, prt_set z2 i2, w64 (by omega) (by omega), show (i : Int) + 1 = ((i + 1 : Nat) : Int) by omega]
    exact ih (i + 1) K (by omega) (by omega)
theorem spec_l0 {x1 x2 x3 x4 : List Int} (n : Nat) (hn : n ≤ 1000) (h1 : x1.length = n) (h2 : x2.length = n) (h3 : x3.length = n) (h4 : x4.length = n) {r : Int × List Int × List Int × Bool} {K1 : Nat} (e1 : ∀ K, K1 ≤ K → spec_bxMake.f K 8 (List.zipWith mx x1 x3) (List.zipWith mn x2 x4) = some r) : ∀ (e i K : Nat), i + e = n → e + K1 < K →
    spec_bxCommon.l0 K (prt (List.zipWith mx x1 x3) x1 i) (prt (List.zipWith mn x2 x4) x2 i) x4 x3 (n : Int) (i : Int) = some r := by
  have z1 := zip_len mx (l := x1) (m := x3) (by omega)
  have z2 := zip_len mn (l := x2) (m := x4) (by omega)
  intro e
  induction e with
  | zero =>
    intro i K hi hK
    obtain ⟨K, rfl⟩ : ∃ j, K = j + 1 := ⟨K - 1, by omega⟩
    simp only [spec_bxCommon.l0]
    rw [if_neg (by omega), prt_all z1 (by omega), prt_all z2 (by omega), e1 K (by omega)]; simp only [bs']
  | succ e ih =>
    intro i K hi hK
    obtain ⟨K, rfl⟩ : ∃ j, K = j + 1 := ⟨K - 1, by omega⟩
    have i1 : i < x1.length := by omega
    have i2 : i < x2.length := by omega
    simp only [spec_bxCommon.l0]
    rw [if_pos (by omega), if_pos (by omega), if_pos (by omega), if_pos (by rw [prt_len z1]; omega), rd_at, rd_at, l1Most_eq]; simp only [bs']
    rw [if_pos (by rw [prt_len z2]; omega), if_pos (by omega), rd_at, rd_at, l1Least_eq]; simp only [bs']
    rw [prt_get z1 i1, prt_get z2 i2, ← zip_get mx (by omega) i1, ← zip_get mn (by omega) i2, Int.toNat_natCast, prt_set z1 i1, prt_set z2 i2, w64 (by omega) (by omega), show (i : Int) + 1 = ((i + 1 : Nat) : Int) by omega]
    exact ih (i + 1) K (by omega) (by omega)
theorem FnExactCommonBox (a0_0 : Int) (l0_1 l0_2 : List Int) (a1_0 : Int) (l1_1 l1_2 : List Int) (_w0_0 : (Lit.int .i64 a0_0).wf = true) (w0_1 : l0_1.length ≤ maxLen ∧ ∀ y ∈ l0_1, (Lit.int .i64 y).wf = true) (w0_2 : l0_2.length ≤ maxLen ∧ ∀ y ∈ l0_2, (Lit.int .i64 y).wf = true) (_w1_0 : (Lit.int .i64 a1_0).wf = true) (w1_1 : l1_1.length ≤ maxLen ∧ ∀ y ∈ l1_1, (Lit.int .i64 y).wf = true) (w1_2 : l1_2.length ≤ maxLen ∧ ∀ y ∈ l1_2, (Lit.int .i64 y).wf = true) : ∃ k, laws_FnExactCommonBox.f k a0_0 l0_1 l0_2 a1_0 l1_1 l1_2 = some true := by
  have m1 : l0_1.length ≤ 9223372036854775807 := w0_1.1
  have m2 : l0_2.length ≤ 9223372036854775807 := w0_2.1
  have m3 : l1_1.length ≤ 9223372036854775807 := w1_1.1
  have m4 : l1_2.length ≤ 9223372036854775807 := w1_2.1
  obtain ⟨t, ht, hc⟩ := szBox_eq2 (k := a0_0) (n := 1000000) (by omega) (by omega) m1 m2
  rcases hc with hc | ⟨h0, h0', h1, h2⟩
  · refine ⟨0, ?_⟩
    unfold laws_FnExactCommonBox.f
    rw [ht]; simp only [bs']
    rw [if_pos hc]
  · obtain ⟨u, hu, hd⟩ := szBox_eq2 (k := a1_0) h0 h0' m3 m4
    rcases hd with hd | ⟨g0, _, h3, h4⟩
    · refine ⟨0, ?_⟩
      unfold laws_FnExactCommonBox.f
      rw [ht]; simp only [bs']
      rw [if_neg (by omega), hu]; simp only [bs']
      rw [if_pos hd]
    · obtain ⟨K0, e0⟩ := toBox_ev (k := a0_0) h1 h2 false
      obtain ⟨K1, e1⟩ := toBox_ev (k := a0_0) h1 h2 true
      obtain ⟨K2, e2⟩ := toBox_ev (k := a1_0) h3 h4 false
      obtain ⟨K3, e3⟩ := toBox_ev (k := a1_0) h3 h4 true
      obtain ⟨⟨K4, e4⟩, ⟨K5, e5⟩⟩ := bxGood_ev a0_0 l0_1 l0_2 m1
      obtain ⟨⟨K6, e6⟩, ⟨K7, e7⟩⟩ := bxGood_ev a1_0 l1_1 l1_2 m3
      dsimp only at e0 e1 e2 e3 e4 e5 e6 e7
      have key : ∃ (r : Int × List Int × List Int × Bool) (n : Nat), (r.2.1.length ≤ 3 ∧ r.2.2.1.length ≤ 3) ∧ ∀ K, n ≤ K → spec_CommonBox.f K a0_0 l0_1 l0_2 a1_0 l1_1 l1_2 = some r ∧ impl_CommonBox.f K a0_0 l0_1 l0_2 a1_0 l1_1 l1_2 = some r := by
        by_cases g : goodB a0_0 l0_1 l0_2 = true
        · by_cases g' : goodB a1_0 l1_1 l1_2 = true
          · by_cases hl : l0_1.length = l1_1.length
            · have G := goodB_ok g
              have G' := goodB_ok g'
              have q1 := G.l3
              have q2 := G.hl
              have q3 := G.k0
              have q4 := G.k8
              have q5 := G'.hl
              have q6 := G'.k0
              have q7 := G'.k8
              obtain ⟨p, rfl⟩ := Int.eq_ofNat_of_zero_le q3
              obtain ⟨q, rfl⟩ := Int.eq_ofNat_of_zero_le q6
              obtain ⟨m, hm, hmp, hmq, hm8⟩ : ∃ m : Nat, mx (p : Int) (q : Int) = (m : Int) ∧ p ≤ m ∧ q ≤ m ∧ m ≤ 8 := by
                unfold mx
                by_cases h : (p : Int) < (q : Int)
                · rw [if_pos h]; exact ⟨q, rfl, by omega, by omega, by omega⟩
                · rw [if_neg h]; exact ⟨p, rfl, by omega, by omega, by omega⟩
              have b1 : ∀ j, j < l0_1.length → -2048 ≤ l0_1.getD j 0 ∧ l0_1.getD j 0 ≤ 2048 := fun j hj => by have := okS_small q3 q4 (G.side j hj); omega
              have b2 : ∀ j, j < l0_2.length → -2048 ≤ l0_2.getD j 0 ∧ l0_2.getD j 0 ≤ 2048 := fun j hj => by have := okS_small q3 q4 (G.side j (by omega)); omega
              have b3 : ∀ j, j < l1_1.length → -2048 ≤ l1_1.getD j 0 ∧ l1_1.getD j 0 ≤ 2048 := fun j hj => by have := okS_small q6 q7 (G'.side j hj); omega
              have b4 : ∀ j, j < l1_2.length → -2048 ≤ l1_2.getD j 0 ∧ l1_2.getD j 0 ≤ 2048 := fun j hj => by have := okS_small q6 q7 (G'.side j (by omega)); omega
              obtain ⟨N1, f1⟩ := scaled_ev (by omega) b1 (d := m - p) (by omega)
              obtain ⟨N2, f2⟩ := scaled_ev (by omega) b2 (d := m - p) (by omega)
              obtain ⟨N3, f3⟩ := scaled_ev (by omega) b3 (d := m - q) (by omega)
              obtain ⟨N4, f4⟩ := scaled_ev (by omega) b4 (d := m - q) (by omega)
              obtain ⟨N5, f5⟩ := bxAt_ev G
              obtain ⟨N6, f6⟩ := bxAt_ev G'
              have c1 := tms_rng b1 (show 8 - p ≤ 8 by omega)
              have c2 := tms_rng b2 (show 8 - p ≤ 8 by omega)
              have c3 := tms_rng b3 (show 8 - q ≤ 8 by omega)
              have c4 := tms_rng b4 (show 8 - q ≤ 8 by omega)
              have d1 := tms_rng b1 (show m - p ≤ 8 by omega)
              have d2 := tms_rng b2 (show m - p ≤ 8 by omega)
              have d3 := tms_rng b3 (show m - q ≤ 8 by omega)
              have d4 := tms_rng b4 (show m - q ≤ 8 by omega)
              dsimp only at f1 f2 f3 f4 f5 f6
              rw [Int.toNat_natCast] at f5 f6
              have hp := (pow_le8 (show 8 - m ≤ 8 by omega)).1
              have hz1 : List.zipWith mx (l0_1.map (tms (2 ^ (8 - p)))) (l1_1.map (tms (2 ^ (8 - q)))) = (List.zipWith mx (l0_1.map (tms (2 ^ (m - p)))) (l1_1.map (tms (2 ^ (m - q))))).map (tms (2 ^ (8 - m))) := by
                rw [map_split l0_1 (show 8 - p = (m - p) + (8 - m) by omega), map_split l1_1 (show 8 - q = (m - q) + (8 - m) by omega), zip_tms (mx_tms hp)]
              have hz2 : List.zipWith mn (l0_2.map (tms (2 ^ (8 - p)))) (l1_2.map (tms (2 ^ (8 - q)))) = (List.zipWith mn (l0_2.map (tms (2 ^ (m - p)))) (l1_2.map (tms (2 ^ (m - q))))).map (tms (2 ^ (8 - m))) := by
                rw [map_split l0_2 (show 8 - p = (m - p) + (8 - m) by omega), map_split l1_2 (show 8 - q = (m - q) + (8 - m) by omega), zip_tms (mn_tms hp)]
              obtain ⟨N7, f7⟩ := bxMake_ev (k := 8) (L := List.zipWith mx (l0_1.map (tms (2 ^ (8 - p)))) (l1_1.map (tms (2 ^ (8 - q))))) (H := List.zipWith mn (l0_2.map (tms (2 ^ (8 - p)))) (l1_2.map (tms (2 ^ (8 - q))))) (by omega) (by rw [List.length_zipWith, List.length_map]; omega) (by rw [List.length_zipWith, List.length_zipWith, List.length_map, List.length_map, List.length_map, List.length_map]; omega) (zip_rng mx_or c1 c3) (zip_rng mn_or c2 c4)
              obtain ⟨N8, f8⟩ := boxOf_ev (k := m) (L := List.zipWith mx (l0_1.map (tms (2 ^ (m - p)))) (l1_1.map (tms (2 ^ (m - q))))) (H := List.zipWith mn (l0_2.map (tms (2 ^ (m - p)))) (l1_2.map (tms (2 ^ (m - q))))) (by omega) (by rw [List.length_zipWith, List.length_map]; omega) (by rw [List.length_zipWith, List.length_map]; omega) (zip_rng mx_or d1 d3) (zip_rng mn_or d2 d4)
              dsimp only at f7 f8
              have hs := boxR_scale (List.zipWith mx (l0_1.map (tms (2 ^ (m - p)))) (l1_1.map (tms (2 ^ (m - q))))) (List.zipWith mn (l0_2.map (tms (2 ^ (m - p)))) (l1_2.map (tms (2 ^ (m - q))))) m (8 - m)
              rw [show m + (8 - m) = 8 by omega, ← hz1, ← hz2] at hs
              rw [hs] at f7
              refine ⟨boxR m (List.zipWith mx (l0_1.map (tms (2 ^ (m - p)))) (l1_1.map (tms (2 ^ (m - q))))) (List.zipWith mn (l0_2.map (tms (2 ^ (m - p)))) (l1_2.map (tms (2 ^ (m - q))))), K4 + K5 + K6 + K7 + N1 + N2 + N3 + N4 + N5 + N6 + N7 + N8 + l0_1.length + 1, boxR_len _ _ _, fun K hK => ⟨?_, ?_⟩⟩
              · have hr := spec_l0 (x1 := l0_1.map (tms (2 ^ (8 - p)))) (x2 := l0_2.map (tms (2 ^ (8 - p)))) (x3 := l1_1.map (tms (2 ^ (8 - q)))) (x4 := l1_2.map (tms (2 ^ (8 - q)))) l0_1.length (by omega) (List.length_map ..) (by rw [List.length_map]; omega) (by rw [List.length_map]; omega) (by rw [List.length_map]; omega) f7 l0_1.length 0 K (by omega) (by omega)
                rw [prt_zero, prt_zero] at hr
                unfold spec_CommonBox.f spec_bxTwo.f
                rw [e4 _ (by omega), g]; simp only [bs', if_true]
                rw [e6 _ (by omega), g']; simp only [bs', if_true]
                rw [if_pos (by rw [hl]; simp)]
                unfold spec_bxCommon.f
                rw [f5 _ (by omega)]; simp only [bs']
                rw [f6 _ (by omega)]; simp only [bs']
                rw [List.length_map, ← hl, show (0 : Int) = ((0 : Nat) : Int) from rfl, hr]; simp only [bs']
              · have hr := impl_l0 (x1 := l0_1.map (tms (2 ^ (m - p)))) (x2 := l0_2.map (tms (2 ^ (m - p)))) (x3 := l1_1.map (tms (2 ^ (m - q)))) (x4 := l1_2.map (tms (2 ^ (m - q)))) l0_1.length (by omega) (List.length_map ..) (by rw [List.length_map]; omega) (by rw [List.length_map]; omega) (by rw [List.length_map]; omega) l0_1.length 0 K (by omega) (by omega)
                rw [prt_zero, prt_zero] at hr
                unfold impl_CommonBox.f
                rw [e5 _ (by omega), g]; simp only [bs', if_true]
                rw [e7 _ (by omega), g']; simp only [bs', if_true]
                rw [if_pos hl]
                unfold impl_align.f
                rw [hm, w64 (x := (m : Int) - (p : Int)) (by omega) (by omega), w64 (x := (m : Int) - (q : Int)) (by omega) (by omega), show (m : Int) - (p : Int) = ((m - p : Nat) : Int) by omega, show (m : Int) - (q : Int) = ((m - q : Nat) : Int) by omega, f1 _ (by omega)]; simp only [bs']
                rw [f2 _ (by omega)]; simp only [bs']
                rw [f3 _ (by omega)]; simp only [bs']
                rw [f4 _ (by omega)]; simp only [bs']
                rw [List.length_map, show (0 : Int) = ((0 : Nat) : Int) from rfl, hr]; simp only [bs']
                exact f8 _ (by omega)
            · refine ⟨(0, [], [], false), K4 + K5 + K6 + K7, ⟨by simp, by simp⟩, fun K hK => ⟨?_, ?_⟩⟩
              · unfold spec_CommonBox.f spec_bxTwo.f
                rw [e4 _ (by omega), g]; simp only [bs', if_true]
                rw [e6 _ (by omega), g']; simp only [bs', if_true]
                rw [if_neg (by rw [beq_iff_eq]; omega)]
              · unfold impl_CommonBox.f
                rw [e5 _ (by omega), g]; simp only [bs', if_true]
                rw [e7 _ (by omega), g']; simp only [bs', if_true]
                rw [if_neg hl]
          · refine ⟨(0, [], [], false), K4 + K5 + K6 + K7, ⟨by simp, by simp⟩, fun K hK => ⟨?_, ?_⟩⟩
            · unfold spec_CommonBox.f spec_bxTwo.f
              rw [e4 _ (by omega), g]; simp only [bs', if_true]
              rw [e6 _ (by omega)]; simp only [bs']
              rw [if_neg g']; simp only [bs']
              rw [if_neg (by decide)]
            · unfold impl_CommonBox.f
              rw [e5 _ (by omega), g]; simp only [bs', if_true]
              rw [e7 _ (by omega)]; simp only [bs']
              rw [if_neg g']
        · refine ⟨(0, [], [], false), K4 + K5 + K6 + K7, ⟨by simp, by simp⟩, fun K hK => ⟨?_, ?_⟩⟩
          · unfold spec_CommonBox.f spec_bxTwo.f
            rw [e4 _ (by omega)]; simp only [bs']
            rw [if_neg g]; simp only [bs']
            rw [if_neg (by decide)]
          · unfold impl_CommonBox.f
            rw [e5 _ (by omega)]; simp only [bs']
            rw [if_neg g]
      obtain ⟨⟨r0, r1, r2, r3⟩, n, ⟨g1, g2⟩, key⟩ := key
      dsimp only at g1 g2
      obtain ⟨M0, v0⟩ := markBoxV_ev a0_0 h1 h2 (v := 101) (by omega) (by omega)
      obtain ⟨M1, v1⟩ := markBoxV_ev a1_0 h3 h4 (v := 101 + (l0_1.length : Int) + (l0_2.length : Int)) (by omega) (by omega)
      obtain ⟨M2, v2⟩ := eqBox_ev r0 (L := r1) (H := r2) (by omega) (by omega)
      obtain ⟨M3, v3⟩ := markBoxV_ev r0 (L := r1) (H := r2) (by omega) (by omega) (v := 101) (by omega) (by omega)
      obtain ⟨M4, v4⟩ := heldBoxV_ev r0 (n := r1.length) (m := r2.length) (by omega) (by omega) (v := 101) (by omega) (by omega)
      dsimp only at v0 v1 v2 v3 v4
      obtain ⟨s2, s3⟩ := key (K0 + K1 + K2 + K3 + M0 + M1 + M2 + M3 + M4 + n) (by omega)
      refine ⟨K0 + K1 + K2 + K3 + M0 + M1 + M2 + M3 + M4 + n, ?_⟩
      unfold laws_FnExactCommonBox.f
      rw [ht]; simp only [bs']
      rw [if_neg (by omega), hu]; simp only [bs']
      rw [if_neg (by omega), e0 _ (by omega)]; simp only [bs']
      rw [e2 _ (by omega)]; simp only [bs']
      rw [s2]; simp only [bs']
      rw [s3]; simp only [bs']
      rw [v2 _ (by omega)]; simp only [bs', if_true]
      rw [if_neg (by simp), intactBox_self]; simp only [bs', if_true]
      rw [intactBox_self]; simp only [bs', if_true]
      rw [v0 _ (by omega)]; simp only [bs']
      rw [v1 _ (by omega)]; simp only [bs']
      rw [if_neg (by omega), v3 _ (by omega)]; simp only [bs']
      rw [v4 _ (by omega)]; simp only [bs', if_true]
      rw [if_neg (by omega), e1 _ (by omega)]; simp only [bs']
      rw [e3 _ (by omega)]; simp only [bs']
      rw [s3]; simp only [bs']
      rw [v2 _ (by omega)]; simp only [bs', if_true]
      rw [if_neg (by simp), if_neg (by omega)]
end Go.Proofs.Ytgaoniapddpaaaa.Pure
