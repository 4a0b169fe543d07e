import Derived.Test.YtgaoniapddpaaaaQIsBodePDx1
import Derived.Test.YtgaoniapddpaaaaQIsBodeMs
/- FnExactIsBoxInside, told over numbers and lists alone: the law's printed function answers true. -/
namespace Go.Proofs.Ytgaoniapddpaaaa.Pure
open Go.RowKit Go.Proofs.Ytgaoniapddpaaaa.PD Go.Proofs.YtgaoniapddpaaaaW.PrintWords Go.Proofs.YtgaoniapddpaaaaW.PrintLast Go.Proofs.YtgaoniapddpaaaaW.PrintMore
theorem szBox_eq2 {k : Int} {L H : List Int} {n : Int} (n0 : 0 ≤ n) (n1 : n ≤ 1000000) (hL : L.length ≤ 9223372036854775807) (hH : H.length ≤ 9223372036854775807) : ∃ t, laws_szBox.f k L H n = some t ∧ (t < 0 ∨ (0 ≤ t ∧ t ≤ 1000000 ∧ L.length ≤ 1000000 ∧ H.length ≤ 1000000)) := by
  unfold laws_szBox.f
  rw [szInt_eq hL n0 n1]; simp only [bs']
  by_cases h : (L.length : Int) ≤ n
  · rw [if_pos h, if_neg (by omega), szInt_eq hH (by omega) (by omega)]; simp only [bs']
    by_cases h2 : (H.length : Int) ≤ n - L.length
    · rw [if_pos h2, if_neg (by omega)]
      exact ⟨_, rfl, .inr ⟨by omega, by omega, by omega, by omega⟩⟩
    · rw [if_neg h2, if_pos (by omega)]
      exact ⟨_, rfl, .inl (by omega)⟩
  · rw [if_neg h, if_pos (by omega)]
    exact ⟨_, rfl, .inl (by omega)⟩
def tms (p : Int) (x : Int) : Int := x * p
theorem rd_map (p : Int) (l : List Int) (i : Int) : rd (l.map (tms p)) i = rd l i * p := by
  unfold rd
  rw [List.getD_eq_getElem?_getD, List.getD_eq_getElem?_getD, List.getElem?_map]
  cases h : l[i.toNat]?
  · simp
  · simp [tms]
theorem pow_le8 {d : Nat} (h : d ≤ 8) : (1 : Int) ≤ 2 ^ d ∧ (2 : Int) ^ d ≤ 256 := by
  have := pow8 (k := (d : Int)) (by omega) (by omega)
  rw [Int.toNat_natCast] at this; exact this
theorem mul_bound {x p : Int} (hx : -2048 ≤ x ∧ x ≤ 2048) (hp : 1 ≤ p ∧ p ≤ 256) : -524288 ≤ x * p ∧ x * p ≤ 524288 := by
  have h1 : x * p ≤ 2048 * p := Int.mul_le_mul_of_nonneg_right hx.2 (by omega)
  have h2 : -2048 * p ≤ x * p := Int.mul_le_mul_of_nonneg_right hx.1 (by omega)
  omega
theorem scaled_ev {l : List Int} (hl : l.length ≤ 3) (hb : ∀ j, j < l.length → -2048 ≤ l.getD j 0 ∧ l.getD j 0 ≤ 2048) {d : Nat} (hd : d ≤ 8) : Ev (fun K => impl_scaled.f K l (d : Int)) (l.map (tms (2 ^ d))) := by
  have hp := pow_le8 hd
  have key : ∀ (e i K : Nat), i + e = l.length → e < K → impl_scaled.l0 K (d : Int) ((l.take i).map (tms (2 ^ d))) l (l.length : Int) (i : Int) = some (l.map (tms (2 ^ d))) := by
    intro e
    induction e with
    | zero =>
      intro i K hi hK
      obtain ⟨K, rfl⟩ : ∃ j, K = j + 1 := ⟨K - 1, by omega⟩
      simp only [impl_scaled.l0]
      rw [if_neg (by omega), List.take_of_length_le (by omega)]
    | succ e ih =>
      intro i K hi hK
      obtain ⟨K, rfl⟩ : ∃ j, K = j + 1 := ⟨K - 1, by omega⟩
      have hil : i < l.length := by omega
      have hx := mul_bound (hb i hil) hp
      have ih' := ih (i + 1) K (by omega) (by omega)
      rw [List.take_succ_eq_append_getElem hil, List.map_append, List.map_singleton] at ih'
      have he : l[i] = l.getD i 0 := by rw [List.getD_eq_getElem?_getD, List.getElem?_eq_getElem hil]; rfl
      rw [he] at ih'
      have hs : shl .i64 (l.getD i 0) (d : Int) = tms (2 ^ d) (l.getD i 0) := by
        unfold shl tms
        rw [Int.toNat_natCast, Nat.min_eq_left (by show d ≤ 64; omega), i64_w, w64 (by omega) (by omega)]
      simp only [impl_scaled.l0]
      rw [if_pos (by omega), if_pos (by omega), if_pos (by omega), if_pos (by omega), if_pos (by rw [List.length_map, List.length_take]; omega), rd_at, hs, w64 (by omega) (by omega), show (i : Int) + 1 = ((i + 1 : Nat) : Int) by omega]
      exact ih'
  refine ⟨l.length + 1, fun K hK => ?_⟩
  dsimp only; unfold impl_scaled.f
  exact key l.length 0 K (by omega) (by omega)
theorem bxAt_ev {k : Int} {L H : List Int} (G : BoxOk k L H) : Ev (fun K => spec_bxAt.f K k L H) (L.map (tms (2 ^ (8 - k.toNat))), H.map (tms (2 ^ (8 - k.toNat)))) := by
  have l3 := G.l3
  have hh := G.hl
  have k0 := G.k0
  have k8 := G.k8
  have hp := pow_le8 (show 8 - k.toNat ≤ 8 by omega)
  have key : ∀ (e i K : Nat), i + e = L.length → e < K → spec_bxAt.l0 K ((L.take i).map (tms (2 ^ (8 - k.toNat)))) ((H.take i).map (tms (2 ^ (8 - k.toNat)))) (2 ^ (8 - k.toNat)) L (L.length : Int) (i : Int) k L H = some (L.map (tms (2 ^ (8 - k.toNat))), H.map (tms (2 ^ (8 - k.toNat)))) := by
    intro e
    induction e with
    | zero =>
      intro i K hi hK
      obtain ⟨K, rfl⟩ : ∃ j, K = j + 1 := ⟨K - 1, by omega⟩
      simp only [spec_bxAt.l0]
      rw [if_neg (by omega), List.take_of_length_le (by omega), List.take_of_length_le (by omega)]
    | succ e ih =>
      intro i K hi hK
      obtain ⟨K, rfl⟩ : ∃ j, K = j + 1 := ⟨K - 1, by omega⟩
      have hil : i < L.length := by omega
      have hih : i < H.length := by omega
      have hs := okS_small k0 k8 (G.side i (by omega))
      have hx := mul_bound (show -2048 ≤ L.getD i 0 ∧ L.getD i 0 ≤ 2048 by omega) hp
      have hy := mul_bound (show -2048 ≤ H.getD i 0 ∧ H.getD i 0 ≤ 2048 by omega) hp
      have ih' := ih (i + 1) K (by omega) (by omega)
      rw [List.take_succ_eq_append_getElem hil, List.take_succ_eq_append_getElem hih, List.map_append, List.map_singleton, List.map_append, List.map_singleton] at ih'
      have he : L[i] = L.getD i 0 := by rw [List.getD_eq_getElem?_getD, List.getElem?_eq_getElem hil]; rfl
      have hf : H[i] = H.getD i 0 := by rw [List.getD_eq_getElem?_getD, List.getElem?_eq_getElem hih]; rfl
      rw [he, hf] at ih'
      simp only [spec_bxAt.l0]
      rw [if_pos (by omega), if_pos (by omega), if_pos (by omega), if_pos (by rw [List.length_map, List.length_take]; omega), if_pos (by omega), if_pos (by rw [List.length_map, List.length_take]; omega), rd_at, rd_at, w64 (x := L.getD i 0 * 2 ^ (8 - k.toNat)) (by omega) (by omega), w64 (x := H.getD i 0 * 2 ^ (8 - k.toNat)) (by omega) (by omega), w64 (by omega) (by omega), show (i : Int) + 1 = ((i + 1 : Nat) : Int) by omega]
      exact ih'
  refine ⟨L.length + 1, fun K hK => ?_⟩
  dsimp only; unfold spec_bxAt.f
  rw [w64 (by omega) (by omega), show (8 : Int) - k = ((8 - k.toNat : Nat) : Int) by omega, dyPower_eq _ (by omega)]; simp only [bs']
  exact key L.length 0 K (by omega) (by omega)
theorem lt_scaled {a b p : Int} (hp : 1 ≤ p) : a * p < b * p ↔ a < b :=
  ⟨fun h => Int.lt_of_mul_lt_mul_right h (by omega), fun h => Int.mul_lt_mul_of_pos_right h (by omega)⟩
theorem inside_l0 {p : Int} (hp : 1 ≤ p) {x1 x2 x3 x4 : List Int} (n : Nat) (hn : n ≤ 3) (h1 : x1.length = n) (h2 : x2.length = n) (h3 : x3.length = n) (h4 : x4.length = n) : ∀ (e i K : Nat), i + e = n → e < K →
    ∃ r : Bool, spec_bxIn.l0 K (x2.map (tms p)) (x3.map (tms p)) (x4.map (tms p)) (x1.map (tms p)) (n : Int) (i : Int) = some r ∧ impl_IsBoxInside.l0 K x1 x2 x3 x4 (i : Int) = some (r, true) := by
  intro e
  induction e with
  | zero =>
    intro i K hi hK
    obtain ⟨K, rfl⟩ : ∃ j, K = j + 1 := ⟨K - 1, by omega⟩
    refine ⟨true, ?_, ?_⟩
    · simp only [spec_bxIn.l0]; rw [if_neg (by omega)]
    · simp only [impl_IsBoxInside.l0]; rw [if_neg (by omega)]
  | succ e ih =>
    intro i K hi hK
    obtain ⟨K, rfl⟩ : ∃ j, K = j + 1 := ⟨K - 1, by omega⟩
    have hw : wrap64 ((i : Int) + 1) = ((i + 1 : Nat) : Int) := by rw [w64 (by omega) (by omega)]; omega
    simp only [spec_bxIn.l0, impl_IsBoxInside.l0]
    rw [if_pos (by omega), if_pos (by omega), if_pos (by rw [List.length_map]; omega), if_pos (by rw [List.length_map]; omega), rd_map, rd_map, rd_map, rd_map, if_pos (show (i : Int) < (x1.length : Int) by omega), if_pos (show (0 : Int) ≤ (i : Int) by omega), if_pos (show (i : Int) < (x3.length : Int) by omega)]
    by_cases c : rd x1 (i : Int) < rd x3 (i : Int)
    · exact ⟨false, by rw [if_pos ((lt_scaled hp).2 c)], by rw [if_pos c]⟩
    · rw [if_neg (fun h => c ((lt_scaled hp).1 h)), if_neg c, if_pos (by rw [List.length_map]; omega), if_pos (by rw [List.length_map]; omega), if_pos (show (i : Int) < (x2.length : Int) by omega), if_pos (show (i : Int) < (x4.length : Int) by omega)]
      by_cases d : rd x2 (i : Int) > rd x4 (i : Int)
      · exact ⟨false, by rw [if_pos ((lt_scaled hp).2 d)], by rw [if_pos d]⟩
      · obtain ⟨r, r1, r2⟩ := ih (i + 1) K (by omega) (by omega)
        exact ⟨r, by rw [if_neg (fun h => d ((lt_scaled hp).1 h)), hw]; exact r1, by rw [if_neg d, hw]; exact r2⟩
theorem map_split (l : List Int) {a b c : Nat} (h : c = a + b) : l.map (tms (2 ^ c)) = (l.map (tms (2 ^ a))).map (tms (2 ^ b)) := by
  rw [List.map_map]
  congr 1
  funext x
  show x * 2 ^ c = x * 2 ^ a * 2 ^ b
  rw [h, Int.pow_add, Int.mul_assoc]
theorem FnExactIsBoxInside (a0_0 : Int) (l0_1 l0_2 : List Int) (a1_0 : Int) (l1_1 l1_2 : List Int) (_w0_0 : (Lit.int .i64 a0_0).wf = true) (w0_1 : l0_1.length ≤ maxLen ∧ ∀ y ∈ l0_1, (Lit.int .i64 y).wf = true) (w0_2 : l0_2.length ≤ maxLen ∧ ∀ y ∈ l0_2, (Lit.int .i64 y).wf = true) (_w1_0 : (Lit.int .i64 a1_0).wf = true) (w1_1 : l1_1.length ≤ maxLen ∧ ∀ y ∈ l1_1, (Lit.int .i64 y).wf = true) (w1_2 : l1_2.length ≤ maxLen ∧ ∀ y ∈ l1_2, (Lit.int .i64 y).wf = true) : ∃ k, laws_FnExactIsBoxInside.f k a0_0 l0_1 l0_2 a1_0 l1_1 l1_2 = some true := by
  have m1 : l0_1.length ≤ 9223372036854775807 := w0_1.1
  have m2 : l0_2.length ≤ 9223372036854775807 := w0_2.1
  have m3 : l1_1.length ≤ 9223372036854775807 := w1_1.1
  have m4 : l1_2.length ≤ 9223372036854775807 := w1_2.1
  obtain ⟨t, ht, hc⟩ := szBox_eq2 (k := a0_0) (n := 1000000) (by omega) (by omega) m1 m2
  rcases hc with hc | ⟨h0, h0', h1, h2⟩
  · refine ⟨0, ?_⟩
    unfold laws_FnExactIsBoxInside.f
    rw [ht]; simp only [bs']
    rw [if_pos hc]
  · obtain ⟨u, hu, hd⟩ := szBox_eq2 (k := a1_0) h0 h0' m3 m4
    rcases hd with hd | ⟨g0, _, h3, h4⟩
    · refine ⟨0, ?_⟩
      unfold laws_FnExactIsBoxInside.f
      rw [ht]; simp only [bs']
      rw [if_neg (by omega), hu]; simp only [bs']
      rw [if_pos hd]
    · obtain ⟨K0, e0⟩ := toBox_ev (k := a0_0) h1 h2 false
      obtain ⟨K1, e1⟩ := toBox_ev (k := a0_0) h1 h2 true
      obtain ⟨K2, e2⟩ := toBox_ev (k := a1_0) h3 h4 false
      obtain ⟨K3, e3⟩ := toBox_ev (k := a1_0) h3 h4 true
      obtain ⟨⟨K4, e4⟩, ⟨K5, e5⟩⟩ := bxGood_ev a0_0 l0_1 l0_2 m1
      obtain ⟨⟨K6, e6⟩, ⟨K7, e7⟩⟩ := bxGood_ev a1_0 l1_1 l1_2 m3
      dsimp only at e0 e1 e2 e3 e4 e5 e6 e7
      have key : ∃ (r : Bool × Bool) (n : Nat), ∀ K, n ≤ K → spec_IsBoxInside.f K a0_0 l0_1 l0_2 a1_0 l1_1 l1_2 = some r ∧ impl_IsBoxInside.f K a0_0 l0_1 l0_2 a1_0 l1_1 l1_2 = some r := by
        by_cases g : goodB a0_0 l0_1 l0_2 = true
        · by_cases g' : goodB a1_0 l1_1 l1_2 = true
          · by_cases hl : l0_1.length = l1_1.length
            · have G := goodB_ok g
              have G' := goodB_ok g'
              have q1 := G.l3
              have q2 := G.hl
              have q3 := G.k0
              have q4 := G.k8
              have q5 := G'.hl
              have q6 := G'.k0
              have q7 := G'.k8
              obtain ⟨p, rfl⟩ := Int.eq_ofNat_of_zero_le q3
              obtain ⟨q, rfl⟩ := Int.eq_ofNat_of_zero_le q6
              obtain ⟨m, hm, hmp, hmq, hm8⟩ : ∃ m : Nat, mx (p : Int) (q : Int) = (m : Int) ∧ p ≤ m ∧ q ≤ m ∧ m ≤ 8 := by
                unfold mx
                by_cases h : (p : Int) < (q : Int)
                · rw [if_pos h]; exact ⟨q, rfl, by omega, by omega, by omega⟩
                · rw [if_neg h]; exact ⟨p, rfl, by omega, by omega, by omega⟩
              have b1 : ∀ j, j < l0_1.length → -2048 ≤ l0_1.getD j 0 ∧ l0_1.getD j 0 ≤ 2048 := fun j hj => by have := okS_small q3 q4 (G.side j hj); omega
              have b2 : ∀ j, j < l0_2.length → -2048 ≤ l0_2.getD j 0 ∧ l0_2.getD j 0 ≤ 2048 := fun j hj => by have := okS_small q3 q4 (G.side j (by omega)); omega
              have b3 : ∀ j, j < l1_1.length → -2048 ≤ l1_1.getD j 0 ∧ l1_1.getD j 0 ≤ 2048 := fun j hj => by have := okS_small q6 q7 (G'.side j hj); omega
              have b4 : ∀ j, j < l1_2.length → -2048 ≤ l1_2.getD j 0 ∧ l1_2.getD j 0 ≤ 2048 := fun j hj => by have := okS_small q6 q7 (G'.side j (by omega)); omega
              obtain ⟨N1, f1⟩ := scaled_ev (by omega) b1 (d := m - p) (by omega)
              obtain ⟨N2, f2⟩ := scaled_ev (by omega) b2 (d := m - p) (by omega)
              obtain ⟨N3, f3⟩ := scaled_ev (by omega) b3 (d := m - q) (by omega)
              obtain ⟨N4, f4⟩ := scaled_ev (by omega) b4 (d := m - q) (by omega)
              obtain ⟨N5, f5⟩ := bxAt_ev G
              obtain ⟨N6, f6⟩ := bxAt_ev G'
              dsimp only at f1 f2 f3 f4 f5 f6
              rw [Int.toNat_natCast, map_split l0_1 (show 8 - p = (m - p) + (8 - m) by omega), map_split l0_2 (show 8 - p = (m - p) + (8 - m) by omega)] at f5
              rw [Int.toNat_natCast, map_split l1_1 (show 8 - q = (m - q) + (8 - m) by omega), map_split l1_2 (show 8 - q = (m - q) + (8 - m) by omega)] at f6
              have hp := (pow_le8 (show 8 - m ≤ 8 by omega)).1
              have hin := inside_l0 hp (x1 := l0_1.map (tms (2 ^ (m - p)))) (x2 := l0_2.map (tms (2 ^ (m - p)))) (x3 := l1_1.map (tms (2 ^ (m - q)))) (x4 := l1_2.map (tms (2 ^ (m - q)))) l0_1.length q1 (List.length_map ..) (by rw [List.length_map]; omega) (by rw [List.length_map]; omega) (by rw [List.length_map]; omega) l0_1.length 0
              have hfix : ∃ r : Bool, ∀ K, l0_1.length < K → spec_bxIn.l0 K ((l0_2.map (tms (2 ^ (m - p)))).map (tms (2 ^ (8 - m)))) ((l1_1.map (tms (2 ^ (m - q)))).map (tms (2 ^ (8 - m)))) ((l1_2.map (tms (2 ^ (m - q)))).map (tms (2 ^ (8 - m)))) ((l0_1.map (tms (2 ^ (m - p)))).map (tms (2 ^ (8 - m)))) (l0_1.length : Int) ((0 : Nat) : Int) = some r ∧ impl_IsBoxInside.l0 K (l0_1.map (tms (2 ^ (m - p)))) (l0_2.map (tms (2 ^ (m - p)))) (l1_1.map (tms (2 ^ (m - q)))) (l1_2.map (tms (2 ^ (m - q)))) ((0 : Nat) : Int) = some (r, true) := by
                obtain ⟨r, r1, r2⟩ := hin (l0_1.length + 1) (by omega) (by omega)
                refine ⟨r, fun K hK => ?_⟩
                obtain ⟨j, rfl⟩ : ∃ j, K = l0_1.length + 1 + j := ⟨K - (l0_1.length + 1), by omega⟩
                clear hK
                induction j with
                | zero => exact ⟨r1, r2⟩
                | succ j ihj => exact ⟨spec_bxIn.mono_l _ _ _ _ _ _ _ _ ihj.1, impl_IsBoxInside.mono_l _ _ _ _ _ _ _ ihj.2⟩
              obtain ⟨r, hr⟩ := hfix
              refine ⟨(r, true), K4 + K5 + K6 + K7 + N1 + N2 + N3 + N4 + N5 + N6 + l0_1.length + 1, fun K hK => ?_⟩
              obtain ⟨r1, r2⟩ := hr K (by omega)
              constructor
              · unfold spec_IsBoxInside.f spec_bxTwo.f
                rw [e4 _ (by omega), g]; simp only [bs', if_true]
                rw [e6 _ (by omega), g']; simp only [bs', if_true]
                rw [if_pos (by rw [hl]; simp)]
                unfold spec_bxIn.f
                rw [f5 _ (by omega)]; simp only [bs']
                rw [f6 _ (by omega)]; simp only [bs']
                rw [List.length_map, List.length_map, show (0 : Int) = ((0 : Nat) : Int) from rfl, r1]; simp only [bs']
              · unfold impl_IsBoxInside.f
                rw [e5 _ (by omega), g]; simp only [bs', if_true]
                rw [e7 _ (by omega), g']; simp only [bs', if_true]
                rw [if_pos hl]
                unfold impl_align.f
                rw [hm, w64 (x := (m : Int) - (p : Int)) (by omega) (by omega), w64 (x := (m : Int) - (q : Int)) (by omega) (by omega), show (m : Int) - (p : Int) = ((m - p : Nat) : Int) by omega, show (m : Int) - (q : Int) = ((m - q : Nat) : Int) by omega, f1 _ (by omega)]; simp only [bs']
                rw [f2 _ (by omega)]; simp only [bs']
                rw [f3 _ (by omega)]; simp only [bs']
                rw [f4 _ (by omega)]; simp only [bs']
                rw [show (0 : Int) = ((0 : Nat) : Int) from rfl, r2]
            · refine ⟨(false, false), K4 + K5 + K6 + K7, fun K hK => ⟨?_, ?_⟩⟩
              · unfold spec_IsBoxInside.f spec_bxTwo.f
                rw [e4 _ (by omega), g]; simp only [bs', if_true]
                rw [e6 _ (by omega), g']; simp only [bs', if_true]
                rw [if_neg (by rw [beq_iff_eq]; omega)]
              · unfold impl_IsBoxInside.f
                rw [e5 _ (by omega), g]; simp only [bs', if_true]
                rw [e7 _ (by omega), g']; simp only [bs', if_true]
                rw [if_neg hl]
          · refine ⟨(false, false), K4 + K5 + K6 + K7, fun K hK => ⟨?_, ?_⟩⟩
            · unfold spec_IsBoxInside.f spec_bxTwo.f
              rw [e4 _ (by omega), g]; simp only [bs', if_true]
              rw [e6 _ (by omega)]; simp only [bs']
              rw [if_neg g']; simp only [bs']
              rw [if_neg (by decide)]
            · unfold impl_IsBoxInside.f
              rw [e5 _ (by omega), g]; simp only [bs', if_true]
              rw [e7 _ (by omega)]; simp only [bs']
              rw [if_neg g']
        · refine ⟨(false, false), K4 + K5 + K6 + K7, fun K hK => ⟨?_, ?_⟩⟩
          · unfold spec_IsBoxInside.f spec_bxTwo.f
            rw [e4 _ (by omega)]; simp only [bs']
            rw [if_neg g]; simp only [bs']
            rw [if_neg (by decide)]
          · unfold impl_IsBoxInside.f
            rw [e5 _ (by omega)]; simp only [bs']
            rw [if_neg g]
      obtain ⟨r, n, key⟩ := key
      obtain ⟨s2, s3⟩ := key (K0 + K1 + K2 + K3 + n) (by omega)
      refine ⟨K0 + K1 + K2 + K3 + n, ?_⟩
      unfold laws_FnExactIsBoxInside.f
      rw [ht]; simp only [bs']
      rw [if_neg (by omega), hu]; simp only [bs']
      rw [if_neg (by omega), e0 _ (by omega)]; simp only [bs']
      rw [e2 _ (by omega)]; simp only [bs']
      rw [s2]; simp only [bs']
      rw [s3]; simp only [bs']
      rw [if_neg (by simp), if_neg (by simp), intactBox_self]; simp only [bs', if_true]
      rw [intactBox_self]; simp only [bs', if_true]
      rw [e1 _ (by omega)]; simp only [bs']
      rw [e3 _ (by omega)]; simp only [bs']
      rw [s3]; simp only [bs']
      rw [if_neg (by simp), if_neg (by simp)]
end Go.Proofs.Ytgaoniapddpaaaa.Pure
