import Derived.Test.YtfnmppeoleicbaaQPutIerPDx1
import Derived.Test.YtfnmppeoleicbaaQPutIerMz
/- FnExactPutInteger, told over numbers and lists alone: the law's printed function answers true. -/
namespace Go.Proofs.Ytfnmppeoleicbaa.Pure
open Go.RowKit Go.Proofs.Ytfnmppeoleicbaa.PD Go.Proofs.YtfnmppeoleicbaaW.PrintWords Go.Proofs.YtfnmppeoleicbaaW.PrintLast Go.Proofs.YtfnmppeoleicbaaW.PrintMore
open Go.Proofs.YtfnmppeoleicbaaCol (Lt Eqk put sums ahd)
theorem getD_mem {l : List S55} {i : Nat} (h : i < l.length) : l.getD i z55 ∈ l := by rw [List.getD_eq_getElem?_getD, List.getElem?_eq_getElem h]; exact List.getElem_mem h
theorem mem_getD {l : List S55} {t : S55} (h : t ∈ l) : ∃ i, i < l.length ∧ l.getD i z55 = t := by
  obtain ⟨i, hi, e⟩ := List.getElem_of_mem h
  exact ⟨i, hi, by rw [List.getD_eq_getElem?_getD, List.getElem?_eq_getElem hi]; exact e⟩
def smD (t : S55) : Prop := -1000 ≤ t.f0 ∧ t.f0 ≤ 1000 ∧ 0 ≤ t.f1 ∧ t.f1 ≤ 4 ∧ 0 ≤ t.f2 ∧ t.f2 ≤ 4 ∧ 0 ≤ t.f3 ∧ t.f3 ≤ 4
theorem smD_good {l : List S55} (h : goodT l = true) : ∀ t ∈ l, smD t := by
  intro t ht
  obtain ⟨i, hi, e⟩ := mem_getD ht
  have := okT_iff.1 ((goodT_ok h).2.1 i hi)
  rw [e] at this
  unfold smD; omega
theorem three {a : Int} (ha : 0 ≤ a ∧ a ≤ 2) : a = 0 ∨ a = 1 ∨ a = 2 := by omega
theorem pow_eq (t : S55) (a : Int) : spec_poPower.f t.f0 t.f1 t.f2 t.f3 a = some (impl_PutInteger.pw t a) := by
  unfold spec_poPower.f impl_PutInteger.pw
  split
  · rfl
  · split <;> rfl
theorem pw_rng {t : S55} (a : Int) (ht : smD t) : ∃ m : Nat, m ≤ 4 ∧ impl_PutInteger.pw t a = (m : Int) := by
  obtain ⟨_, _, a1, a2, a3, a4, a5, a6⟩ := ht
  have h : 0 ≤ impl_PutInteger.pw t a ∧ impl_PutInteger.pw t a ≤ 4 := by
    unfold impl_PutInteger.pw; split
    · exact ⟨a1, a2⟩
    · split
      · exact ⟨a3, a4⟩
      · exact ⟨a5, a6⟩
  exact ⟨(impl_PutInteger.pw t a).toNat, by omega, by omega⟩
theorem with_eq (t : S55) (a c : Int) : ∃ b, spec_poWith.f c t.f1 t.f2 t.f3 a 0 = some b ∧ (⟨b.1, b.2.1, b.2.2.1, b.2.2.2⟩ : S55) = impl_PutInteger.tm t a c := by
  unfold spec_poWith.f impl_PutInteger.tm
  by_cases h : a = 0
  · rw [if_pos h, if_pos h]; exact ⟨_, rfl, rfl⟩
  · rw [if_neg h, if_neg h]
    by_cases h' : a = 1
    · rw [if_pos h', if_pos h']; exact ⟨_, rfl, rfl⟩
    · rw [if_neg h', if_neg h']; exact ⟨_, rfl, rfl⟩
def pc (n : Int) : Nat → Int → Int
  | 0, c => c
  | m + 1, c => pc n m (wrap64 (c * n))
theorem pc_w (n : Int) : ∀ (m : Nat) (c : Int), wrap64 c = c → wrap64 (pc n m c) = pc n m c
  | 0, _, h => h
  | m + 1, _, _ => pc_w n m _ (Go.Proofs.YtfnmppeoleicbaaCol.wrap_wrap _)
def pG (a n : Int) (l : List S55) : List S55 := l.map (fun t => impl_PutInteger.tm t a (pc n (impl_PutInteger.pw t a).toNat t.f0))
theorem sp_l1 {l : List S55} {a n : Int} (t : S55) (i : Int) (x : List S55) (hx : x.length < 4398046511104) : ∀ (m K : Nat) (c : Int), m ≤ 4 → spec_PutInteger.l1 (K + m + 1) a n x (m : Int) l (l.length : Int) i c t.f1 t.f2 t.f3 = spec_PutInteger.l0 K a n (x ++ [impl_PutInteger.tm t a (pc n m c)]) l (l.length : Int) (wrap64 (i + 1))
  | 0, K, c, _ => by
    obtain ⟨b, hb, eb⟩ := with_eq t a c
    simp only [spec_PutInteger.l1]
    rw [if_neg (by omega), hb, bs', if_pos hx, eb]; rfl
  | m + 1, K, c, hm => by
    have h := sp_l1 t i x hx (l := l) (a := a) (n := n) m K (wrap64 (c * n)) (by omega)
    rw [show K + (m + 1) + 1 = (K + m + 1) + 1 by omega]
    rw [spec_PutInteger.l1, if_pos (by omega), w64 (x := ((m + 1 : Nat) : Int) - 1) (by omega) (by omega), show ((m + 1 : Nat) : Int) - 1 = (m : Int) by omega, h]; rfl
theorem im_l1 {l : List S55} {a n : Int} (e i : Int) (he : 0 ≤ e ∧ e ≤ 4) (x : List S55) (hx : x.length < 4398046511104) : ∀ (m K : Nat) (c j : Int), 0 ≤ j → j + (m : Int) = e → impl_PutInteger.l1 (K + m + 1) l a n x i c e j = impl_PutInteger.l0 K l a n (x ++ [impl_PutInteger.tm (rd_T55 l i) a (pc n m c)]) (wrap64 (i + 1))
  | 0, K, c, j, h0, hj => by
    simp only [impl_PutInteger.l1]
    rw [if_neg (by omega), if_pos hx]; rfl
  | m + 1, K, c, j, h0, hj => by
    have h := im_l1 e i he x hx (l := l) (a := a) (n := n) m K (wrap64 (c * n)) (j + 1) (by omega) (by omega)
    rw [show K + (m + 1) + 1 = (K + m + 1) + 1 by omega]
    rw [impl_PutInteger.l1, if_pos (by omega), w64 (x := j + 1) (by omega) (by omega), h]; rfl
theorem put_l0' {l : List S55} {a n : Int} (hl : l.length ≤ 20) (hs : ∀ t ∈ l, smD t) : ∀ (d i K : Nat) (x : List S55), i + d = l.length → x.length ≤ i → d * 6 < K →
    ∃ K', K ≤ K' + d * 6 + 1 ∧ spec_PutInteger.l0 K a n x l (l.length : Int) (i : Int) = ((spec_poSum.f K' (x ++ pG a n (l.drop i))).bind fun b => some (b.1, b.2)) ∧ impl_PutInteger.l0 K l a n x (i : Int) = ((impl_collect.f (x ++ pG a n (l.drop i))).bind fun t => impl_polyResult.f K' t)
  | 0, i, K, x, h, _, hK => by
    obtain ⟨K, rfl⟩ : ∃ j, K = j + 1 := ⟨K - 1, by omega⟩
    refine ⟨K, by omega, ?_, ?_⟩
    · rw [spec_PutInteger.l0, if_neg (by omega), List.drop_of_length_le (by omega)]; simp [pG]
    · rw [impl_PutInteger.l0, if_neg (by omega), List.drop_of_length_le (by omega)]; simp [pG]
  | d + 1, i, K, x, h, hx, hK => by
    have hi : i < l.length := by omega
    have hd : l.drop i = l.getD i z55 :: l.drop (i + 1) := by rw [List.drop_eq_getElem_cons hi]; simp [List.getD_eq_getElem?_getD, hi]
    obtain ⟨m, hm, em⟩ := pw_rng a (hs _ (getD_mem hi))
    obtain ⟨K, rfl⟩ : ∃ j, K = (j + m + 1) + 1 := ⟨K - m - 2, by omega⟩
    have hw : wrap64 ((i : Int) + 1) = ((i + 1 : Nat) : Int) := by rw [w64 (by omega) (by omega)]; omega
    have ey : x ++ pG a n (l.drop i) = (x ++ [impl_PutInteger.tm (l.getD i z55) a (pc n m (l.getD i z55).f0)]) ++ pG a n (l.drop (i + 1)) := by
      have e1 : pG a n (l.getD i z55 :: l.drop (i + 1)) = impl_PutInteger.tm (l.getD i z55) a (pc n (impl_PutInteger.pw (l.getD i z55) a).toNat (l.getD i z55).f0) :: pG a n (l.drop (i + 1)) := rfl
      rw [hd, e1, em, Int.toNat_natCast, List.append_assoc]; rfl
    obtain ⟨K', e, b1, b2⟩ := put_l0' hl hs d (i + 1) K (x ++ [impl_PutInteger.tm (l.getD i z55) a (pc n m (l.getD i z55).f0)]) (by omega) (by rw [List.length_append]; simp only [List.length_cons, List.length_nil]; omega) (by omega)
    refine ⟨K', by omega, ?_, ?_⟩
    · rw [spec_PutInteger.l0, if_pos (by omega), if_pos (by omega), if_pos (by omega), rdT_at, pow_eq, bs', em, sp_l1 _ _ _ (by omega) m K _ hm, hw, ey, b1]
    · rw [impl_PutInteger.l0, if_pos (by omega), if_pos (by omega), rdT_at, em, im_l1 (m : Int) (i : Int) (by omega) x (by omega) m K _ 0 (by omega) (by omega), rdT_at, hw, ey, b2]
theorem pG_ok {a n : Int} {l : List S55} (ha : 0 ≤ a ∧ a ≤ 2) (hs : ∀ t ∈ l, smD t) : ∀ u ∈ pG a n l, smT u ∧ wrap64 u.f0 = u.f0 := by
  intro u h
  unfold pG at h
  obtain ⟨t, ht, e⟩ := List.mem_map.1 h
  obtain ⟨c1, c2, a1, a2, a3, a4, a5, a6⟩ := hs t ht
  have hc := pc_w n (impl_PutInteger.pw t a).toNat t.f0 (w64 (by omega) (by omega))
  rw [← e]
  generalize pc n (impl_PutInteger.pw t a).toNat t.f0 = c at hc
  rcases three ha with rfl | rfl | rfl <;> simp only [impl_PutInteger.tm, if_true, Int.reduceEq, if_false, smT] <;> exact ⟨by omega, hc⟩
theorem pU (a : Int) : spec_poUnknown.f a = some (decide (0 ≤ a ∧ a ≤ 2)) := by unfold spec_poUnknown.f; rw [l1In_eq, bs']
theorem iU (a : Int) : impl_isUnknown.f a = some (decide (0 ≤ a ∧ a ≤ 2)) := by unfold impl_isUnknown.f; rw [inside_eq, bs']
theorem both {l : List S55} (h2 : l.length ≤ 1000000) (a1 a2 : Int) : ∃ r : List S55 × Bool, r.1.length ≤ 20 ∧ ∃ n, ∀ K, n ≤ K → spec_PutInteger.f K l a1 a2 = some r ∧ impl_PutInteger.f K l a1 a2 = some r := by
  obtain ⟨K2, e2⟩ := poGood_ev h2
  obtain ⟨K3, e3⟩ := isPoly_ev h2
  obtain ⟨K6, k6⟩ := poSum_run
  obtain ⟨K7, k7⟩ := result_run
  dsimp only at e2 e3
  by_cases g : goodT l = true
  · by_cases b : 0 ≤ a1 ∧ a1 ≤ 2
    · by_cases b' : -100 ≤ a2 ∧ a2 ≤ 100
      · have hl := (goodT_ok g).1
        have hs := smD_good g
        have lG : (pG a1 a2 l).length ≤ 500 := by unfold pG; rw [List.length_map]; omega
        have ok := pG_ok (n := a2) b hs
        refine ⟨resT (pG a1 a2 l), resT_len _, K2 + K3 + K6 + K7 + 200, fun K hK => ?_⟩
        obtain ⟨K, rfl⟩ : ∃ j, K = j + 1 := ⟨K - 1, by omega⟩
        obtain ⟨K', eK, s1, _⟩ := put_l0' (a := a1) (n := a2) hl hs l.length 0 K [] (by omega) (Nat.le_refl _) (by omega)
        obtain ⟨K'', eK', _, s2⟩ := put_l0' (a := a1) (n := a2) hl hs l.length 0 (K + 1) [] (by omega) (Nat.le_refl _) (by omega)
        rw [List.drop_zero, List.nil_append] at s1 s2
        constructor
        · unfold spec_PutInteger.f
          rw [e2 _ (by omega), g]; simp only [bs', if_true]
          rw [pU, bs', decide_eq_true b, if_pos rfl, l1In_eq, bs', decide_eq_true b']
          rw [spec_PutInteger.j0, if_neg (by decide), show (0 : Int) = ((0 : Nat) : Int) from rfl, s1, k6 _ lG (fun t ht => (ok t ht).1) _ (by omega)]; simp only [bs']
        · unfold impl_PutInteger.f
          rw [e3 _ (by omega), g]; simp only [bs', if_true]
          rw [iU, bs', decide_eq_true b, if_pos rfl, inside_eq, bs', decide_eq_true b', if_pos rfl, if_pos b.1, if_pos b.2, show (0 : Int) = ((0 : Nat) : Int) from rfl, s2, collect_run (by omega) (fun t ht => (ok t ht).2)]; simp only [bs']
          rw [k7 _ lG _ (by omega)]
      · refine ⟨([], false), by simp, K2 + K3 + 1, fun K hK => ?_⟩
        obtain ⟨K, rfl⟩ : ∃ j, K = j + 1 := ⟨K - 1, by omega⟩
        constructor
        · unfold spec_PutInteger.f
          rw [e2 _ (by omega), g]; simp only [bs', if_true]
          rw [pU, bs', decide_eq_true b, if_pos rfl, l1In_eq, bs', decide_eq_false b', spec_PutInteger.j0, if_pos (by decide)]
        · unfold impl_PutInteger.f
          rw [e3 _ (by omega), g]; simp only [bs', if_true]
          rw [iU, bs', decide_eq_true b, if_pos rfl, inside_eq, bs', decide_eq_false b', if_neg (by decide)]
    · refine ⟨([], false), by simp, K2 + K3 + 1, fun K hK => ?_⟩
      obtain ⟨K, rfl⟩ : ∃ j, K = j + 1 := ⟨K - 1, by omega⟩
      constructor
      · unfold spec_PutInteger.f
        rw [e2 _ (by omega), g]; simp only [bs', if_true]
        rw [pU, bs', decide_eq_false b, if_neg (by decide), spec_PutInteger.j0, if_pos rfl]
      · unfold impl_PutInteger.f
        rw [e3 _ (by omega), g]; simp only [bs', if_true]
        rw [iU, bs', decide_eq_false b, if_neg (by decide)]
  · refine ⟨([], false), by simp, K2 + K3 + 1, fun K hK => ?_⟩
    obtain ⟨K, rfl⟩ : ∃ j, K = j + 1 := ⟨K - 1, by omega⟩
    constructor
    · unfold spec_PutInteger.f
      rw [e2 _ (by omega)]; simp only [bs']
      rw [if_neg g, spec_PutInteger.j0, if_pos rfl]
    · unfold impl_PutInteger.f
      rw [e3 _ (by omega)]; simp only [bs']
      rw [if_neg g]
theorem FnExactPutInteger (l0 : List S57) (a1 : Int) (a2 : Int) (w0 : l0.length ≤ maxLen ∧ ∀ y ∈ l0, ((Lit.int .i64 y.f0).wf = true ∧ ((Lit.int .i64 y.f1).wf = true ∧ ((Lit.int .i64 y.f2).wf = true ∧ (Lit.int .i64 y.f3).wf = true)))) (_w1 : (Lit.int .i64 a1).wf = true) (_w2 : (Lit.int .i64 a2).wf = true) : ∃ k, laws_FnExactPutInteger.f k l0 a1 a2 = some true := by
  have m1 : l0.length ≤ 9223372036854775807 := w0.1
  obtain ⟨t, ht, hc⟩ := szTermS_eq m1
  rcases hc with hc | ⟨h0, h1⟩
  · refine ⟨0, ?_⟩
    unfold laws_FnExactPutInteger.f
    rw [ht]; simp only [bs']
    rw [if_pos hc]
  · obtain ⟨K0, e0⟩ := toTermS_ev h1 false
    obtain ⟨K1, e1⟩ := toTermS_ev h1 true
    have h2 : (l0.map cvT).length ≤ 1000000 := by rw [List.length_map]; exact h1
    obtain ⟨K4, e4⟩ := markTermS_ev h2
    dsimp only at e0 e1 e4
    obtain ⟨r, hr, n, hn⟩ := both h2 a1 a2
    obtain ⟨K5, e5⟩ := eqTermS_ev (l := r.1) (by omega)
    obtain ⟨K6, e6⟩ := markTermS_ev (l := r.1) (by omega)
    obtain ⟨K7, e7⟩ := heldTermS_ev (n := r.1.length) (by omega)
    dsimp only at e5 e6 e7
    obtain ⟨s2, s3⟩ := hn (K0 + K1 + K4 + K5 + K6 + K7 + n) (by omega)
    refine ⟨K0 + K1 + K4 + K5 + K6 + K7 + n, ?_⟩
    unfold laws_FnExactPutInteger.f
    rw [ht]; simp only [bs']
    rw [if_neg (by omega), e0 _ (by omega)]; simp only [bs']
    rw [s2]; simp only [bs']
    rw [s3]; simp only [bs']
    rw [e5 _ (by omega)]; simp only [bs', if_true]
    rw [if_neg (by simp), intactTermS_self]; simp only [bs', if_true]
    rw [e4 _ (by omega)]; simp only [bs']
    rw [if_neg (by omega)]
    rw [e6 _ (by omega)]; simp only [bs']
    rw [e7 _ (by omega)]; simp only [bs', if_true]
    rw [if_neg (by omega), e1 _ (by omega)]; simp only [bs']
    rw [s3]; simp only [bs']
    rw [e5 _ (by omega)]; simp only [bs', if_true]
    rw [if_neg (by simp), if_neg (by omega)]
end Go.Proofs.Ytfnmppeoleicbaa.Pure
