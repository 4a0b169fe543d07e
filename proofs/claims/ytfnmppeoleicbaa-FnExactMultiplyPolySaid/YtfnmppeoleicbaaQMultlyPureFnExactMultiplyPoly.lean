import Derived.Test.YtfnmppeoleicbaaQMultlyPDx1
import Derived.Test.YtfnmppeoleicbaaQMultlyMz
/- FnExactMultiplyPoly, told over numbers and lists alone: the law's printed function answers true. -/
namespace Go.Proofs.Ytfnmppeoleicbaa.Pure
open Go.RowKit Go.Proofs.Ytfnmppeoleicbaa.PD Go.Proofs.YtfnmppeoleicbaaW.PrintWords Go.Proofs.YtfnmppeoleicbaaW.PrintLast Go.Proofs.YtfnmppeoleicbaaW.PrintMore
open Go.Proofs.YtfnmppeoleicbaaCol (Lt Eqk put sums ahd)
theorem mem_getD {l : List S55} {t : S55} (h : t ∈ l) : ∃ i, i < l.length ∧ l.getD i z55 = t := by
  obtain ⟨i, hi, e⟩ := List.getElem_of_mem h
  exact ⟨i, hi, by rw [List.getD_eq_getElem?_getD, List.getElem?_eq_getElem hi]; exact e⟩
/-- All products. -/
def prods (p q : List S55) : List S55 := p.flatMap fun a => q.map fun b => (⟨wrap64 (a.f0 * b.f0), wrap64 (a.f1 + b.f1), wrap64 (a.f2 + b.f2), wrap64 (a.f3 + b.f3)⟩ : S55)
def row (a : S55) (q : List S55) : List S55 := q.map fun b => (⟨wrap64 (a.f0 * b.f0), wrap64 (a.f1 + b.f1), wrap64 (a.f2 + b.f2), wrap64 (a.f3 + b.f3)⟩ : S55)
theorem mul_l1 {p q : List S55} (hp : p.length ≤ 20) (hq : q.length ≤ 20) (a : S55) (i : Nat) (hi : i < p.length) : ∀ (n j K : Nat) (x : List S55), j + n = q.length → x.length ≤ 20 * i + j → n < K →
    ∃ K', K = K' + (n + 1) ∧ spec_poMul.l1 K q x p (p.length : Int) (i : Int) q (q.length : Int) (j : Int) a.f0 a.f1 a.f2 a.f3 = spec_poMul.l0 K' q (x ++ row a (q.drop j)) p (p.length : Int) (((i + 1 : Nat)) : Int) ∧
      impl_multiplyTerms.l1 K q x p (p.length : Int) (i : Int) q (q.length : Int) (j : Int) a.f0 a.f1 a.f2 a.f3 = impl_multiplyTerms.l0 K' q (x ++ row a (q.drop j)) p (p.length : Int) (((i + 1 : Nat)) : Int)
  | 0, j, K, x, h, _, hK => by
    obtain ⟨K, rfl⟩ : ∃ j, K = j + 1 := ⟨K - 1, by omega⟩
    have hw : wrap64 ((i : Int) + 1) = ((i + 1 : Nat) : Int) := by rw [w64 (by omega) (by omega)]; omega
    refine ⟨K, rfl, ?_, ?_⟩
    · simp only [spec_poMul.l1]
      rw [if_neg (by omega), List.drop_of_length_le (by omega), hw]; simp [row]
    · simp only [impl_multiplyTerms.l1]
      rw [if_neg (by omega), List.drop_of_length_le (by omega), hw]; simp [row]
  | n + 1, j, K, x, h, hx, hK => by
    obtain ⟨K, rfl⟩ : ∃ j, K = j + 1 := ⟨K - 1, by omega⟩
    have hj : j < q.length := by omega
    have hw : wrap64 ((j : Int) + 1) = ((j + 1 : Nat) : Int) := by rw [w64 (by omega) (by omega)]; omega
    have hd : q.drop j = q.getD j z55 :: q.drop (j + 1) := by rw [List.drop_eq_getElem_cons hj]; simp [List.getD_eq_getElem?_getD, hj]
    have hxl : x.length ≤ 1000 := by omega
    obtain ⟨K', e, i1, i2⟩ := mul_l1 hp hq a i hi n (j + 1) K (x ++ [(⟨wrap64 (a.f0 * (q.getD j z55).f0), wrap64 (a.f1 + (q.getD j z55).f1), wrap64 (a.f2 + (q.getD j z55).f2), wrap64 (a.f3 + (q.getD j z55).f3)⟩ : S55)]) (by omega) (by rw [List.length_append, List.length_singleton]; omega) (by omega)
    have er : x ++ row a (q.drop j) = (x ++ [(⟨wrap64 (a.f0 * (q.getD j z55).f0), wrap64 (a.f1 + (q.getD j z55).f1), wrap64 (a.f2 + (q.getD j z55).f2), wrap64 (a.f3 + (q.getD j z55).f3)⟩ : S55)]) ++ row a (q.drop (j + 1)) := by rw [hd]; simp [row]
    refine ⟨K', by omega, ?_, ?_⟩
    · simp only [spec_poMul.l1]
      rw [if_pos (by omega), if_pos (by omega), if_pos (by omega), if_pos (by omega), rdT_at, hw, er]; exact i1
    · simp only [impl_multiplyTerms.l1]
      rw [if_pos (by omega), if_pos (by omega), if_pos (by omega), if_pos (by omega), rdT_at, hw, er]; exact i2
theorem prods_len (p q : List S55) : (prods p q).length = p.length * q.length := by
  induction p with
  | nil => simp [prods]
  | cons a p ih =>
    have : prods (a :: p) q = row a q ++ prods p q := by simp [prods, row]
    rw [this, List.length_append, ih, List.length_cons, Nat.succ_mul]; simp [row]; omega
theorem mul_l0 {p q : List S55} (hp : p.length ≤ 20) (hq : q.length ≤ 20) : ∀ (n i K : Nat) (x : List S55), i + n = p.length → x.length ≤ 20 * i → n * 25 < K →
    ∃ K', K ≤ K' + n * 25 + 1 ∧ spec_poMul.l0 K q x p (p.length : Int) (i : Int) = ((spec_poSum.f K' (x ++ prods (p.drop i) q)).bind fun b => some (b.1, b.2)) ∧
      impl_multiplyTerms.l0 K q x p (p.length : Int) (i : Int) = ((impl_collect.f (x ++ prods (p.drop i) q)).bind fun b => some b)
  | 0, i, K, x, h, _, hK => by
    obtain ⟨K, rfl⟩ : ∃ j, K = j + 1 := ⟨K - 1, by omega⟩
    refine ⟨K, by omega, ?_, ?_⟩
    · simp only [spec_poMul.l0]
      rw [if_neg (by omega), List.drop_of_length_le (by omega)]; simp [prods]
    · simp only [impl_multiplyTerms.l0]
      rw [if_neg (by omega), List.drop_of_length_le (by omega)]; simp [prods]
  | n + 1, i, K, x, h, hx, hK => by
    obtain ⟨K, rfl⟩ : ∃ j, K = j + 1 := ⟨K - 1, by omega⟩
    have hi : i < p.length := by omega
    have hd : p.drop i = p.getD i z55 :: p.drop (i + 1) := by rw [List.drop_eq_getElem_cons hi]; simp [List.getD_eq_getElem?_getD, hi]
    obtain ⟨K1, e1, a1, a2⟩ := mul_l1 hp hq (p.getD i z55) i hi q.length 0 K x (by omega) (by omega) (by omega)
    rw [List.drop_zero] at a1 a2
    have hxl : (x ++ row (p.getD i z55) q).length ≤ 20 * (i + 1) := by rw [List.length_append]; simp only [row, List.length_map]; omega
    obtain ⟨K2, e2, b1, b2⟩ := mul_l0 hp hq n (i + 1) K1 _ (by omega) hxl (by omega)
    have er : x ++ prods (p.drop i) q = (x ++ row (p.getD i z55) q) ++ prods (p.drop (i + 1)) q := by rw [hd]; simp [prods, row]
    refine ⟨K2, by omega, ?_, ?_⟩
    · simp only [spec_poMul.l0]
      rw [if_pos (by omega), if_pos (by omega), if_pos (by omega), rdT_at, er, show (0 : Int) = ((0 : Nat) : Int) from rfl, a1, b1]
    · simp only [impl_multiplyTerms.l0]
      rw [if_pos (by omega), if_pos (by omega), if_pos (by omega), rdT_at, er, show (0 : Int) = ((0 : Nat) : Int) from rfl, a2, b2]
def smT' (t : S55) : Prop := 0 ≤ t.f1 ∧ t.f1 ≤ 400 ∧ 0 ≤ t.f2 ∧ t.f2 ≤ 400 ∧ 0 ≤ t.f3 ∧ t.f3 ≤ 400
theorem prods_sm {p q : List S55} (hp : ∀ t ∈ p, smT' t) (hq : ∀ t ∈ q, smT' t) : ∀ t ∈ prods p q, smT t ∧ wrap64 t.f0 = t.f0 := by
  intro t ht
  unfold prods at ht
  obtain ⟨a, ha, hb⟩ := List.mem_flatMap.1 ht
  obtain ⟨b, hb, e⟩ := List.mem_map.1 hb
  obtain ⟨a1, a2, a3, a4, a5, a6⟩ := hp a ha
  obtain ⟨b1, b2, b3, b4, b5, b6⟩ := hq b hb
  rw [← e]
  refine ⟨⟨?_, ?_, ?_, ?_, ?_, ?_⟩, Go.Proofs.YtfnmppeoleicbaaCol.wrap_wrap _⟩ <;> (simp only []; rw [w64 (by omega) (by omega)]; omega)
theorem mul_run : ∃ KM, ∀ p q : List S55, p.length ≤ 20 → q.length ≤ 20 → (∀ t ∈ p, smT' t) → (∀ t ∈ q, smT' t) → ∀ K, KM ≤ K → spec_poMul.f K p q = some (resT (prods p q)) ∧ (impl_multiplyTerms.f K p q).bind (fun t => impl_polyResult.f K t) = some (resT (prods p q)) := by
  obtain ⟨K1, k1⟩ := poSum_run
  obtain ⟨K2, k2⟩ := result_run
  refine ⟨600 + K1 + K2, fun p q hp hq sp sq K hK => ?_⟩
  have hlen : (prods p q).length ≤ 400 := by
    rw [prods_len]
    calc p.length * q.length ≤ 20 * 20 := Nat.mul_le_mul hp hq
      _ = 400 := rfl
  have hs := prods_sm sp sq
  obtain ⟨K', e, a1, a2⟩ := mul_l0 hp hq p.length 0 K [] (by omega) (Nat.le_refl _) (by omega)
  rw [List.drop_zero, List.nil_append] at a1 a2
  constructor
  · unfold spec_poMul.f
    rw [show (0 : Int) = ((0 : Nat) : Int) from rfl, a1, k1 _ (by omega) (fun t ht => (hs t ht).1) K' (by omega), bs']
  · unfold impl_multiplyTerms.f
    rw [show (0 : Int) = ((0 : Nat) : Int) from rfl, a2, collect_run (by omega) (fun t ht => (hs t ht).2), bs', bs', k2 _ (by omega) K (by omega)]
theorem sm_good {l : List S55} (h : goodT l = true) : ∀ t ∈ l, smT' t := by
  intro t ht
  obtain ⟨i, hi, e⟩ := mem_getD ht
  have := okT_iff.1 ((goodT_ok h).2.1 i hi)
  rw [e] at this
  unfold smT'; omega
theorem both {l m : List S55} (h2 : l.length ≤ 1000000) (g2 : m.length ≤ 1000000) : ∃ r : List S55 × Bool, r.1.length ≤ 20 ∧ ∃ n, ∀ K, n ≤ K → spec_MultiplyPoly.f K l m = some r ∧ impl_MultiplyPoly.f K l m = some r := by
  obtain ⟨K2, e2⟩ := poGood_ev h2
  obtain ⟨K3, e3⟩ := isPoly_ev h2
  obtain ⟨K4, e4⟩ := poGood_ev g2
  obtain ⟨K5, e5⟩ := isPoly_ev g2
  obtain ⟨KM, km⟩ := mul_run
  dsimp only at e2 e3 e4 e5
  by_cases g : goodT l = true
  · by_cases g' : goodT m = true
    · have hm := km l m (goodT_ok g).1 (goodT_ok g').1 (sm_good g) (sm_good g')
      refine ⟨resT (prods l m), resT_len _, K2 + K3 + K4 + K5 + KM + 1, fun K hK => ?_⟩
      obtain ⟨K, rfl⟩ : ∃ j, K = j + 1 := ⟨K - 1, by omega⟩
      obtain ⟨m1, _⟩ := hm (K + 1) (by omega)
      obtain ⟨_, m2⟩ := hm K (by omega)
      constructor
      · unfold spec_MultiplyPoly.f
        rw [e2 _ (by omega), g]; simp only [bs', if_true]
        rw [e4 _ (by omega), g']; simp only [bs', if_true]
        rw [m1, bs']
      · unfold impl_MultiplyPoly.f
        rw [e3 _ (by omega), g]; simp only [bs', if_true]
        rw [e5 _ (by omega), g']; simp only [bs', Bool.not_true]
        simp only [impl_MultiplyPoly.j0]
        rw [if_neg (by decide)]
        cases hc : impl_multiplyTerms.f K l m with
        | none => rw [hc] at m2; cases m2
        | some s =>
          rw [hc, bs'] at m2
          rw [bs', m2, bs']
    · refine ⟨([], false), by simp, K2 + K3 + K4 + K5 + 1, fun K hK => ?_⟩
      obtain ⟨K, rfl⟩ : ∃ j, K = j + 1 := ⟨K - 1, by omega⟩
      have gf : goodT m = false := Bool.eq_false_iff.2 g'
      constructor
      · unfold spec_MultiplyPoly.f
        rw [e2 _ (by omega), g]; simp only [bs', if_true]
        rw [e4 _ (by omega)]; simp only [bs']
        rw [if_neg g']
      · unfold impl_MultiplyPoly.f
        rw [e3 _ (by omega), g]; simp only [bs', if_true]
        rw [e5 _ (by omega), gf]; simp only [bs', Bool.not_false]
        simp only [impl_MultiplyPoly.j0, if_true]
  · refine ⟨([], false), by simp, K2 + K3 + 1, fun K hK => ?_⟩
    obtain ⟨K, rfl⟩ : ∃ j, K = j + 1 := ⟨K - 1, by omega⟩
    constructor
    · unfold spec_MultiplyPoly.f
      rw [e2 _ (by omega)]; simp only [bs']
      rw [if_neg g]
    · unfold impl_MultiplyPoly.f
      rw [e3 _ (by omega)]; simp only [bs']
      rw [if_neg g]; simp only [impl_MultiplyPoly.j0, if_true]
theorem szT {l : List S57} {a : Int} (hl : l.length ≤ 9223372036854775807) (h0 : 0 ≤ a) (h1 : a ≤ 1000000) : ∃ t, laws_szTermS.f l a = some t ∧ (t < 0 ∨ (0 ≤ t ∧ t ≤ 1000000 ∧ l.length ≤ 1000000)) := by
  unfold laws_szTermS.f
  rw [w64 (by omega) (by omega)]
  by_cases h : (l.length : Int) ≤ a
  · rw [if_neg (by omega)]; exact ⟨_, rfl, .inr ⟨by omega, by omega, by omega⟩⟩
  · rw [if_pos (by omega)]; exact ⟨_, rfl, .inl (by omega)⟩
theorem markTermS_any {l : List S55} (hl : l.length ≤ 1000000) {s : Int} (h0 : 0 ≤ s) (h1 : s ≤ 10000000) : ∃ l' : List S55, ∃ n, ∀ K, n ≤ K → laws_markTermS.f K l s = some (s + 4 * (l.length : Int), l') := by
  have key : ∀ (d i : Nat) (x : List S55), i + d = l.length → x.length = l.length → ∃ l' : List S55, ∀ K, d < K → laws_markTermS.l0 K x (s + 4 * (i : Int)) (i : Int) = some (s + 4 * (l.length : Int), l') := by
    intro d
    induction d with
    | zero =>
      intro i x hi hx
      refine ⟨x, fun K hK => ?_⟩
      obtain ⟨K, rfl⟩ : ∃ j, K = j + 1 := ⟨K - 1, by omega⟩
      simp only [laws_markTermS.l0]
      rw [if_neg (by omega), show i = l.length by omega]
    | succ d ih =>
      intro i x hi hx
      obtain ⟨l', hl'⟩ := ih (i + 1) (x.set i ⟨s + 4 * (i : Int), s + 4 * (i : Int) + 1, s + 4 * (i : Int) + 1 + 1, s + 4 * (i : Int) + 1 + 1 + 1⟩) (by omega) (by rw [List.length_set]; omega)
      refine ⟨l', fun K hK => ?_⟩
      obtain ⟨K, rfl⟩ : ∃ j, K = j + 1 := ⟨K - 1, by omega⟩
      simp only [laws_markTermS.l0]
      rw [if_pos (by omega), if_pos (by omega)]; simp only [bs', Int.toNat_natCast]
      rw [rdT_set (by omega)]
      simp only [List.set_set]
      rw [rdT_set (by omega)]
      dsimp only
      rw [rdT_set (by omega)]
      dsimp only
      rw [w64 (x := s + 4 * (i : Int) + 1) (by omega) (by omega), w64 (x := s + 4 * (i : Int) + 1 + 1) (by omega) (by omega), w64 (x := s + 4 * (i : Int) + 1 + 1 + 1) (by omega) (by omega), w64 (x := s + 4 * (i : Int) + 1 + 1 + 1 + 1) (by omega) (by omega), w64 (x := (i : Int) + 1) (by omega) (by omega)]
      have := hl' K (by omega)
      rw [show s + 4 * ((i + 1 : Nat) : Int) = s + 4 * (i : Int) + 1 + 1 + 1 + 1 by omega, show ((i + 1 : Nat) : Int) = (i : Int) + 1 by omega] at this
      exact this
  obtain ⟨l', hl'⟩ := key l.length 0 l (by omega) rfl
  refine ⟨l', l.length + 1, fun K hK => ?_⟩
  have := hl' K (by omega)
  unfold laws_markTermS.f
  rw [show s + 4 * ((0 : Nat) : Int) = s by omega] at this
  exact this
theorem FnExactMultiplyPoly (l0 : List S57) (l1 : List S57) (w0 : l0.length ≤ maxLen ∧ ∀ y ∈ l0, ((Lit.int .i64 y.f0).wf = true ∧ ((Lit.int .i64 y.f1).wf = true ∧ ((Lit.int .i64 y.f2).wf = true ∧ (Lit.int .i64 y.f3).wf = true)))) (w1 : l1.length ≤ maxLen ∧ ∀ y ∈ l1, ((Lit.int .i64 y.f0).wf = true ∧ ((Lit.int .i64 y.f1).wf = true ∧ ((Lit.int .i64 y.f2).wf = true ∧ (Lit.int .i64 y.f3).wf = true)))) : ∃ k, laws_FnExactMultiplyPoly.f k l0 l1 = some true := by
  have m1 : l0.length ≤ 9223372036854775807 := w0.1
  have m2 : l1.length ≤ 9223372036854775807 := w1.1
  obtain ⟨t, ht, hc⟩ := szT (a := 1000000) m1 (by omega) (by omega)
  rcases hc with hc | ⟨h0, h0', h1⟩
  · refine ⟨0, ?_⟩
    unfold laws_FnExactMultiplyPoly.f
    rw [ht]; simp only [bs']
    rw [if_pos hc]
  · obtain ⟨t2, ht2, hc2⟩ := szT (a := t) m2 h0 h0'
    rcases hc2 with hc2 | ⟨g0, _, g1⟩
    · refine ⟨0, ?_⟩
      unfold laws_FnExactMultiplyPoly.f
      rw [ht]; simp only [bs']
      rw [if_neg (by omega), ht2]; simp only [bs']
      rw [if_pos hc2]
    · obtain ⟨K0, e0⟩ := toTermS_ev h1 false
      obtain ⟨K1, e1⟩ := toTermS_ev h1 true
      obtain ⟨K2, e2⟩ := toTermS_ev g1 false
      obtain ⟨K3, e3⟩ := toTermS_ev g1 true
      have h2 : (l0.map cvT).length ≤ 1000000 := by rw [List.length_map]; exact h1
      have g2 : (l1.map cvT).length ≤ 1000000 := by rw [List.length_map]; exact g1
      obtain ⟨K4, e4⟩ := markTermS_ev h2
      obtain ⟨mm, K8, e8⟩ := markTermS_any (s := 101 + 4 * ((l0.map cvT).length : Int)) g2 (by omega) (by omega)
      dsimp only at e0 e1 e2 e3 e4
      obtain ⟨r, hr, n, hn⟩ := both h2 g2
      obtain ⟨K5, e5⟩ := eqTermS_ev (l := r.1) (by omega)
      obtain ⟨K6, e6⟩ := markTermS_ev (l := r.1) (by omega)
      obtain ⟨K7, e7⟩ := heldTermS_ev (n := r.1.length) (by omega)
      dsimp only at e5 e6 e7
      obtain ⟨s2, s3⟩ := hn (K0 + K1 + K2 + K3 + K4 + K5 + K6 + K7 + K8 + n) (by omega)
      refine ⟨K0 + K1 + K2 + K3 + K4 + K5 + K6 + K7 + K8 + n, ?_⟩
      unfold laws_FnExactMultiplyPoly.f
      rw [ht]; simp only [bs']
      rw [if_neg (by omega), ht2]; simp only [bs']
      rw [if_neg (by omega), e0 _ (by omega)]; simp only [bs']
      rw [e2 _ (by omega)]; simp only [bs']
      rw [s2]; simp only [bs']
      rw [s3]; simp only [bs']
      rw [e5 _ (by omega)]; simp only [bs', if_true]
      rw [if_neg (by simp), intactTermS_self]; simp only [bs', if_true]
      rw [intactTermS_self]; simp only [bs', if_true]
      rw [e4 _ (by omega)]; simp only [bs']
      rw [e8 _ (by omega)]; simp only [bs']
      rw [if_neg (by omega)]
      rw [e6 _ (by omega)]; simp only [bs']
      rw [e7 _ (by omega)]; simp only [bs', if_true]
      rw [if_neg (by omega), e1 _ (by omega)]; simp only [bs']
      rw [e3 _ (by omega)]; simp only [bs']
      rw [s3]; simp only [bs']
      rw [e5 _ (by omega)]; simp only [bs', if_true]
      rw [if_neg (by simp), if_neg (by omega)]
end Go.Proofs.Ytfnmppeoleicbaa.Pure
