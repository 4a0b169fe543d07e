import Derived.Test.YtfnmppeoleicbaaQAddPlyPDx1
import Derived.Test.YtfnmppeoleicbaaQAddPlyMz
/- FnExactAddPoly, told over numbers and lists alone: the law's printed function answers true. -/
namespace Go.Proofs.Ytfnmppeoleicbaa.Pure
open Go.RowKit Go.Proofs.Ytfnmppeoleicbaa.PD Go.Proofs.YtfnmppeoleicbaaW.PrintWords Go.Proofs.YtfnmppeoleicbaaW.PrintLast Go.Proofs.YtfnmppeoleicbaaW.PrintMore
open Go.Proofs.YtfnmppeoleicbaaCol (Lt Eqk put sums ahd)
theorem mem_getD {l : List S55} {t : S55} (h : t ∈ l) : ∃ i, i < l.length ∧ l.getD i z55 = t := by
  obtain ⟨i, hi, e⟩ := List.getElem_of_mem h
  exact ⟨i, hi, by rw [List.getD_eq_getElem?_getD, List.getElem?_eq_getElem hi]; exact e⟩
theorem sm_good {l : List S55} (h : goodT l = true) : ∀ t ∈ l, smT t ∧ wrap64 t.f0 = t.f0 := by
  intro t ht
  obtain ⟨i, hi, e⟩ := mem_getD ht
  have := okT_iff.1 ((goodT_ok h).2.1 i hi)
  rw [e] at this
  refine ⟨?_, w64 (by omega) (by omega)⟩
  unfold smT; omega
theorem both {l m : List S55} (h2 : l.length ≤ 1000000) (g2 : m.length ≤ 1000000) : ∃ r : List S55 × Bool, r.1.length ≤ 20 ∧ ∃ n, ∀ K, n ≤ K → spec_AddPoly.f K l m = some r ∧ impl_AddPoly.f K l m = some r := by
  obtain ⟨K2, e2⟩ := poGood_ev h2
  obtain ⟨K3, e3⟩ := isPoly_ev h2
  obtain ⟨K4, e4⟩ := poGood_ev g2
  obtain ⟨K5, e5⟩ := isPoly_ev g2
  obtain ⟨K6, k6⟩ := poSum_run
  obtain ⟨K7, k7⟩ := result_run
  dsimp only at e2 e3 e4 e5
  by_cases g : goodT l = true
  · by_cases g' : goodT m = true
    · have hl := (goodT_ok g).1
      have hm := (goodT_ok g').1
      have hs : ∀ t ∈ l ++ m, smT t ∧ wrap64 t.f0 = t.f0 := fun t ht => (List.mem_append.1 ht).elim (sm_good g t) (sm_good g' t)
      have hlen : (l ++ m).length ≤ 500 := by rw [List.length_append]; omega
      refine ⟨resT (l ++ m), resT_len _, K2 + K3 + K4 + K5 + K6 + K7 + 1, fun K hK => ?_⟩
      obtain ⟨K, rfl⟩ : ∃ j, K = j + 1 := ⟨K - 1, by omega⟩
      constructor
      · unfold spec_AddPoly.f
        rw [e2 _ (by omega), g]; simp only [bs', if_true]
        rw [e4 _ (by omega), g']; simp only [bs', if_true]
        unfold spec_poAdd.f
        simp only [bs', List.nil_append, List.length_nil, Nat.zero_add]
        rw [if_pos (by omega)]
        rw [if_pos (by omega), k6 _ hlen (fun t ht => (hs t ht).1) _ (by omega)]; simp only [bs']
      · unfold impl_AddPoly.f
        rw [e3 _ (by omega), g]; simp only [bs', if_true]
        rw [e5 _ (by omega), g']; simp only [bs', Bool.not_true]
        simp only [impl_AddPoly.j0]
        rw [if_neg (by decide)]
        unfold impl_AddPoly.cat
        rw [if_pos (by omega)]; simp only [bs']
        rw [collect_run (by omega) (fun t ht => (hs t ht).2)]; simp only [bs']
        rw [k7 _ hlen _ (by omega)]; simp only [bs']
    · refine ⟨([], false), by simp, K2 + K3 + K4 + K5 + 1, fun K hK => ?_⟩
      obtain ⟨K, rfl⟩ : ∃ j, K = j + 1 := ⟨K - 1, by omega⟩
      have gf : goodT m = false := Bool.eq_false_iff.2 g'
      constructor
      · unfold spec_AddPoly.f
        rw [e2 _ (by omega), g]; simp only [bs', if_true]
        rw [e4 _ (by omega)]; simp only [bs']
        rw [if_neg g']
      · unfold impl_AddPoly.f
        rw [e3 _ (by omega), g]; simp only [bs', if_true]
        rw [e5 _ (by omega), gf]; simp only [bs', Bool.not_false]
        simp only [impl_AddPoly.j0, if_true]
  · refine ⟨([], false), by simp, K2 + K3 + 1, fun K hK => ?_⟩
    obtain ⟨K, rfl⟩ : ∃ j, K = j + 1 := ⟨K - 1, by omega⟩
    constructor
    · unfold spec_AddPoly.f
      rw [e2 _ (by omega)]; simp only [bs']
      rw [if_neg g]
    · unfold impl_AddPoly.f
      rw [e3 _ (by omega)]; simp only [bs']
      rw [if_neg g]; simp only [impl_AddPoly.j0, if_true]
theorem szT {l : List S57} {a : Int} (hl : l.length ≤ 9223372036854775807) (h0 : 0 ≤ a) (h1 : a ≤ 1000000) : ∃ t, laws_szTermS.f l a = some t ∧ (t < 0 ∨ (0 ≤ t ∧ t ≤ 1000000 ∧ l.length ≤ 1000000)) := by
  unfold laws_szTermS.f
  rw [w64 (by omega) (by omega)]
  by_cases h : (l.length : Int) ≤ a
  · rw [if_neg (by omega)]; exact ⟨_, rfl, .inr ⟨by omega, by omega, by omega⟩⟩
  · rw [if_pos (by omega)]; exact ⟨_, rfl, .inl (by omega)⟩
theorem markTermS_any {l : List S55} (hl : l.length ≤ 1000000) {s : Int} (h0 : 0 ≤ s) (h1 : s ≤ 10000000) : ∃ l' : List S55, ∃ n, ∀ K, n ≤ K → laws_markTermS.f K l s = some (s + 4 * (l.length : Int), l') := by
  have key : ∀ (d i : Nat) (x : List S55), i + d = l.length → x.length = l.length → ∃ l' : List S55, ∀ K, d < K → laws_markTermS.l0 K x (s + 4 * (i : Int)) (i : Int) = some (s + 4 * (l.length : Int), l') := by
    intro d
    induction d with
    | zero =>
      intro i x hi hx
      refine ⟨x, fun K hK => ?_⟩
      obtain ⟨K, rfl⟩ : ∃ j, K = j + 1 := ⟨K - 1, by omega⟩
      simp only [laws_markTermS.l0]
      rw [if_neg (by omega), show i = l.length by omega]
    | succ d ih =>
      intro i x hi hx
      obtain ⟨l', hl'⟩ := ih (i + 1) (x.set i ⟨s + 4 * (i : Int), s + 4 * (i : Int) + 1, s + 4 * (i : Int) + 1 + 1, s + 4 * (i : Int) + 1 + 1 + 1⟩) (by omega) (by rw [List.length_set]; omega)
      refine ⟨l', fun K hK => ?_⟩
      obtain ⟨K, rfl⟩ : ∃ j, K = j + 1 := ⟨K - 1, by omega⟩
      simp only [laws_markTermS.l0]
      rw [if_pos (by omega), if_pos (by omega)]; simp only [bs', Int.toNat_natCast]
      rw [rdT_set (by omega)]
      simp only [List.set_set]
      rw [rdT_set (by omega)]
      dsimp only
      rw [rdT_set (by omega)]
      dsimp only
      rw [w64 (x := s + 4 * (i : Int) + 1) (by omega) (by omega), w64 (x := s + 4 * (i : Int) + 1 + 1) (by omega) (by omega), w64 (x := s + 4 * (i : Int) + 1 + 1 + 1) (by omega) (by omega), w64 (x := s + 4 * (i : Int) + 1 + 1 + 1 + 1) (by omega) (by omega), w64 (x := (i : Int) + 1) (by omega) (by omega)]
      have := hl' K (by omega)
      rw [show s + 4 * ((i + 1 : Nat) : Int) = s + 4 * (i : Int) + 1 + 1 + 1 + 1 by omega, show ((i + 1 : Nat) : Int) = (i : Int) + 1 by omega] at this
      exact this
  obtain ⟨l', hl'⟩ := key l.length 0 l (by omega) rfl
  refine ⟨l', l.length + 1, fun K hK => ?_⟩
  have := hl' K (by omega)
  unfold laws_markTermS.f
  rw [show s + 4 * ((0 : Nat) : Int) = s by omega] at this
  exact this
theorem FnExactAddPoly (l0 : List S57) (l1 : List S57) (w0 : l0.length ≤ maxLen ∧ ∀ y ∈ l0, ((Lit.int .i64 y.f0).wf = true ∧ ((Lit.int .i64 y.f1).wf = true ∧ ((Lit.int .i64 y.f2).wf = true ∧ (Lit.int .i64 y.f3).wf = true)))) (w1 : l1.length ≤ maxLen ∧ ∀ y ∈ l1, ((Lit.int .i64 y.f0).wf = true ∧ ((Lit.int .i64 y.f1).wf = true ∧ ((Lit.int .i64 y.f2).wf = true ∧ (Lit.int .i64 y.f3).wf = true)))) : ∃ k, laws_FnExactAddPoly.f k l0 l1 = some true := by
  have m1 : l0.length ≤ 9223372036854775807 := w0.1
  have m2 : l1.length ≤ 9223372036854775807 := w1.1
  obtain ⟨t, ht, hc⟩ := szT (a := 1000000) m1 (by omega) (by omega)
  rcases hc with hc | ⟨h0, h0', h1⟩
  · refine ⟨0, ?_⟩
    unfold laws_FnExactAddPoly.f
    rw [ht]; simp only [bs']
    rw [if_pos hc]
  · obtain ⟨t2, ht2, hc2⟩ := szT (a := t) m2 h0 h0'
    rcases hc2 with hc2 | ⟨g0, _, g1⟩
    · refine ⟨0, ?_⟩
      unfold laws_FnExactAddPoly.f
      rw [ht]; simp only [bs']
      rw [if_neg (by omega), ht2]; simp only [bs']
      rw [if_pos hc2]
    · obtain ⟨K0, e0⟩ := toTermS_ev h1 false
      obtain ⟨K1, e1⟩ := toTermS_ev h1 true
      obtain ⟨K2, e2⟩ := toTermS_ev g1 false
      obtain ⟨K3, e3⟩ := toTermS_ev g1 true
      have h2 : (l0.map cvT).length ≤ 1000000 := by rw [List.length_map]; exact h1
      have g2 : (l1.map cvT).length ≤ 1000000 := by rw [List.length_map]; exact g1
      obtain ⟨K4, e4⟩ := markTermS_ev h2
      obtain ⟨mm, K8, e8⟩ := markTermS_any (s := 101 + 4 * ((l0.map cvT).length : Int)) g2 (by omega) (by omega)
      dsimp only at e0 e1 e2 e3 e4
      obtain ⟨r, hr, n, hn⟩ := both h2 g2
      obtain ⟨K5, e5⟩ := eqTermS_ev (l := r.1) (by omega)
      obtain ⟨K6, e6⟩ := markTermS_ev (l := r.1) (by omega)
      obtain ⟨K7, e7⟩ := heldTermS_ev (n := r.1.length) (by omega)
      dsimp only at e5 e6 e7
      obtain ⟨s2, s3⟩ := hn (K0 + K1 + K2 + K3 + K4 + K5 + K6 + K7 + K8 + n) (by omega)
      refine ⟨K0 + K1 + K2 + K3 + K4 + K5 + K6 + K7 + K8 + n, ?_⟩
      unfold laws_FnExactAddPoly.f
      rw [ht]; simp only [bs']
      rw [if_neg (by omega), ht2]; simp only [bs']
      rw [if_neg (by omega), e0 _ (by omega)]; simp only [bs']
      rw [e2 _ (by omega)]; simp only [bs']
      rw [s2]; simp only [bs']
      rw [s3]; simp only [bs']
      rw [e5 _ (by omega)]; simp only [bs', if_true]
      rw [if_neg (by simp), intactTermS_self]; simp only [bs', if_true]
      rw [intactTermS_self]; simp only [bs', if_true]
      rw [e4 _ (by omega)]; simp only [bs']
      rw [e8 _ (by omega)]; simp only [bs']
      rw [if_neg (by omega)]
      rw [e6 _ (by omega)]; simp only [bs']
      rw [e7 _ (by omega)]; simp only [bs', if_true]
      rw [if_neg (by omega), e1 _ (by omega)]; simp only [bs']
      rw [e3 _ (by omega)]; simp only [bs']
      rw [s3]; simp only [bs']
      rw [e5 _ (by omega)]; simp only [bs', if_true]
      rw [if_neg (by simp), if_neg (by omega)]
end Go.Proofs.Ytfnmppeoleicbaa.Pure
