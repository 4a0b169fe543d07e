import Derived.Test.YthanmlojikidbaaQPolylsPDx0
import Derived.Test.YthanmlojikidbaaQPolylsMz
/- What AddPoly, MultiplyPoly, ScalePoly, DerivePoly and NormalPoly answer, on both sides, told outright: plain lemmas on the printed functions. -/
namespace Go.Proofs.Ythanmlojikidbaa.Pure
open Go.RowKit Go.Proofs.Ythanmlojikidbaa.PD Go.Proofs.YthanmlojikidbaaW.PrintWords Go.Proofs.YthanmlojikidbaaW.PrintLast Go.Proofs.YthanmlojikidbaaW.PrintMore
open Go.Proofs.YthanmlojikidbaaCol (Lt Eqk put sums ahd cs Nf)
theorem getD_mem {l : List S51} {i : Nat} (h : i < l.length) : l.getD i z51 ∈ l := by rw [List.getD_eq_getElem?_getD, List.getElem?_eq_getElem h]; exact List.getElem_mem h
theorem mem_getD {l : List S51} {t : S51} (h : t ∈ l) : ∃ i, i < l.length ∧ l.getD i z51 = t := by
  obtain ⟨i, hi, e⟩ := List.getElem_of_mem h
  exact ⟨i, hi, by rw [List.getD_eq_getElem?_getD, List.getElem?_eq_getElem hi]; exact e⟩
/-- All products. -/
theorem sm_goodA {l : List S51} (h : goodT l = true) : ∀ t ∈ l, smT t ∧ wrap64 t.f0 = t.f0 := by
  intro t ht
  obtain ⟨i, hi, e⟩ := mem_getD ht
  have := okT_iff.1 ((goodT_ok h).2.1 i hi)
  rw [e] at this
  refine ⟨?_, w64 (by omega) (by omega)⟩
  unfold smT; omega
def addR (l m : List S51) : List S51 × Bool := if goodT l = true ∧ goodT m = true then resT (l ++ m) else ([], false)
theorem add_ev {l m : List S51} (h2 : l.length ≤ 1000000) (g2 : m.length ≤ 1000000) : ∃ n, ∀ K, n ≤ K → spec_AddPoly.f K l m = some (addR l m) ∧ impl_AddPoly.f K l m = some (addR l m) := by
  obtain ⟨K2, e2⟩ := poGood_ev h2
  obtain ⟨K3, e3⟩ := isPoly_ev h2
  obtain ⟨K4, e4⟩ := poGood_ev g2
  obtain ⟨K5, e5⟩ := isPoly_ev g2
  obtain ⟨K6, k6⟩ := poSum_run
  obtain ⟨K7, k7⟩ := result_run
  dsimp only at e2 e3 e4 e5
  by_cases g : goodT l = true
  · by_cases g' : goodT m = true
    · have hl := (goodT_ok g).1
      have hm := (goodT_ok g').1
      have hs : ∀ t ∈ l ++ m, smT t ∧ wrap64 t.f0 = t.f0 := fun t ht => (List.mem_append.1 ht).elim (sm_goodA g t) (sm_goodA g' t)
      have hlen : (l ++ m).length ≤ 500 := by rw [List.length_append]; omega
      rw [show addR l m = resT (l ++ m) from if_pos ⟨g, g'⟩]
      refine ⟨K2 + K3 + K4 + K5 + K6 + K7 + 1, fun K hK => ?_⟩
      obtain ⟨K, rfl⟩ : ∃ j, K = j + 1 := ⟨K - 1, by omega⟩
      constructor
      · unfold spec_AddPoly.f
        rw [e2 _ (by omega), g]; simp only [bs', if_true]
        rw [e4 _ (by omega), g']; simp only [bs', if_true]
        unfold spec_poAdd.f
        simp only [bs', List.nil_append, List.length_nil, Nat.zero_add]
        rw [if_pos (by omega)]
        rw [if_pos (by omega), k6 _ hlen (fun t ht => (hs t ht).1) _ (by omega)]; simp only [bs']
      · unfold impl_AddPoly.f
        rw [e3 _ (by omega), g]; simp only [bs', if_true]
        rw [e5 _ (by omega), g']; simp only [bs', Bool.not_true]
        simp only [impl_AddPoly.j0]
        rw [if_neg (by decide)]
        unfold impl_AddPoly.cat
        rw [if_pos (by omega)]; simp only [bs']
        rw [collect_run (by omega) (fun t ht => (hs t ht).2)]; simp only [bs']
        rw [k7 _ hlen _ (by omega)]; simp only [bs']
    · rw [show addR l m = ([], false) from if_neg (fun h => g' h.2)]
      refine ⟨K2 + K3 + K4 + K5 + 1, fun K hK => ?_⟩
      obtain ⟨K, rfl⟩ : ∃ j, K = j + 1 := ⟨K - 1, by omega⟩
      have gf : goodT m = false := Bool.eq_false_iff.2 g'
      constructor
      · unfold spec_AddPoly.f
        rw [e2 _ (by omega), g]; simp only [bs', if_true]
        rw [e4 _ (by omega)]; simp only [bs']
        rw [if_neg g']
      · unfold impl_AddPoly.f
        rw [e3 _ (by omega), g]; simp only [bs', if_true]
        rw [e5 _ (by omega), gf]; simp only [bs', Bool.not_false]
        simp only [impl_AddPoly.j0, if_true]
  · rw [show addR l m = ([], false) from if_neg (fun h => g h.1)]
    refine ⟨K2 + K3 + 1, fun K hK => ?_⟩
    obtain ⟨K, rfl⟩ : ∃ j, K = j + 1 := ⟨K - 1, by omega⟩
    constructor
    · unfold spec_AddPoly.f
      rw [e2 _ (by omega)]; simp only [bs']
      rw [if_neg g]
    · unfold impl_AddPoly.f
      rw [e3 _ (by omega)]; simp only [bs']
      rw [if_neg g]; simp only [impl_AddPoly.j0, if_true]
def prods (p q : List S51) : List S51 := p.flatMap fun a => q.map fun b => (⟨wrap64 (a.f0 * b.f0), wrap64 (a.f1 + b.f1), wrap64 (a.f2 + b.f2), wrap64 (a.f3 + b.f3)⟩ : S51)
def row (a : S51) (q : List S51) : List S51 := q.map fun b => (⟨wrap64 (a.f0 * b.f0), wrap64 (a.f1 + b.f1), wrap64 (a.f2 + b.f2), wrap64 (a.f3 + b.f3)⟩ : S51)
theorem mul_l1 {p q : List S51} (hp : p.length ≤ 20) (hq : q.length ≤ 20) (a : S51) (i : Nat) (hi : i < p.length) : ∀ (n j K : Nat) (x : List S51), j + n = q.length → x.length ≤ 20 * i + j → n < K →
    ∃ K', K = K' + (n + 1) ∧ spec_poMul.l1 K q x p (p.length : Int) (i : Int) q (q.length : Int) (j : Int) a.f0 a.f1 a.f2 a.f3 = spec_poMul.l0 K' q (x ++ row a (q.drop j)) p (p.length : Int) (((i + 1 : Nat)) : Int) ∧
      impl_multiplyTerms.l1 K q x p (p.length : Int) (i : Int) q (q.length : Int) (j : Int) a.f0 a.f1 a.f2 a.f3 = impl_multiplyTerms.l0 K' q (x ++ row a (q.drop j)) p (p.length : Int) (((i + 1 : Nat)) : Int)
  | 0, j, K, x, h, _, hK => by
    obtain ⟨K, rfl⟩ : ∃ j, K = j + 1 := ⟨K - 1, by omega⟩
    have hw : wrap64 ((i : Int) + 1) = ((i + 1 : Nat) : Int) := by rw [w64 (by omega) (by omega)]; omega
    refine ⟨K, rfl, ?_, ?_⟩
    · simp only [spec_poMul.l1]
      rw [if_neg (by omega), List.drop_of_length_le (by omega), hw]; simp [row]
    · simp only [impl_multiplyTerms.l1]
      rw [if_neg (by omega), List.drop_of_length_le (by omega), hw]; simp [row]
  | n + 1, j, K, x, h, hx, hK => by
    obtain ⟨K, rfl⟩ : ∃ j, K = j + 1 := ⟨K - 1, by omega⟩
    have hj : j < q.length := by omega
    have hw : wrap64 ((j : Int) + 1) = ((j + 1 : Nat) : Int) := by rw [w64 (by omega) (by omega)]; omega
    have hd : q.drop j = q.getD j z51 :: q.drop (j + 1) := by rw [List.drop_eq_getElem_cons hj]; simp [List.getD_eq_getElem?_getD, hj]
    have hxl : x.length ≤ 1000 := by omega
    obtain ⟨K', e, i1, i2⟩ := mul_l1 hp hq a i hi n (j + 1) K (x ++ [(⟨wrap64 (a.f0 * (q.getD j z51).f0), wrap64 (a.f1 + (q.getD j z51).f1), wrap64 (a.f2 + (q.getD j z51).f2), wrap64 (a.f3 + (q.getD j z51).f3)⟩ : S51)]) (by omega) (by rw [List.length_append, List.length_singleton]; omega) (by omega)
    have er : x ++ row a (q.drop j) = (x ++ [(⟨wrap64 (a.f0 * (q.getD j z51).f0), wrap64 (a.f1 + (q.getD j z51).f1), wrap64 (a.f2 + (q.getD j z51).f2), wrap64 (a.f3 + (q.getD j z51).f3)⟩ : S51)]) ++ row a (q.drop (j + 1)) := by rw [hd]; simp [row]
    refine ⟨K', by omega, ?_, ?_⟩
    · simp only [spec_poMul.l1]
      rw [if_pos (by omega), if_pos (by omega), if_pos (by omega), if_pos (by omega), rdT_at, hw, er]; exact i1
    · simp only [impl_multiplyTerms.l1]
      rw [if_pos (by omega), if_pos (by omega), if_pos (by omega), if_pos (by omega), rdT_at, hw, er]; exact i2
theorem prods_len (p q : List S51) : (prods p q).length = p.length * q.length := by
  induction p with
  | nil => simp [prods]
  | cons a p ih =>
    have : prods (a :: p) q = row a q ++ prods p q := by simp [prods, row]
    rw [this, List.length_append, ih, List.length_cons, Nat.succ_mul]; simp [row]; omega
theorem mul_l0 {p q : List S51} (hp : p.length ≤ 20) (hq : q.length ≤ 20) : ∀ (n i K : Nat) (x : List S51), i + n = p.length → x.length ≤ 20 * i → n * 25 < K →
    ∃ K', K ≤ K' + n * 25 + 1 ∧ spec_poMul.l0 K q x p (p.length : Int) (i : Int) = ((spec_poSum.f K' (x ++ prods (p.drop i) q)).bind fun b => some (b.1, b.2)) ∧
      impl_multiplyTerms.l0 K q x p (p.length : Int) (i : Int) = ((impl_collect.f (x ++ prods (p.drop i) q)).bind fun b => some b)
  | 0, i, K, x, h, _, hK => by
    obtain ⟨K, rfl⟩ : ∃ j, K = j + 1 := ⟨K - 1, by omega⟩
    refine ⟨K, by omega, ?_, ?_⟩
    · simp only [spec_poMul.l0]
      rw [if_neg (by omega), List.drop_of_length_le (by omega)]; simp [prods]
    · simp only [impl_multiplyTerms.l0]
      rw [if_neg (by omega), List.drop_of_length_le (by omega)]; simp [prods]
  | n + 1, i, K, x, h, hx, hK => by
    obtain ⟨K, rfl⟩ : ∃ j, K = j + 1 := ⟨K - 1, by omega⟩
    have hi : i < p.length := by omega
    have hd : p.drop i = p.getD i z51 :: p.drop (i + 1) := by rw [List.drop_eq_getElem_cons hi]; simp [List.getD_eq_getElem?_getD, hi]
    obtain ⟨K1, e1, a1, a2⟩ := mul_l1 hp hq (p.getD i z51) i hi q.length 0 K x (by omega) (by omega) (by omega)
    rw [List.drop_zero] at a1 a2
    have hxl : (x ++ row (p.getD i z51) q).length ≤ 20 * (i + 1) := by rw [List.length_append]; simp only [row, List.length_map]; omega
    obtain ⟨K2, e2, b1, b2⟩ := mul_l0 hp hq n (i + 1) K1 _ (by omega) hxl (by omega)
    have er : x ++ prods (p.drop i) q = (x ++ row (p.getD i z51) q) ++ prods (p.drop (i + 1)) q := by rw [hd]; simp [prods, row]
    refine ⟨K2, by omega, ?_, ?_⟩
    · simp only [spec_poMul.l0]
      rw [if_pos (by omega), if_pos (by omega), if_pos (by omega), rdT_at, er, show (0 : Int) = ((0 : Nat) : Int) from rfl, a1, b1]
    · simp only [impl_multiplyTerms.l0]
      rw [if_pos (by omega), if_pos (by omega), if_pos (by omega), rdT_at, er, show (0 : Int) = ((0 : Nat) : Int) from rfl, a2, b2]
def smT' (t : S51) : Prop := 0 ≤ t.f1 ∧ t.f1 ≤ 400 ∧ 0 ≤ t.f2 ∧ t.f2 ≤ 400 ∧ 0 ≤ t.f3 ∧ t.f3 ≤ 400
theorem prods_sm {p q : List S51} (hp : ∀ t ∈ p, smT' t) (hq : ∀ t ∈ q, smT' t) : ∀ t ∈ prods p q, smT t ∧ wrap64 t.f0 = t.f0 := by
  intro t ht
  unfold prods at ht
  obtain ⟨a, ha, hb⟩ := List.mem_flatMap.1 ht
  obtain ⟨b, hb, e⟩ := List.mem_map.1 hb
  obtain ⟨a1, a2, a3, a4, a5, a6⟩ := hp a ha
  obtain ⟨b1, b2, b3, b4, b5, b6⟩ := hq b hb
  rw [← e]
  refine ⟨⟨?_, ?_, ?_, ?_, ?_, ?_⟩, Go.Proofs.YthanmlojikidbaaCol.wrap_wrap _⟩ <;> (simp only []; rw [w64 (by omega) (by omega)]; omega)
theorem mul_run : ∃ KM, ∀ p q : List S51, p.length ≤ 20 → q.length ≤ 20 → (∀ t ∈ p, smT' t) → (∀ t ∈ q, smT' t) → ∀ K, KM ≤ K → spec_poMul.f K p q = some (resT (prods p q)) ∧ (impl_multiplyTerms.f K p q).bind (fun t => impl_polyResult.f K t) = some (resT (prods p q)) := by
  obtain ⟨K1, k1⟩ := poSum_run
  obtain ⟨K2, k2⟩ := result_run
  refine ⟨600 + K1 + K2, fun p q hp hq sp sq K hK => ?_⟩
  have hlen : (prods p q).length ≤ 400 := by
    rw [prods_len]
    calc p.length * q.length ≤ 20 * 20 := Nat.mul_le_mul hp hq
      _ = 400 := rfl
  have hs := prods_sm sp sq
  obtain ⟨K', e, a1, a2⟩ := mul_l0 hp hq p.length 0 K [] (by omega) (Nat.le_refl _) (by omega)
  rw [List.drop_zero, List.nil_append] at a1 a2
  constructor
  · unfold spec_poMul.f
    rw [show (0 : Int) = ((0 : Nat) : Int) from rfl, a1, k1 _ (by omega) (fun t ht => (hs t ht).1) K' (by omega), bs']
  · unfold impl_multiplyTerms.f
    rw [show (0 : Int) = ((0 : Nat) : Int) from rfl, a2, collect_run (by omega) (fun t ht => (hs t ht).2), bs', bs', k2 _ (by omega) K (by omega)]
theorem sm_good {l : List S51} (h : goodT l = true) : ∀ t ∈ l, smT' t := by
  intro t ht
  obtain ⟨i, hi, e⟩ := mem_getD ht
  have := okT_iff.1 ((goodT_ok h).2.1 i hi)
  rw [e] at this
  unfold smT'; omega
def mulR (l m : List S51) : List S51 × Bool := if goodT l = true ∧ goodT m = true then resT (prods l m) else ([], false)
theorem mul_ev {l m : List S51} (h2 : l.length ≤ 1000000) (g2 : m.length ≤ 1000000) : ∃ n, ∀ K, n ≤ K → spec_MultiplyPoly.f K l m = some (mulR l m) ∧ impl_MultiplyPoly.f K l m = some (mulR l m) := by
  obtain ⟨K2, e2⟩ := poGood_ev h2
  obtain ⟨K3, e3⟩ := isPoly_ev h2
  obtain ⟨K4, e4⟩ := poGood_ev g2
  obtain ⟨K5, e5⟩ := isPoly_ev g2
  obtain ⟨KM, km⟩ := mul_run
  dsimp only at e2 e3 e4 e5
  by_cases g : goodT l = true
  · by_cases g' : goodT m = true
    · have hm := km l m (goodT_ok g).1 (goodT_ok g').1 (sm_good g) (sm_good g')
      rw [show mulR l m = resT (prods l m) from if_pos ⟨g, g'⟩]
      refine ⟨K2 + K3 + K4 + K5 + KM + 1, fun K hK => ?_⟩
      obtain ⟨K, rfl⟩ : ∃ j, K = j + 1 := ⟨K - 1, by omega⟩
      obtain ⟨m1, _⟩ := hm (K + 1) (by omega)
      obtain ⟨_, m2⟩ := hm K (by omega)
      constructor
      · unfold spec_MultiplyPoly.f
        rw [e2 _ (by omega), g]; simp only [bs', if_true]
        rw [e4 _ (by omega), g']; simp only [bs', if_true]
        rw [m1, bs']
      · unfold impl_MultiplyPoly.f
        rw [e3 _ (by omega), g]; simp only [bs', if_true]
        rw [e5 _ (by omega), g']; simp only [bs', Bool.not_true]
        simp only [impl_MultiplyPoly.j0]
        rw [if_neg (by decide)]
        cases hc : impl_multiplyTerms.f K l m with
        | none => rw [hc] at m2; cases m2
        | some s =>
          rw [hc, bs'] at m2
          rw [bs', m2, bs']
    · rw [show mulR l m = ([], false) from if_neg (fun h => g' h.2)]
      refine ⟨K2 + K3 + K4 + K5 + 1, fun K hK => ?_⟩
      obtain ⟨K, rfl⟩ : ∃ j, K = j + 1 := ⟨K - 1, by omega⟩
      have gf : goodT m = false := Bool.eq_false_iff.2 g'
      constructor
      · unfold spec_MultiplyPoly.f
        rw [e2 _ (by omega), g]; simp only [bs', if_true]
        rw [e4 _ (by omega)]; simp only [bs']
        rw [if_neg g']
      · unfold impl_MultiplyPoly.f
        rw [e3 _ (by omega), g]; simp only [bs', if_true]
        rw [e5 _ (by omega), gf]; simp only [bs', Bool.not_false]
        simp only [impl_MultiplyPoly.j0, if_true]
  · rw [show mulR l m = ([], false) from if_neg (fun h => g h.1)]
    refine ⟨K2 + K3 + 1, fun K hK => ?_⟩
    obtain ⟨K, rfl⟩ : ∃ j, K = j + 1 := ⟨K - 1, by omega⟩
    constructor
    · unfold spec_MultiplyPoly.f
      rw [e2 _ (by omega)]; simp only [bs']
      rw [if_neg g]
    · unfold impl_MultiplyPoly.f
      rw [e3 _ (by omega)]; simp only [bs']
      rw [if_neg g]; simp only [impl_MultiplyPoly.j0, if_true]
theorem goodT_nil : goodT ([] : List S51) = true := by unfold goodT polRun; decide
theorem zero_prods {l : List S51} (h0 : ∀ t ∈ l, t.f0 = 0) : resT l = ([], true) := by
  have h1 : ∀ (l p : List S51), p = [] → (∀ t ∈ l, t.f0 = 0) → l.foldl (put impl_collect.ops) p = [] := by
    intro l
    induction l with
    | nil => intro p hp _; exact hp
    | cons t l ih =>
      intro p hp ha
      rw [List.foldl_cons]
      refine ih _ ?_ (fun u hu => ha u (List.mem_cons_of_mem _ hu))
      subst hp
      show [] ++ (if t.f0 ≠ 0 then [t] else []) = []
      rw [if_neg (fun h => h (ha t List.mem_cons_self))]; rfl
  have h2 : sums impl_collect.ops l = [] := h1 l [] rfl h0
  unfold resT
  rw [h2, if_pos goodT_nil]
def scaleR (l : List S51) (a1 : Int) : List S51 × Bool := if goodT l = true ∧ (-1000 ≤ a1 ∧ a1 ≤ 1000) then resT (prods l [(⟨a1, 0, 0, 0⟩ : S51)]) else ([], false)
theorem scale_ev {l : List S51} (h2 : l.length ≤ 1000000) (a1 : Int) : ∃ n, ∀ K, n ≤ K → spec_ScalePoly.f K l a1 = some (scaleR l a1) ∧ impl_ScalePoly.f K l a1 = some (scaleR l a1) := by
  obtain ⟨K2, e2⟩ := poGood_ev h2
  obtain ⟨K3, e3⟩ := isPoly_ev h2
  obtain ⟨KM, km⟩ := mul_run
  dsimp only at e2 e3
  by_cases g : goodT l = true
  · by_cases b : -1000 ≤ a1 ∧ a1 ≤ 1000
    · have hm := km l [(⟨a1, 0, 0, 0⟩ : S51)] (goodT_ok g).1 (by simp) (sm_good g) (fun t ht => by rw [List.mem_singleton.1 ht]; unfold smT'; simp only []; omega)
      rw [show scaleR l a1 = resT (prods l [(⟨a1, 0, 0, 0⟩ : S51)]) from if_pos ⟨g, b⟩]
      refine ⟨K2 + K3 + KM + 1, fun K hK => ?_⟩
      obtain ⟨K, rfl⟩ : ∃ j, K = j + 1 := ⟨K - 1, by omega⟩
      obtain ⟨m1, m2⟩ := hm K (by omega)
      constructor
      · unfold spec_ScalePoly.f
        rw [e2 _ (by omega), g]; simp only [bs', if_true]
        rw [l1In_eq, bs', decide_eq_true b]
        simp only [spec_ScalePoly.j0]
        rw [if_neg (by decide)]
        by_cases z : a1 = 0
        · subst z
          rw [if_pos rfl, zero_prods (fun t ht => by
            unfold prods at ht
            obtain ⟨a, _, hb⟩ := List.mem_flatMap.1 ht
            obtain ⟨b, hb, e⟩ := List.mem_map.1 hb
            rw [List.mem_singleton.1 hb] at e
            rw [← e]
            show wrap64 (a.f0 * 0) = 0
            rw [Int.mul_zero]; exact Go.Proofs.YthanmlojikidbaaCol.wrap_zero)]
        · rw [if_neg z, m1, bs']
      · unfold impl_ScalePoly.f
        rw [e3 _ (by omega), g]; simp only [bs', if_true]
        rw [inside_eq, bs', decide_eq_true b]
        simp only [impl_ScalePoly.j0]
        rw [if_neg (by decide)]
        cases hc : impl_multiplyTerms.f K l [(⟨a1, 0, 0, 0⟩ : S51)] with
        | none => rw [hc] at m2; cases m2
        | some s =>
          rw [hc, bs'] at m2
          rw [bs', m2, bs']
    · rw [show scaleR l a1 = ([], false) from if_neg (fun h => b h.2)]
      refine ⟨K2 + K3 + 1, fun K hK => ?_⟩
      obtain ⟨K, rfl⟩ : ∃ j, K = j + 1 := ⟨K - 1, by omega⟩
      constructor
      · unfold spec_ScalePoly.f
        rw [e2 _ (by omega), g]; simp only [bs', if_true]
        rw [l1In_eq, bs', decide_eq_false b]
        simp only [spec_ScalePoly.j0]
        rw [if_pos (by decide)]
      · unfold impl_ScalePoly.f
        rw [e3 _ (by omega), g]; simp only [bs', if_true]
        rw [inside_eq, bs', decide_eq_false b]
        simp only [impl_ScalePoly.j0]
        rw [if_pos (by decide)]
  · rw [show scaleR l a1 = ([], false) from if_neg (fun h => g h.1)]
    refine ⟨K2 + K3 + 1, fun K hK => ?_⟩
    obtain ⟨K, rfl⟩ : ∃ j, K = j + 1 := ⟨K - 1, by omega⟩
    constructor
    · unfold spec_ScalePoly.f
      rw [e2 _ (by omega)]; simp only [bs']
      rw [if_neg g]; simp only [spec_ScalePoly.j0, if_true]
    · unfold impl_ScalePoly.f
      rw [e3 _ (by omega)]; simp only [bs']
      rw [if_neg g]; simp only [impl_ScalePoly.j0, if_true]
def pwD (t : S51) (a : Int) : Int := if a = 0 then t.f1 else (if a = 1 then t.f2 else t.f3)
def smD (t : S51) : Prop := -1000 ≤ t.f0 ∧ t.f0 ≤ 1000 ∧ 0 ≤ t.f1 ∧ t.f1 ≤ 4 ∧ 0 ≤ t.f2 ∧ t.f2 ≤ 4 ∧ 0 ≤ t.f3 ∧ t.f3 ≤ 4
def dE (a : Int) (l : List S51) : List S51 := (l.filter (fun t => decide (0 < pwD t a))).map (fun t => impl_derive.tm t a)
def dD (a : Int) (l : List S51) : List S51 := l.map (fun t => impl_derive.tm t a)
theorem smD_good {l : List S51} (h : goodT l = true) : ∀ t ∈ l, smD t := by
  intro t ht
  obtain ⟨i, hi, e⟩ := mem_getD ht
  have := okT_iff.1 ((goodT_ok h).2.1 i hi)
  rw [e] at this
  unfold smD; omega
theorem three {a : Int} (ha : 0 ≤ a ∧ a ≤ 2) : a = 0 ∨ a = 1 ∨ a = 2 := by omega
theorem pow_eq (t : S51) (a : Int) : spec_poPower.f t.f0 t.f1 t.f2 t.f3 a = some (pwD t a) := by
  unfold spec_poPower.f pwD
  split
  · rfl
  · split <;> rfl
theorem mx_pos {e : Int} (h0 : 0 < e) (h1 : e ≤ 4) : mx (wrap64 (e - 1)) 0 = wrap64 (e - 1) := by
  unfold mx; rw [w64 (by omega) (by omega), if_neg (by omega)]
theorem with_eq {t : S51} {a : Int} (ha : 0 ≤ a ∧ a ≤ 2) (ht : smD t) (hp : 0 < pwD t a) : ∃ b, spec_poWith.f t.f0 t.f1 t.f2 t.f3 a (wrap64 (pwD t a - 1)) = some b ∧ (⟨wrap64 (b.1 * pwD t a), b.2.1, b.2.2.1, b.2.2.2⟩ : S51) = impl_derive.tm t a := by
  obtain ⟨_, _, a1, a2, a3, a4, a5, a6⟩ := ht
  rcases three ha with rfl | rfl | rfl <;> refine ⟨_, rfl, ?_⟩ <;> simp only [pwD, impl_derive.tm, if_true, Int.reduceEq, if_false] at hp ⊢ <;> rw [mx_pos (by omega) (by omega)]
theorem dE_pos {t : S51} {a : Int} {l : List S51} (hp : 0 < pwD t a) : dE a (t :: l) = impl_derive.tm t a :: dE a l := by simp [dE, hp]
theorem dE_neg {t : S51} {a : Int} {l : List S51} (hp : ¬ 0 < pwD t a) : dE a (t :: l) = dE a l := by simp [dE, hp]
theorem sp_l0 {l : List S51} {a : Int} (hl : l.length ≤ 20) (ha : 0 ≤ a ∧ a ≤ 2) (hs : ∀ t ∈ l, smD t) : ∀ (n i K : Nat) (x : List S51), i + n = l.length → x.length ≤ i → n < K → spec_poDerive.l0 K a x l (l.length : Int) (i : Int) = some (x ++ dE a (l.drop i))
  | 0, i, K, x, h, hx, hK => by
    obtain ⟨K, rfl⟩ : ∃ j, K = j + 1 := ⟨K - 1, by omega⟩
    simp only [spec_poDerive.l0]
    rw [if_neg (by omega), List.drop_of_length_le (by omega)]; simp [dE]
  | n + 1, i, K, x, h, hx, hK => by
    obtain ⟨K, rfl⟩ : ∃ j, K = j + 1 := ⟨K - 1, by omega⟩
    have hlt : i < l.length := by omega
    have hd : l.drop i = l.getD i z51 :: l.drop (i + 1) := by rw [List.drop_eq_getElem_cons hlt]; simp [List.getD_eq_getElem?_getD, hlt]
    have hm := getD_mem hlt
    have hw : wrap64 ((i : Int) + 1) = ((i + 1 : Nat) : Int) := by rw [w64 (by omega) (by omega)]; omega
    simp only [spec_poDerive.l0]
    rw [if_pos (by omega), if_pos (by omega), if_pos (by omega), rdT_at, pow_eq, bs', hw, hd]
    by_cases hp : 0 < pwD (l.getD i z51) a
    · obtain ⟨b, hb, eb⟩ := with_eq ha (hs _ hm) hp
      rw [if_pos hp, hb, bs', if_pos (by omega), eb, sp_l0 hl ha hs n (i + 1) K _ (by omega) (by rw [List.length_append]; simp only [List.length_cons, List.length_nil]; omega) (by omega), dE_pos hp, List.append_assoc]; rfl
    · rw [if_neg hp, sp_l0 hl ha hs n (i + 1) K _ (by omega) (by omega) (by omega), dE_neg hp]
theorem im_l0 {l : List S51} {a : Int} (hl : l.length ≤ 20) : ∀ (n i K : Nat) (x : List S51), i + n = l.length → x.length ≤ i → n < K → impl_derive.l0 K l a x (i : Int) = impl_collect.f (x ++ dD a (l.drop i))
  | 0, i, K, x, h, hx, hK => by
    obtain ⟨K, rfl⟩ : ∃ j, K = j + 1 := ⟨K - 1, by omega⟩
    simp only [impl_derive.l0]
    rw [if_neg (by omega), List.drop_of_length_le (by omega)]; simp [dD]
  | n + 1, i, K, x, h, hx, hK => by
    obtain ⟨K, rfl⟩ : ∃ j, K = j + 1 := ⟨K - 1, by omega⟩
    have hlt : i < l.length := by omega
    have hd : l.drop i = l.getD i z51 :: l.drop (i + 1) := by rw [List.drop_eq_getElem_cons hlt]; simp [List.getD_eq_getElem?_getD, hlt]
    have hw : wrap64 ((i : Int) + 1) = ((i + 1 : Nat) : Int) := by rw [w64 (by omega) (by omega)]; omega
    simp only [impl_derive.l0]
    rw [if_pos (by omega), if_pos (by omega), if_pos (by omega), rdT_at, hw, hd, im_l0 hl n (i + 1) K _ (by omega) (by rw [List.length_append]; simp only [List.length_cons, List.length_nil]; omega) (by omega)]
    simp [dD]
theorem tm_c (t : S51) (a : Int) : (impl_derive.tm t a).f0 = wrap64 (t.f0 * pwD t a) := by
  unfold impl_derive.tm pwD
  split
  · rfl
  · split <;> rfl
theorem tm_w (t : S51) (a : Int) : wrap64 (impl_derive.tm t a).f0 = (impl_derive.tm t a).f0 := by rw [tm_c]; exact Go.Proofs.YthanmlojikidbaaCol.wrap_wrap _
theorem dE_mem {a : Int} {l : List S51} {u : S51} (h : u ∈ dE a l) : ∃ t ∈ l, 0 < pwD t a ∧ impl_derive.tm t a = u := by
  unfold dE at h
  obtain ⟨t, ht, e⟩ := List.mem_map.1 h
  obtain ⟨h1, h2⟩ := List.mem_filter.1 ht
  exact ⟨t, h1, of_decide_eq_true h2, e⟩
theorem dD_w {a : Int} {l : List S51} : ∀ u ∈ dD a l, wrap64 u.f0 = u.f0 := by
  intro u h
  unfold dD at h
  obtain ⟨t, _, e⟩ := List.mem_map.1 h
  rw [← e]; exact tm_w t a
theorem dE_w {a : Int} {l : List S51} : ∀ u ∈ dE a l, wrap64 u.f0 = u.f0 := by
  intro u h
  obtain ⟨t, _, _, e⟩ := dE_mem h
  rw [← e]; exact tm_w t a
theorem dE_sm {a : Int} {l : List S51} (ha : 0 ≤ a ∧ a ≤ 2) (hs : ∀ t ∈ l, smD t) : ∀ u ∈ dE a l, smT u := by
  intro u h
  obtain ⟨t, ht, hp, e⟩ := dE_mem h
  obtain ⟨_, _, a1, a2, a3, a4, a5, a6⟩ := hs t ht
  rw [← e]
  rcases three ha with rfl | rfl | rfl <;> simp only [pwD, impl_derive.tm, if_true, Int.reduceEq, if_false, smT] at hp ⊢ <;> rw [mx_pos (by omega) (by omega), w64 (by omega) (by omega)] <;> omega
theorem pw_nn {t : S51} {a : Int} (ht : smD t) : 0 ≤ pwD t a := by
  obtain ⟨_, _, a1, a2, a3, a4, a5, a6⟩ := ht
  unfold pwD; split
  · exact a1
  · split
    · exact a3
    · exact a5
theorem d_cs {a : Int} (s : S51) : ∀ l : List S51, (∀ t ∈ l, smD t) → Go.Proofs.YthanmlojikidbaaCol.cs impl_collect.ops (dE a l) s = Go.Proofs.YthanmlojikidbaaCol.cs impl_collect.ops (dD a l) s
  | [], _ => rfl
  | t :: l, hs => by
    have ih := d_cs (a := a) s l (fun u hu => hs u (List.mem_cons_of_mem _ hu))
    have hn := pw_nn (a := a) (hs t List.mem_cons_self)
    have eD : dD a (t :: l) = impl_derive.tm t a :: dD a l := rfl
    rw [eD, Go.Proofs.YthanmlojikidbaaCol.cs_cons]
    by_cases hp : 0 < pwD t a
    · have eE : dE a (t :: l) = impl_derive.tm t a :: dE a l := by simp [dE, hp]
      rw [eE, Go.Proofs.YthanmlojikidbaaCol.cs_cons, ih]
    · have eE : dE a (t :: l) = dE a l := by simp [dE, hp]
      have z : (impl_derive.tm t a).f0 = 0 := by rw [tm_c, show pwD t a = 0 by omega, Int.mul_zero]; exact Go.Proofs.YthanmlojikidbaaCol.wrap_zero
      have z' : impl_collect.ops.c (impl_derive.tm t a) = 0 := z
      rw [eE, ih, z']; split <;> omega
theorem d_res {a : Int} {l : List S51} (hs : ∀ t ∈ l, smD t) : sums impl_collect.ops (dE a l) = sums impl_collect.ops (dD a l) := by
  obtain ⟨n1, c1⟩ := Go.Proofs.YthanmlojikidbaaCol.sums_nf (o := impl_collect.ops) (l := dE a l) dE_w
  obtain ⟨n2, c2⟩ := Go.Proofs.YthanmlojikidbaaCol.sums_nf (o := impl_collect.ops) (l := dD a l) dD_w
  exact Go.Proofs.YthanmlojikidbaaCol.nf_unique n1 n2 (fun s => by rw [c1, c2, d_cs s l hs])
theorem pU (a : Int) : spec_poUnknown.f a = some (decide (0 ≤ a ∧ a ≤ 2)) := by unfold spec_poUnknown.f; rw [l1In_eq, bs']
theorem iU (a : Int) : impl_isUnknown.f a = some (decide (0 ≤ a ∧ a ≤ 2)) := by unfold impl_isUnknown.f; rw [inside_eq, bs']
def derR (l : List S51) (a1 : Int) : List S51 × Bool := if goodT l = true ∧ (0 ≤ a1 ∧ a1 ≤ 2) then resT (dD a1 l) else ([], false)
theorem der_ev {l : List S51} (h2 : l.length ≤ 1000000) (a1 : Int) : ∃ n, ∀ K, n ≤ K → spec_DerivePoly.f K l a1 = some (derR l a1) ∧ impl_DerivePoly.f K l a1 = some (derR l a1) := by
  obtain ⟨K2, e2⟩ := poGood_ev h2
  obtain ⟨K3, e3⟩ := isPoly_ev h2
  obtain ⟨K6, k6⟩ := poSum_run
  obtain ⟨K7, k7⟩ := result_run
  dsimp only at e2 e3
  by_cases g : goodT l = true
  · by_cases b : 0 ≤ a1 ∧ a1 ≤ 2
    · have hl := (goodT_ok g).1
      have hs := smD_good g
      have lE : (dE a1 l).length ≤ 500 := by
        unfold dE; rw [List.length_map]
        exact Nat.le_trans (List.length_filter_le _ _) (by omega)
      have lD : (dD a1 l).length ≤ 500 := by unfold dD; rw [List.length_map]; omega
      have hr : resT (dE a1 l) = resT (dD a1 l) := by unfold resT; rw [d_res hs]
      rw [show derR l a1 = resT (dD a1 l) from if_pos ⟨g, b⟩]
      refine ⟨K2 + K3 + K6 + K7 + 30, fun K hK => ?_⟩
      obtain ⟨K, rfl⟩ : ∃ j, K = j + 1 := ⟨K - 1, by omega⟩
      constructor
      · unfold spec_DerivePoly.f
        rw [e2 _ (by omega), g]; simp only [bs', if_true]
        rw [pU, bs', decide_eq_true b]
        simp only [spec_DerivePoly.j0]
        rw [if_neg (by decide)]
        unfold spec_poDerive.f
        have h0 := sp_l0 hl b hs l.length 0 K [] (by omega) (Nat.le_refl _) (by omega)
        rw [List.drop_zero, List.nil_append] at h0
        rw [show (0 : Int) = ((0 : Nat) : Int) from rfl, h0]; simp only [bs']
        rw [k6 _ lE (dE_sm b hs) _ (by omega), hr]; simp only [bs']
      · unfold impl_DerivePoly.f
        rw [e3 _ (by omega), g]; simp only [bs', if_true]
        rw [iU, bs', decide_eq_true b]
        simp only [impl_DerivePoly.j0]
        rw [if_neg (by decide)]
        unfold impl_derive.f
        have h0 := im_l0 (a := a1) hl l.length 0 K [] (by omega) (Nat.le_refl _) (by omega)
        rw [List.drop_zero, List.nil_append] at h0
        rw [if_pos b.1, if_pos b.2, show (0 : Int) = ((0 : Nat) : Int) from rfl, h0, collect_run (by omega) dD_w]; simp only [bs']
        rw [k7 _ lD _ (by omega)]; simp only [bs']
    · rw [show derR l a1 = ([], false) from if_neg (fun h => b h.2)]
      refine ⟨K2 + K3 + 1, fun K hK => ?_⟩
      obtain ⟨K, rfl⟩ : ∃ j, K = j + 1 := ⟨K - 1, by omega⟩
      constructor
      · unfold spec_DerivePoly.f
        rw [e2 _ (by omega), g]; simp only [bs', if_true]
        rw [pU, bs', decide_eq_false b]
        simp only [spec_DerivePoly.j0]
        rw [if_pos (by decide)]
      · unfold impl_DerivePoly.f
        rw [e3 _ (by omega), g]; simp only [bs', if_true]
        rw [iU, bs', decide_eq_false b]
        simp only [impl_DerivePoly.j0]
        rw [if_pos (by decide)]
  · rw [show derR l a1 = ([], false) from if_neg (fun h => g h.1)]
    refine ⟨K2 + K3 + 1, fun K hK => ?_⟩
    obtain ⟨K, rfl⟩ : ∃ j, K = j + 1 := ⟨K - 1, by omega⟩
    constructor
    · unfold spec_DerivePoly.f
      rw [e2 _ (by omega)]; simp only [bs']
      rw [if_neg g]; simp only [spec_DerivePoly.j0, if_true]
    · unfold impl_DerivePoly.f
      rw [e3 _ (by omega)]; simp only [bs']
      rw [if_neg g]; simp only [impl_DerivePoly.j0, if_true]
def okN (t : S51) : Bool := decide (-1000 ≤ t.f0 ∧ t.f0 ≤ 1000 ∧ 0 ≤ t.f1 ∧ t.f1 ≤ 4 ∧ 0 ≤ t.f2 ∧ t.f2 ≤ 4 ∧ 0 ≤ t.f3 ∧ t.f3 ≤ 4 ∧ t.f1 + t.f2 + t.f3 ≤ 4)
def runN (l : List S51) (r : List S51 × Bool) : Nat → Nat → List S51 × Bool
  | 0, _ => r
  | n + 1, i => if okN (l.getD i z51) = true then runN l r n (i + 1) else ([], false)
theorem runN_len (l : List S51) (r : List S51 × Bool) (hr : r.1.length ≤ 20) : ∀ n i, (runN l r n i).1.length ≤ 20
  | 0, _ => hr
  | n + 1, i => by unfold runN; split; exact runN_len l r hr n (i + 1); simp
theorem normal_l0 {l : List S51} (hl : l.length ≤ 40) (KS : Nat) (r : List S51 × Bool) (hfin : (∀ i, i < l.length → okN (l.getD i z51) = true) → ∀ K, KS ≤ K → spec_poSum.f K l = some r ∧ (impl_collect.f l).bind (fun t => impl_polyResult.f K t) = some r) :
    ∀ (n i K : Nat), i + n = l.length → (∀ j, j < i → okN (l.getD j z51) = true) → n + 1 + KS ≤ K → spec_NormalPoly.l0 K l l (l.length : Int) (i : Int) = some (runN l r n i) ∧ impl_NormalPoly.l0 K l l (l.length : Int) (i : Int) = some (runN l r n i)
  | 0, i, K, h, ha, hK => by
    obtain ⟨K, rfl⟩ : ∃ j, K = j + 1 := ⟨K - 1, by omega⟩
    obtain ⟨f1, f2⟩ := hfin (fun j hj => ha j (by omega)) K (by omega)
    constructor
    · simp only [spec_NormalPoly.l0]
      rw [if_neg (by omega), f1, bs']; rfl
    · simp only [impl_NormalPoly.l0]
      rw [if_neg (by omega)]
      cases hc : impl_collect.f l with
      | none => rw [hc] at f2; cases f2
      | some s =>
        rw [hc, bs'] at f2
        rw [bs', f2, bs']; rfl
  | n + 1, i, K, h, ha, hK => by
    obtain ⟨K, rfl⟩ : ∃ j, K = j + 1 := ⟨K - 1, by omega⟩
    have hw : wrap64 ((i : Int) + 1) = ((i + 1 : Nat) : Int) := by rw [w64 (by omega) (by omega)]; omega
    have ih := fun (hk : okN (l.getD i z51) = true) => normal_l0 hl KS r hfin n (i + 1) K (by omega) (fun j hj => if e : j = i then by rw [e]; exact hk else ha j (by omega)) (by omega)
    by_cases ho : okN (l.getD i z51) = true
    · have ho' := of_decide_eq_true ho
      obtain ⟨i1, i2⟩ := ih ho
      have er : runN l r (n + 1) i = runN l r n (i + 1) := by conv => lhs; unfold runN; rw [if_pos ho]
      rw [er]
      constructor
      · simp only [spec_NormalPoly.l0]
        rw [if_pos (by omega), if_pos (by omega), if_pos (by omega), rdT_at, poTerm_eq, bs', if_pos (decide_eq_true ho'), hw]; exact i1
      · simp only [impl_NormalPoly.l0]
        rw [if_pos (by omega), if_pos (by omega), if_pos (by omega), rdT_at, inside_eq, bs', if_pos (decide_eq_true ⟨ho'.1, ho'.2.1⟩), hasDegree_eq, bs', if_pos (decide_eq_true ho'.2.2), hw]; exact i2
    · have er : runN l r (n + 1) i = ([], false) := by unfold runN; rw [if_neg ho]
      have hn : ¬ _ := fun h => ho (decide_eq_true h)
      rw [er]
      constructor
      · simp only [spec_NormalPoly.l0]
        rw [if_pos (by omega), if_pos (by omega), if_pos (by omega), rdT_at, poTerm_eq, bs', if_neg (fun h => hn (of_decide_eq_true h))]
      · simp only [impl_NormalPoly.l0]
        rw [if_pos (by omega), if_pos (by omega), if_pos (by omega), rdT_at, inside_eq, bs']
        by_cases h1 : -1000 ≤ (l.getD i z51).f0 ∧ (l.getD i z51).f0 ≤ 1000
        · rw [if_pos (decide_eq_true h1), hasDegree_eq, bs', if_neg (fun h => hn ⟨h1.1, h1.2, of_decide_eq_true h⟩)]
        · rw [if_neg (fun h => h1 (of_decide_eq_true h))]
def normR (l : List S51) : List S51 × Bool := if l.length ≤ 40 then runN l (resT l) l.length 0 else ([], false)
theorem norm_ev (l : List S51) : ∃ n, ∀ K, n ≤ K → spec_NormalPoly.f K l = some (normR l) ∧ impl_NormalPoly.f K l = some (normR l) := by
  by_cases hl : l.length ≤ 40
  · obtain ⟨K1, k1⟩ := poSum_run
    obtain ⟨K2, k2⟩ := result_run
    rw [show normR l = runN l (resT l) l.length 0 from if_pos hl]
    refine ⟨l.length + 2 + (K1 + K2), fun K hK => ?_⟩
    have h := normal_l0 hl (K1 + K2) (resT l) (fun ha K hK => by
      have hok : ∀ t ∈ l, okN t = true := fun t ht => by obtain ⟨i, hi, e⟩ := mem_getD ht; rw [← e]; exact ha i hi
      refine ⟨k1 l (by omega) (fun t ht => ?_) K (by omega), ?_⟩
      · have := of_decide_eq_true (hok t ht)
        unfold smT; omega
      · rw [collect_run (by omega) (fun t ht => ?_), bs']
        · exact k2 l (by omega) K (by omega)
        · have := of_decide_eq_true (hok t ht)
          exact w64 (by omega) (by omega)) l.length 0 K (Nat.zero_add _) (fun j hj => absurd hj (Nat.not_lt_zero j)) (by omega)
    unfold spec_NormalPoly.f impl_NormalPoly.f
    rw [if_neg (by omega), if_neg (by omega)]
    exact h
  · rw [show normR l = ([], false) from if_neg hl]
    refine ⟨0, fun K hK => ?_⟩
    unfold spec_NormalPoly.f impl_NormalPoly.f
    rw [if_pos (by omega), if_pos (by omega)]
    exact ⟨rfl, rfl⟩
end Go.Proofs.Ythanmlojikidbaa.Pure
