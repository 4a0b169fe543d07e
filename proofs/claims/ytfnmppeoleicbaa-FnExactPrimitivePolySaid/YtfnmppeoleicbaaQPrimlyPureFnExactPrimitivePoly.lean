import Derived.Test.YtfnmppeoleicbaaQPrimlyPDx1
import Derived.Test.YtfnmppeoleicbaaQPrimlyMr
/- FnExactPrimitivePoly, told over numbers and lists alone: the law's printed function answers true. -/
namespace Go.Proofs.Ytfnmppeoleicbaa.Pure
open Go.RowKit Go.Proofs.Ytfnmppeoleicbaa.PD Go.Proofs.YtfnmppeoleicbaaW.PrintWords Go.Proofs.YtfnmppeoleicbaaW.PrintLast Go.Proofs.YtfnmppeoleicbaaW.PrintMore
theorem gcd_step (a b : Int) : Int.gcd a b = Int.gcd b (Int.tmod a b) := by
  unfold Int.gcd
  rw [Int.natAbs_tmod, Nat.gcd_comm, Nat.gcd_rec, Nat.gcd_comm]
theorem tmod_abs {a b : Int} (h : b ≠ 0) : (Int.tmod a b).natAbs < b.natAbs := by
  rw [Int.natAbs_tmod]; exact Nat.mod_lt _ (by omega)
theorem txCommon_eq : ∀ (n : Nat) (a b : Int) (K : Nat), b.natAbs ≤ n → 0 ≤ a → 0 ≤ b → n < K → spec_txCommon.l0 K a b = some (Int.gcd a b : Int) := by
  intro n
  induction n with
  | zero =>
    intro a b K hb h0 h1 hK
    obtain ⟨K, rfl⟩ : ∃ j, K = j + 1 := ⟨K - 1, by omega⟩
    simp only [spec_txCommon.l0]
    have : b = 0 := by omega
    subst this
    rw [if_neg (by omega), Int.gcd_zero_right]
    congr 1; omega
  | succ n ih =>
    intro a b K hb h0 h1 hK
    obtain ⟨K, rfl⟩ : ∃ j, K = j + 1 := ⟨K - 1, by omega⟩
    simp only [spec_txCommon.l0]
    by_cases h : b = 0
    · subst h
      rw [if_neg (by omega), Int.gcd_zero_right]
      congr 1; omega
    · rw [if_pos (by omega), if_neg h, gcd_step]
      have := tmod_abs (a := a) h
      exact ih b (Int.tmod a b) K (by omega) h1 (Int.tmod_nonneg _ h0) (by omega)
theorem gcd_eq : ∀ (n : Nat) (a b : Int) (K : Nat), b.natAbs ≤ n → a.natAbs ≤ 1000000 → b.natAbs ≤ 1000000 → n < K → impl_gcd.l0 K a b = some (Int.gcd a b : Int) := by
  have last : ∀ a : Int, a.natAbs ≤ 1000000 → mx a (wrap64 (-a)) = (Int.gcd a 0 : Int) := by
    intro a h
    rw [w64 (by omega) (by omega), Int.gcd_zero_right]
    unfold mx
    split <;> omega
  intro n
  induction n with
  | zero =>
    intro a b K hb h0 h1 hK
    obtain ⟨K, rfl⟩ : ∃ j, K = j + 1 := ⟨K - 1, by omega⟩
    simp only [impl_gcd.l0]
    have : b = 0 := by omega
    subst this
    rw [if_pos rfl, last a h0]
  | succ n ih =>
    intro a b K hb h0 h1 hK
    obtain ⟨K, rfl⟩ : ∃ j, K = j + 1 := ⟨K - 1, by omega⟩
    simp only [impl_gcd.l0]
    by_cases h : b = 0
    · subst h
      rw [if_pos rfl, last a h0]
    · rw [if_neg h, gcd_step]
      have := tmod_abs (a := a) h
      exact ih b (Int.tmod a b) K (by omega) h1 (by omega) (by omega)
theorem abs_eq {c : Int} (h : -1000 ≤ c ∧ c ≤ 1000) : spec_l1Abs.f c = some (c.natAbs : Int) := by
  unfold spec_l1Abs.f
  rw [w64 (by omega) (by omega), most_eq]; simp only [bs']
  unfold mx
  congr 1
  split <;> omega
/-- The common divisor of all. -/
theorem common_l0 {l : List S55} (hl : l.length ≤ 20) (hok : ∀ j, j < l.length → okT (l.getD j z55) = true) : ∀ (d i : Nat) (g : Int), i + d = l.length → 0 ≤ g → g ≤ 1000 → (i = 0 ∨ 0 < g) →
    ∃ g', g' ≤ 1000 ∧ (l = [] ∨ 0 < g') ∧ ∀ K', 2000 ≤ K' → spec_txPrimitive.l0 (K' + 1 + d) l g l (l.length : Int) (i : Int) = spec_txPrimitive.l1 K' l g' [] l (l.length : Int) 0 ∧
      impl_primitivePoly.l0 (K' + 1 + d) l g l (l.length : Int) (i : Int) = (if (l.length : Int) > 0 then (if 0 ≤ (wrap64 ((l.length : Int) - 1)) then (if (wrap64 ((l.length : Int) - 1)) < (l.length : Int) then (impl_primitivePoly.j1 K' l g' (decide (((rd_T55 l (wrap64 ((l.length : Int) - 1))).f0) < 0))) else (none)) else (none)) else (impl_primitivePoly.j1 K' l g' false)) := by
  intro d
  induction d with
  | zero =>
    intro i g hi h0 h1 hp
    refine ⟨g, h1, ?_, fun K' hK' => ⟨?_, ?_⟩⟩
    · rcases hp with hp | hp
      · exact .inl (List.length_eq_zero_iff.1 (by omega))
      · exact .inr hp
    · simp only [spec_txPrimitive.l0]; rw [if_neg (by omega)]
    · simp only [impl_primitivePoly.l0]; rw [if_neg (by omega)]
  | succ d ih =>
    intro i g hi h0 h1 hp
    have hw : wrap64 ((i : Int) + 1) = ((i + 1 : Nat) : Int) := by rw [w64 (by omega) (by omega)]; omega
    have ho := okT_iff.1 (hok i (by omega))
    have hb : Nat.gcd g.natAbs (l.getD i z55).f0.natAbs ≤ (l.getD i z55).f0.natAbs := Nat.gcd_le_right _ (by omega)
    have hpos : 0 < Nat.gcd g.natAbs (l.getD i z55).f0.natAbs := Nat.gcd_pos_of_pos_right _ (by omega)
    have hg : Int.gcd g (l.getD i z55).f0 = Nat.gcd g.natAbs (l.getD i z55).f0.natAbs := rfl
    obtain ⟨g', a1, a2, a34⟩ := ih (i + 1) (Int.gcd g (l.getD i z55).f0 : Int) (by omega) (by omega) (by omega) (.inr (by omega))
    refine ⟨g', a1, a2, fun K' hK' => ?_⟩
    obtain ⟨a3, a4⟩ := a34 K' hK'
    constructor
    · rw [← a3, show K' + 1 + (d + 1) = (K' + 1 + d) + 1 by omega]
      simp only [spec_txPrimitive.l0]
      rw [if_pos (by omega), if_pos (by omega), if_pos (by omega), rdT_at, abs_eq ⟨ho.1, ho.2.1⟩]; simp only [bs']
      unfold spec_txCommon.f
      rw [txCommon_eq 1000 _ _ _ (by omega) (by omega) h0 (by omega)]; simp only [bs']
      have e : Int.gcd ((l.getD i z55).f0.natAbs : Int) g = Int.gcd g (l.getD i z55).f0 := by
        rw [hg, Nat.gcd_comm]; rfl
      rw [hw, e]
    · rw [← a4, show K' + 1 + (d + 1) = (K' + 1 + d) + 1 by omega]
      simp only [impl_primitivePoly.l0]
      rw [if_pos (by omega), if_pos (by omega), if_pos (by omega), rdT_at]
      unfold impl_gcd.f
      rw [gcd_eq 1000 _ _ _ (by omega) (by omega) (by omega) (by omega)]; simp only [bs']
      rw [hw]
def quT (neg : Bool) (g : Int) (t : S55) : S55 := ⟨if neg = true then -(Int.tdiv t.f0 g) else Int.tdiv t.f0 g, t.f1, t.f2, t.f3⟩
theorem tdiv_abs (a b : Int) : (Int.tdiv a b).natAbs ≤ a.natAbs := by
  rw [Int.natAbs_tdiv]; exact Nat.div_le_self _ _
theorem spec_l1 {l : List S55} (hl : l.length ≤ 20) (hok : ∀ j, j < l.length → okT (l.getD j z55) = true) {g : Int} (hg : 0 < g) : ∀ (d i K : Nat), i + d = l.length → d < K →
    spec_txPrimitive.l1 K l g ((l.take i).map (quT (decide (((rd_T55 l (wrap64 ((l.length : Int) - 1))).f0) < 0)) g)) l (l.length : Int) (i : Int) = some (l.map (quT (decide (((rd_T55 l (wrap64 ((l.length : Int) - 1))).f0) < 0)) g)) := by
  intro d
  induction d with
  | zero =>
    intro i K hi hK
    obtain ⟨K, rfl⟩ : ∃ j, K = j + 1 := ⟨K - 1, by omega⟩
    simp only [spec_txPrimitive.l1]
    rw [if_neg (by omega), List.take_of_length_le (by omega)]
  | succ d ih =>
    intro i K hi hK
    obtain ⟨K, rfl⟩ : ∃ j, K = j + 1 := ⟨K - 1, by omega⟩
    have hw : wrap64 ((i : Int) + 1) = ((i + 1 : Nat) : Int) := by rw [w64 (by omega) (by omega)]; omega
    have hn : wrap64 ((l.length : Int) - 1) = (l.length : Int) - 1 := w64 (by omega) (by omega)
    have hil : i < l.length := by omega
    have ho := okT_iff.1 (hok i (by omega))
    have hq := tdiv_abs (l.getD i z55).f0 g
    have ih' := ih (i + 1) K (by omega) (by omega)
    rw [List.take_succ_eq_append_getElem hil, List.map_append, List.map_singleton] at ih'
    have he : l[i] = l.getD i z55 := by rw [List.getD_eq_getElem?_getD, List.getElem?_eq_getElem hil]; rfl
    rw [he] at ih'
    simp only [spec_txPrimitive.l1]
    rw [if_pos (by omega), if_pos (by omega), if_pos (by omega), if_neg (by omega), if_pos (by omega), if_pos (by omega)]
    by_cases h : (rd_T55 l (wrap64 ((l.length : Int) - 1))).f0 < 0
    · rw [if_pos h, if_pos (by rw [List.length_map, List.length_take]; omega), rdT_at, hw, w64 (x := Int.tdiv (l.getD i z55).f0 g) (by omega) (by omega), w64 (x := -(Int.tdiv (l.getD i z55).f0 g)) (by omega) (by omega)]
      rw [show (⟨-(Int.tdiv (l.getD i z55).f0 g), (l.getD i z55).f1, (l.getD i z55).f2, (l.getD i z55).f3⟩ : S55) = quT (decide ((rd_T55 l (wrap64 ((l.length : Int) - 1))).f0 < 0)) g (l.getD i z55) by unfold quT; rw [if_pos (decide_eq_true h)]]
      exact ih'
    · rw [if_neg h, if_pos (by rw [List.length_map, List.length_take]; omega), rdT_at, hw, w64 (x := Int.tdiv (l.getD i z55).f0 g) (by omega) (by omega)]
      rw [show (⟨Int.tdiv (l.getD i z55).f0 g, (l.getD i z55).f1, (l.getD i z55).f2, (l.getD i z55).f3⟩ : S55) = quT (decide ((rd_T55 l (wrap64 ((l.length : Int) - 1))).f0 < 0)) g (l.getD i z55) by unfold quT; rw [if_neg (by rw [decide_eq_true_iff]; exact h)]]
      exact ih'
theorem impl_l1 {l : List S55} (hl : l.length ≤ 20) (hok : ∀ j, j < l.length → okT (l.getD j z55) = true) {g : Int} (hg : 0 < g) (neg : Bool) : ∀ (d i K : Nat), i + d = l.length → d < K →
    impl_primitivePoly.l1 K (if neg = true then -g else g) ((l.take i).map (quT neg g)) l (l.length : Int) (i : Int) = some (l.map (quT neg g)) := by
  intro d
  induction d with
  | zero =>
    intro i K hi hK
    obtain ⟨K, rfl⟩ : ∃ j, K = j + 1 := ⟨K - 1, by omega⟩
    simp only [impl_primitivePoly.l1]
    rw [if_neg (by omega), List.take_of_length_le (by omega)]
  | succ d ih =>
    intro i K hi hK
    obtain ⟨K, rfl⟩ : ∃ j, K = j + 1 := ⟨K - 1, by omega⟩
    have hw : wrap64 ((i : Int) + 1) = ((i + 1 : Nat) : Int) := by rw [w64 (by omega) (by omega)]; omega
    have hil : i < l.length := by omega
    have ho := okT_iff.1 (hok i (by omega))
    have hq := tdiv_abs (l.getD i z55).f0 g
    have ih' := ih (i + 1) K (by omega) (by omega)
    rw [List.take_succ_eq_append_getElem hil, List.map_append, List.map_singleton] at ih'
    have he : l[i] = l.getD i z55 := by rw [List.getD_eq_getElem?_getD, List.getElem?_eq_getElem hil]; rfl
    rw [he] at ih'
    simp only [impl_primitivePoly.l1]
    rw [if_pos (by omega), if_pos (by omega), if_pos (by omega), if_neg (by split <;> omega), if_pos (by rw [List.length_map, List.length_take]; omega), rdT_at, hw]
    rw [show (⟨wrap64 (Int.tdiv (l.getD i z55).f0 (if neg = true then -g else g)), (l.getD i z55).f1, (l.getD i z55).f2, (l.getD i z55).f3⟩ : S55) = quT neg g (l.getD i z55) by
      unfold quT
      cases neg
      · rw [if_neg (by decide), if_neg (by decide), w64 (by omega) (by omega)]
      · rw [if_pos rfl, if_pos rfl, Int.tdiv_neg, w64 (by omega) (by omega)]]
    exact ih'
theorem prim_ev {l : List S55} (h : goodT l = true) : ∃ r : List S55, r.length ≤ 20 ∧ ∃ n, ∀ K, n ≤ K → spec_txPrimitive.f K l = some r ∧ impl_primitivePoly.f K l = some r := by
  obtain ⟨hl, hok, _⟩ := goodT_ok h
  by_cases he : l = []
  · subst he
    refine ⟨[], by simp, 10, fun K hK => ?_⟩
    obtain ⟨K, rfl⟩ : ∃ j, K = j + 1 := ⟨K - 1, by omega⟩
    obtain ⟨K, rfl⟩ : ∃ j, K = j + 1 := ⟨K - 1, by omega⟩
    obtain ⟨K, rfl⟩ : ∃ j, K = j + 1 := ⟨K - 1, by omega⟩
    obtain ⟨K, rfl⟩ : ∃ j, K = j + 1 := ⟨K - 1, by omega⟩
    constructor
    · unfold spec_txPrimitive.f
      simp [spec_txPrimitive.l0, spec_txPrimitive.l1]
    · unfold impl_primitivePoly.f
      simp [impl_primitivePoly.l0, impl_primitivePoly.j1, impl_primitivePoly.j2, impl_primitivePoly.l1]
  · have hlen : 0 < l.length := List.length_pos_iff.2 he
    have hn : wrap64 ((l.length : Int) - 1) = (l.length : Int) - 1 := w64 (by omega) (by omega)
    obtain ⟨g, g1, g2, hg⟩ := common_l0 hl hok l.length 0 0 (by omega) (by omega) (by omega) (.inl rfl)
    have g3 : 0 < g := g2.resolve_left he
    refine ⟨l.map (quT (decide (((rd_T55 l (wrap64 ((l.length : Int) - 1))).f0) < 0)) g), by rw [List.length_map]; exact hl, 3000 + l.length, fun K hK => ?_⟩
    obtain ⟨K', rfl⟩ : ∃ K', K = K' + 4 + 1 + l.length := ⟨K - 5 - l.length, by omega⟩
    obtain ⟨h1, h2⟩ := hg (K' + 4) (by omega)
    constructor
    · unfold spec_txPrimitive.f
      rw [show (0 : Int) = ((0 : Nat) : Int) from rfl] at h1 ⊢
      rw [h1]
      exact spec_l1 hl hok g3 l.length 0 _ (by omega) (by omega)
    · unfold impl_primitivePoly.f
      rw [show (0 : Int) = ((0 : Nat) : Int) from rfl] at h2 ⊢
      rw [h2, if_pos (by omega), if_pos (by omega), if_pos (by omega)]
      have h3 := impl_l1 hl hok g3 (decide (((rd_T55 l (wrap64 ((l.length : Int) - 1))).f0) < 0)) l.length 0 (K' + 2) (by omega) (by omega)
      generalize decide (((rd_T55 l (wrap64 ((l.length : Int) - 1))).f0) < 0) = neg at h3 ⊢
      rw [← h3]
      cases neg
      · simp only [impl_primitivePoly.j1, impl_primitivePoly.j2]; rfl
      · simp only [impl_primitivePoly.j1, impl_primitivePoly.j2, if_true]
        rw [w64 (by omega) (by omega)]; rfl
theorem FnExactPrimitivePoly (l0 : List S57) (w0 : l0.length ≤ maxLen ∧ ∀ y ∈ l0, ((Lit.int .i64 y.f0).wf = true ∧ ((Lit.int .i64 y.f1).wf = true ∧ ((Lit.int .i64 y.f2).wf = true ∧ (Lit.int .i64 y.f3).wf = true)))) : ∃ k, laws_FnExactPrimitivePoly.f k l0 = some true := by
  have m1 : l0.length ≤ 9223372036854775807 := w0.1
  obtain ⟨t, ht, hc⟩ := szTermS_eq m1
  rcases hc with hc | ⟨h0, h1⟩
  · refine ⟨0, ?_⟩
    unfold laws_FnExactPrimitivePoly.f
    rw [ht]; simp only [bs']
    rw [if_pos hc]
  · obtain ⟨K0, e0⟩ := toTermS_ev h1 false
    obtain ⟨K1, e1⟩ := toTermS_ev h1 true
    have h2 : (l0.map cvT).length ≤ 1000000 := by rw [List.length_map]; exact h1
    obtain ⟨K2, e2⟩ := poGood_ev h2
    obtain ⟨K3, e3⟩ := isPoly_ev h2
    obtain ⟨K4, e4⟩ := markTermS_ev h2
    dsimp only at e0 e1 e2 e3 e4
    have key : ∃ r : List S55 × Bool, r.1.length ≤ 20 ∧ ∃ n, ∀ K, n ≤ K → spec_PrimitivePoly.f K (l0.map cvT) = some r ∧ impl_PrimitivePoly.f K (l0.map cvT) = some r := by
      by_cases g : goodT (l0.map cvT) = true
      · obtain ⟨r, hr, n, hn⟩ := prim_ev g
        refine ⟨(r, true), hr, n + K2 + K3, fun K hK => ⟨?_, ?_⟩⟩
        · unfold spec_PrimitivePoly.f
          rw [e2 _ (by omega), g]; simp only [bs', if_true]
          rw [(hn K (by omega)).1]; simp only [bs']
        · unfold impl_PrimitivePoly.f
          rw [e3 _ (by omega), g]; simp only [bs', if_true]
          rw [(hn K (by omega)).2]; simp only [bs']
      · refine ⟨([], false), by simp, K2 + K3, fun K hK => ⟨?_, ?_⟩⟩
        · unfold spec_PrimitivePoly.f
          rw [e2 _ (by omega)]; simp only [bs']
          rw [if_neg g]
        · unfold impl_PrimitivePoly.f
          rw [e3 _ (by omega)]; simp only [bs']
          rw [if_neg g]
    obtain ⟨r, hr, n, hn⟩ := key
    obtain ⟨K5, e5⟩ := eqTermS_ev (l := r.1) (by omega)
    obtain ⟨K6, e6⟩ := markTermS_ev (l := r.1) (by omega)
    obtain ⟨K7, e7⟩ := heldTermS_ev (n := r.1.length) (by omega)
    dsimp only at e5 e6 e7
    obtain ⟨s2, s3⟩ := hn (K0 + K1 + K2 + K3 + K4 + K5 + K6 + K7 + n) (by omega)
    refine ⟨K0 + K1 + K2 + K3 + K4 + K5 + K6 + K7 + n, ?_⟩
    unfold laws_FnExactPrimitivePoly.f
    rw [ht]; simp only [bs']
    rw [if_neg (by omega), e0 _ (by omega)]; simp only [bs']
    rw [s2]; simp only [bs']
    rw [s3]; simp only [bs']
    rw [e5 _ (by omega)]; simp only [bs', if_true]
    rw [if_neg (by simp), intactTermS_self]; simp only [bs', if_true]
    rw [e4 _ (by omega)]; simp only [bs']
    rw [if_neg (by omega)]
    rw [e6 _ (by omega)]; simp only [bs']
    rw [e7 _ (by omega)]; simp only [bs', if_true]
    rw [if_neg (by omega), e1 _ (by omega)]; simp only [bs']
    rw [s3]; simp only [bs']
    rw [e5 _ (by omega)]; simp only [bs', if_true]
    rw [if_neg (by simp), if_neg (by omega)]
end Go.Proofs.Ytfnmppeoleicbaa.Pure
