import Derived.Test.YtfnmppeoleicbaaQUnknOfPDx1
import Derived.Test.YtfnmppeoleicbaaQUnknOfMr
/- FnExactUnknownsOf, told over numbers and lists alone: the law's printed function answers true. -/
namespace Go.Proofs.Ytfnmppeoleicbaa.Pure
open Go.RowKit Go.Proofs.Ytfnmppeoleicbaa.PD Go.Proofs.YtfnmppeoleicbaaW.PrintWords Go.Proofs.YtfnmppeoleicbaaW.PrintLast Go.Proofs.YtfnmppeoleicbaaW.PrintMore
theorem power_eq (t : S55) (k : Int) : spec_poPower.f t.f0 t.f1 t.f2 t.f3 k = some (impl_DegreeIn.pw t k) := by
  unfold spec_poPower.f impl_DegreeIn.pw
  by_cases h : k = 0
  · rw [if_pos h, if_pos h]
  · rw [if_neg h, if_neg h]
    by_cases h2 : k = 1
    · rw [if_pos h2, if_pos h2]
    · rw [if_neg h2, if_neg h2]
theorem degree_pos {l : List S55} (hl : l.length ≤ 1000000) (a : Int) : ∀ (d i : Nat) (m : Int), i + d = l.length → ∃ r : Int, (r > 0 ↔ (m > 0 ∨ ∃ j, i ≤ j ∧ j < l.length ∧ impl_DegreeIn.pw (l.getD j z55) a > 0)) ∧ ∀ K, d < K → spec_poDegreeIn.l0 K a m l (l.length : Int) (i : Int) = some r := by
  intro d
  induction d with
  | zero =>
    intro i m hi
    refine ⟨m, ⟨fun h => .inl h, fun h => h.elim id (fun ⟨j, h1, h2, _⟩ => by omega)⟩, fun K hK => ?_⟩
    obtain ⟨K, rfl⟩ : ∃ j, K = j + 1 := ⟨K - 1, by omega⟩
    simp only [spec_poDegreeIn.l0]; rw [if_neg (by omega)]
  | succ d ih =>
    intro i m hi
    have hw : wrap64 ((i : Int) + 1) = ((i + 1 : Nat) : Int) := by rw [w64 (by omega) (by omega)]; omega
    obtain ⟨r, h1, h2⟩ := ih (i + 1) (mx m (impl_DegreeIn.pw (l.getD i z55) a)) (by omega)
    refine ⟨r, h1.trans ?_, fun K hK => ?_⟩
    · have hm : mx m (impl_DegreeIn.pw (l.getD i z55) a) > 0 ↔ (m > 0 ∨ impl_DegreeIn.pw (l.getD i z55) a > 0) := by
        unfold mx
        split <;> omega
      rw [hm]
      constructor
      · rintro ((h | h) | ⟨j, j1, j2, j3⟩)
        · exact .inl h
        · exact .inr ⟨i, by omega, by omega, h⟩
        · exact .inr ⟨j, by omega, j2, j3⟩
      · rintro (h | ⟨j, j1, j2, j3⟩)
        · exact .inl (.inl h)
        · by_cases e : j = i
          · subst e; exact .inl (.inr j3)
          · exact .inr ⟨j, by omega, j2, j3⟩
    · obtain ⟨K, rfl⟩ : ∃ j, K = j + 1 := ⟨K - 1, by omega⟩
      simp only [spec_poDegreeIn.l0]
      rw [if_pos (by omega), if_pos (by omega), if_pos (by omega), power_eq, rdT_at]; simp only [bs']
      rw [most_eq]; simp only [bs']
      rw [hw]; exact h2 K (by omega)
theorem index_pos {l : List S55} (hl : l.length ≤ 1000000) (a : Int) : ∀ (d i : Nat), i + d = l.length → ∃ r : Int, (r ≥ 0 ↔ ∃ j, i ≤ j ∧ j < l.length ∧ impl_DegreeIn.pw (l.getD j z55) a > 0) ∧ ∀ K, d < K → impl_UnknownsOf.ix K l a (i : Int) = some r := by
  intro d
  induction d with
  | zero =>
    intro i hi
    refine ⟨-1, ⟨fun h => by omega, fun ⟨j, h1, h2, _⟩ => by omega⟩, fun K hK => ?_⟩
    obtain ⟨K, rfl⟩ : ∃ j, K = j + 1 := ⟨K - 1, by omega⟩
    simp only [impl_UnknownsOf.ix]; rw [if_neg (by omega)]
  | succ d ih =>
    intro i hi
    have hw : wrap64 ((i : Int) + 1) = ((i + 1 : Nat) : Int) := by rw [w64 (by omega) (by omega)]; omega
    by_cases c : impl_DegreeIn.pw (l.getD i z55) a > 0
    · refine ⟨(i : Int), ⟨fun _ => ⟨i, by omega, by omega, c⟩, fun _ => by omega⟩, fun K hK => ?_⟩
      obtain ⟨K, rfl⟩ : ∃ j, K = j + 1 := ⟨K - 1, by omega⟩
      simp only [impl_UnknownsOf.ix]
      rw [if_pos (by omega), if_pos (by omega), rdT_at, if_pos c]
    · obtain ⟨r, h1, h2⟩ := ih (i + 1) (by omega)
      refine ⟨r, h1.trans ⟨fun ⟨j, j1, j2, j3⟩ => ⟨j, by omega, j2, j3⟩, fun ⟨j, j1, j2, j3⟩ => ?_⟩, fun K hK => ?_⟩
      · by_cases e : j = i
        · subst e; exact absurd j3 c
        · exact ⟨j, by omega, j2, j3⟩
      · obtain ⟨K, rfl⟩ : ∃ j, K = j + 1 := ⟨K - 1, by omega⟩
        simp only [impl_UnknownsOf.ix]
        rw [if_pos (by omega), if_pos (by omega), rdT_at, if_neg c, hw]
        exact h2 K (by omega)
theorem unknowns_l0 {l : List S55} (hl : l.length ≤ 1000000) : ∀ (d i : Nat) (xs : List Int), i + d = 3 → xs.length ≤ i → ∃ r : List Int × Bool, r.1.length ≤ 3 ∧ ∀ K, l.length + d < K → spec_UnknownsOf.l0 K l xs (i : Int) = some r ∧ impl_UnknownsOf.l0 K l xs (i : Int) = some r := by
  intro d
  induction d with
  | zero =>
    intro i xs hi hx
    refine ⟨(xs, true), by show xs.length ≤ 3; omega, fun K hK => ?_⟩
    obtain ⟨K, rfl⟩ : ∃ j, K = j + 1 := ⟨K - 1, by omega⟩
    constructor
    · simp only [spec_UnknownsOf.l0]; rw [if_neg (by omega)]
    · simp only [impl_UnknownsOf.l0]; rw [if_neg (by omega)]
  | succ d ih =>
    intro i xs hi hx
    have hw : wrap64 ((i : Int) + 1) = ((i + 1 : Nat) : Int) := by rw [w64 (by omega) (by omega)]; omega
    obtain ⟨p, p1, p2⟩ := degree_pos hl (i : Int) l.length 0 (-1) (by omega)
    obtain ⟨q, q1, q2⟩ := index_pos hl (i : Int) l.length 0 (by omega)
    have hpq : p > 0 ↔ q ≥ 0 := by
      rw [p1, q1]
      exact ⟨fun h => h.elim (fun h => by omega) id, fun h => .inr h⟩
    by_cases c : q ≥ 0
    · obtain ⟨r, hr, h⟩ := ih (i + 1) (xs ++ [(i : Int)]) (by omega) (by rw [List.length_append]; simp; omega)
      refine ⟨r, hr, fun K hK => ?_⟩
      obtain ⟨K, rfl⟩ : ∃ j, K = j + 1 := ⟨K - 1, by omega⟩
      obtain ⟨h1, h2⟩ := h K (by omega)
      constructor
      · simp only [spec_UnknownsOf.l0, spec_poDegreeIn.f]
        rw [if_pos (by omega), show spec_poDegreeIn.l0 K (i : Int) (-1) l (l.length : Int) 0 = some p from p2 K (by omega)]; simp only [bs']
        rw [if_pos (hpq.2 c), if_pos (by omega), hw]; exact h1
      · simp only [impl_UnknownsOf.l0]
        rw [if_pos (by omega), if_pos (by omega), show impl_UnknownsOf.ix K l (i : Int) 0 = some q from q2 K (by omega)]; simp only [bs']
        rw [if_pos c, if_pos (by omega), hw]; exact h2
    · obtain ⟨r, hr, h⟩ := ih (i + 1) xs (by omega) (by omega)
      refine ⟨r, hr, fun K hK => ?_⟩
      obtain ⟨K, rfl⟩ : ∃ j, K = j + 1 := ⟨K - 1, by omega⟩
      obtain ⟨h1, h2⟩ := h K (by omega)
      constructor
      · simp only [spec_UnknownsOf.l0, spec_poDegreeIn.f]
        rw [if_pos (by omega), show spec_poDegreeIn.l0 K (i : Int) (-1) l (l.length : Int) 0 = some p from p2 K (by omega)]; simp only [bs']
        rw [if_neg (fun e => c (hpq.1 e)), hw]; exact h1
      · simp only [impl_UnknownsOf.l0]
        rw [if_pos (by omega), if_pos (by omega), show impl_UnknownsOf.ix K l (i : Int) 0 = some q from q2 K (by omega)]; simp only [bs']
        rw [if_neg c, hw]; exact h2
theorem eqIS_ev {l : List Int} (hl : l.length ≤ 1000000) : Ev (fun K => laws_eqIntS.f K l l) true := by
  have key : ∀ (d i K : Nat), i + d = l.length → d < K → laws_eqIntS.l0 K l l (i : Int) = some true := by
    intro d
    induction d with
    | zero =>
      intro i K hi hK
      obtain ⟨K, rfl⟩ : ∃ j, K = j + 1 := ⟨K - 1, by omega⟩
      simp only [laws_eqIntS.l0]
      rw [if_neg (by omega)]
    | succ d ih =>
      intro i K hi hK
      obtain ⟨K, rfl⟩ : ∃ j, K = j + 1 := ⟨K - 1, by omega⟩
      simp only [laws_eqIntS.l0]
      rw [if_pos (by omega), if_pos (by omega), if_pos (by omega), if_pos trivial]
      rw [w64 (by omega) (by omega), show (i : Int) + 1 = ((i + 1 : Nat) : Int) by omega]
      exact ih (i + 1) K (by omega) (by omega)
  refine ⟨l.length + 1, fun K hK => ?_⟩
  dsimp only; unfold laws_eqIntS.f
  rw [if_pos rfl]
  exact key l.length 0 _ (by omega) (by omega)
def mkI (n : Nat) : List Int := (List.range n).map fun (i : Nat) => 101 + (i : Int)
theorem mkI_len (n : Nat) : (mkI n).length = n := by unfold mkI; rw [List.length_map, List.length_range]
theorem mkI_get {n i : Nat} (h : i < n) : (mkI n)[i]? = some (101 + (i : Int)) := by
  unfold mkI
  rw [List.getElem?_map, List.getElem?_range h]; rfl
theorem markIS_ev {l : List Int} (hl : l.length ≤ 1000000) : Ev (fun K => laws_markIntS.f K l 101) (101 + (l.length : Int), mkI l.length) := by
  have key : ∀ (d i K : Nat) (x : List Int), i + d = l.length → x.length = l.length → x.take i = (mkI l.length).take i → d < K → laws_markIntS.l0 K x (101 + (i : Int)) (i : Int) = some (101 + (l.length : Int), mkI l.length) := by
    intro d
    induction d with
    | zero =>
      intro i K x hi hx ht hK
      obtain ⟨K, rfl⟩ : ∃ j, K = j + 1 := ⟨K - 1, by omega⟩
      simp only [laws_markIntS.l0]
      have hil : i = l.length := by omega
      subst hil
      rw [if_neg (by omega)]
      have h1 : x.take l.length = x := List.take_of_length_le (by omega)
      have h2 : (mkI l.length).take l.length = mkI l.length := List.take_of_length_le (by rw [mkI_len]; omega)
      rw [h1, h2] at ht
      rw [ht]
    | succ d ih =>
      intro i K x hi hx ht hK
      obtain ⟨K, rfl⟩ : ∃ j, K = j + 1 := ⟨K - 1, by omega⟩
      have hil : i < l.length := by omega
      simp only [laws_markIntS.l0]
      rw [if_pos (by omega), if_pos (by omega), Int.toNat_natCast]
      rw [w64 (x := 101 + (i : Int) + 1) (by omega) (by omega), w64 (x := (i : Int) + 1) (by omega) (by omega)]
      rw [show 101 + (i : Int) + 1 = 101 + ((i + 1 : Nat) : Int) by omega, show (i : Int) + 1 = ((i + 1 : Nat) : Int) by omega]
      refine ih (i + 1) K _ (by omega) (by rw [List.length_set]; omega) ?_ (by omega)
      rw [List.take_add_one, List.take_add_one, List.take_set_of_le (Nat.le_refl _), ht, mkI_get hil, List.getElem?_set_self (by omega)]
  refine ⟨l.length + 1, fun K hK => ?_⟩
  dsimp only; unfold laws_markIntS.f
  exact key l.length 0 K l (by omega) rfl (by simp) (by omega)
theorem heldIS_ev {n : Nat} (hn : n ≤ 1000000) : Ev (fun K => laws_heldIntS.f K (mkI n) 101) (101 + (n : Int)) := by
  have hl := mkI_len n
  have key : ∀ (d i K : Nat), i + d = n → d < K → laws_heldIntS.l0 K (mkI n) (101 + (i : Int)) (i : Int) = some (101 + (n : Int)) := by
    intro d
    induction d with
    | zero =>
      intro i K hi hK
      obtain ⟨K, rfl⟩ : ∃ j, K = j + 1 := ⟨K - 1, by omega⟩
      simp only [laws_heldIntS.l0]
      have hil : i = n := by omega
      subst hil
      rw [if_neg (by omega)]
    | succ d ih =>
      intro i K hi hK
      obtain ⟨K, rfl⟩ : ∃ j, K = j + 1 := ⟨K - 1, by omega⟩
      have hil : i < n := by omega
      have hr : rd (mkI n) (i : Int) = 101 + (i : Int) := by
        unfold rd
        rw [Int.toNat_natCast, List.getD_eq_getElem?_getD, mkI_get hil]; rfl
      simp only [laws_heldIntS.l0]
      rw [if_pos (by omega), if_pos (by omega), hr, if_pos rfl]
      rw [w64 (x := 101 + (i : Int) + 1) (by omega) (by omega), w64 (x := (i : Int) + 1) (by omega) (by omega)]
      rw [show 101 + (i : Int) + 1 = 101 + ((i + 1 : Nat) : Int) by omega, show (i : Int) + 1 = ((i + 1 : Nat) : Int) by omega]
      exact ih (i + 1) K (by omega) (by omega)
  refine ⟨n + 1, fun K hK => ?_⟩
  dsimp only; unfold laws_heldIntS.f
  exact key n 0 K (by omega) (by omega)
theorem FnExactUnknownsOf (l0 : List S57) (w0 : l0.length ≤ maxLen ∧ ∀ y ∈ l0, ((Lit.int .i64 y.f0).wf = true ∧ ((Lit.int .i64 y.f1).wf = true ∧ ((Lit.int .i64 y.f2).wf = true ∧ (Lit.int .i64 y.f3).wf = true)))) : ∃ k, laws_FnExactUnknownsOf.f k l0 = some true := by
  have m1 : l0.length ≤ 9223372036854775807 := w0.1
  obtain ⟨t, ht, hc⟩ := szTermS_eq m1
  rcases hc with hc | ⟨h0, h1⟩
  · refine ⟨0, ?_⟩
    unfold laws_FnExactUnknownsOf.f
    rw [ht]; simp only [bs']
    rw [if_pos hc]
  · obtain ⟨K0, e0⟩ := toTermS_ev h1 false
    obtain ⟨K1, e1⟩ := toTermS_ev h1 true
    have h2 : (l0.map cvT).length ≤ 1000000 := by rw [List.length_map]; exact h1
    obtain ⟨K2, e2⟩ := poGood_ev h2
    obtain ⟨K3, e3⟩ := isPoly_ev h2
    obtain ⟨K4, e4⟩ := markTermS_ev h2
    dsimp only at e0 e1 e2 e3 e4
    have key : ∃ r : List Int × Bool, r.1.length ≤ 20 ∧ ∃ n, ∀ K, n ≤ K → spec_UnknownsOf.f K (l0.map cvT) = some r ∧ impl_UnknownsOf.f K (l0.map cvT) = some r := by
      by_cases g : goodT (l0.map cvT) = true
      · obtain ⟨r, hr, hn⟩ := unknowns_l0 h2 3 0 [] (by omega) (by simp)
        refine ⟨r, by omega, (l0.map cvT).length + 4 + K2 + K3, fun K hK => ⟨?_, ?_⟩⟩
        · unfold spec_UnknownsOf.f
          rw [e2 _ (by omega), g]; simp only [bs', if_true]
          exact (hn K (by omega)).1
        · unfold impl_UnknownsOf.f
          rw [e3 _ (by omega), g]; simp only [bs', if_true]
          exact (hn K (by omega)).2
      · refine ⟨([], false), by simp, K2 + K3, fun K hK => ⟨?_, ?_⟩⟩
        · unfold spec_UnknownsOf.f
          rw [e2 _ (by omega)]; simp only [bs']
          rw [if_neg g]
        · unfold impl_UnknownsOf.f
          rw [e3 _ (by omega)]; simp only [bs']
          rw [if_neg g]
    obtain ⟨r, hr, n, hn⟩ := key
    obtain ⟨K5, e5⟩ := eqIS_ev (l := r.1) (by omega)
    obtain ⟨K6, e6⟩ := markIS_ev (l := r.1) (by omega)
    obtain ⟨K7, e7⟩ := heldIS_ev (n := r.1.length) (by omega)
    dsimp only at e5 e6 e7
    obtain ⟨s2, s3⟩ := hn (K0 + K1 + K2 + K3 + K4 + K5 + K6 + K7 + n) (by omega)
    refine ⟨K0 + K1 + K2 + K3 + K4 + K5 + K6 + K7 + n, ?_⟩
    unfold laws_FnExactUnknownsOf.f
    rw [ht]; simp only [bs']
    rw [if_neg (by omega), e0 _ (by omega)]; simp only [bs']
    rw [s2]; simp only [bs']
    rw [s3]; simp only [bs']
    rw [e5 _ (by omega)]; simp only [bs', if_true]
    rw [if_neg (by simp), intactTermS_self]; simp only [bs', if_true]
    rw [e4 _ (by omega)]; simp only [bs']
    rw [if_neg (by omega)]
    rw [e6 _ (by omega)]; simp only [bs']
    rw [e7 _ (by omega)]; simp only [bs', if_true]
    rw [if_neg (by omega), e1 _ (by omega)]; simp only [bs']
    rw [s3]; simp only [bs']
    rw [e5 _ (by omega)]; simp only [bs', if_true]
    rw [if_neg (by simp), if_neg (by omega)]
end Go.Proofs.Ytfnmppeoleicbaa.Pure
