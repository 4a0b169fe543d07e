import Derived.Test.YtfnmppeoleicbaaQDerilyPDx1
import Derived.Test.YtfnmppeoleicbaaQDerilyMz
/- FnExactDerivePoly, told over numbers and lists alone: the law's printed function answers true. -/
namespace Go.Proofs.Ytfnmppeoleicbaa.Pure
open Go.RowKit Go.Proofs.Ytfnmppeoleicbaa.PD Go.Proofs.YtfnmppeoleicbaaW.PrintWords Go.Proofs.YtfnmppeoleicbaaW.PrintLast Go.Proofs.YtfnmppeoleicbaaW.PrintMore
open Go.Proofs.YtfnmppeoleicbaaCol (Lt Eqk put sums ahd)
theorem getD_mem {l : List S55} {i : Nat} (h : i < l.length) : l.getD i z55 ∈ l := by rw [List.getD_eq_getElem?_getD, List.getElem?_eq_getElem h]; exact List.getElem_mem h
theorem mem_getD {l : List S55} {t : S55} (h : t ∈ l) : ∃ i, i < l.length ∧ l.getD i z55 = t := by
  obtain ⟨i, hi, e⟩ := List.getElem_of_mem h
  exact ⟨i, hi, by rw [List.getD_eq_getElem?_getD, List.getElem?_eq_getElem hi]; exact e⟩
def pwD (t : S55) (a : Int) : Int := if a = 0 then t.f1 else (if a = 1 then t.f2 else t.f3)
def smD (t : S55) : Prop := -1000 ≤ t.f0 ∧ t.f0 ≤ 1000 ∧ 0 ≤ t.f1 ∧ t.f1 ≤ 4 ∧ 0 ≤ t.f2 ∧ t.f2 ≤ 4 ∧ 0 ≤ t.f3 ∧ t.f3 ≤ 4
def dE (a : Int) (l : List S55) : List S55 := (l.filter (fun t => decide (0 < pwD t a))).map (fun t => impl_derive.tm t a)
def dD (a : Int) (l : List S55) : List S55 := l.map (fun t => impl_derive.tm t a)
theorem smD_good {l : List S55} (h : goodT l = true) : ∀ t ∈ l, smD t := by
  intro t ht
  obtain ⟨i, hi, e⟩ := mem_getD ht
  have := okT_iff.1 ((goodT_ok h).2.1 i hi)
  rw [e] at this
  unfold smD; omega
theorem three {a : Int} (ha : 0 ≤ a ∧ a ≤ 2) : a = 0 ∨ a = 1 ∨ a = 2 := by omega
theorem pow_eq (t : S55) (a : Int) : spec_poPower.f t.f0 t.f1 t.f2 t.f3 a = some (pwD t a) := by
  unfold spec_poPower.f pwD
  split
  · rfl
  · split <;> rfl
theorem mx_pos {e : Int} (h0 : 0 < e) (h1 : e ≤ 4) : mx (wrap64 (e - 1)) 0 = wrap64 (e - 1) := by
  unfold mx; rw [w64 (by omega) (by omega), if_neg (by omega)]
theorem with_eq {t : S55} {a : Int} (ha : 0 ≤ a ∧ a ≤ 2) (ht : smD t) (hp : 0 < pwD t a) : ∃ b, spec_poWith.f t.f0 t.f1 t.f2 t.f3 a (wrap64 (pwD t a - 1)) = some b ∧ (⟨wrap64 (b.1 * pwD t a), b.2.1, b.2.2.1, b.2.2.2⟩ : S55) = impl_derive.tm t a := by
  obtain ⟨_, _, a1, a2, a3, a4, a5, a6⟩ := ht
  rcases three ha with rfl | rfl | rfl <;> refine ⟨_, rfl, ?_⟩ <;> simp only [pwD, impl_derive.tm, if_true, Int.reduceEq, if_false] at hp ⊢ <;> rw [mx_pos (by omega) (by omega)]
theorem dE_pos {t : S55} {a : Int} {l : List S55} (hp : 0 < pwD t a) : dE a (t :: l) = impl_derive.tm t a :: dE a l := by simp [dE, hp]
theorem dE_neg {t : S55} {a : Int} {l : List S55} (hp : ¬ 0 < pwD t a) : dE a (t :: l) = dE a l := by simp [dE, hp]
theorem sp_l0 {l : List S55} {a : Int} (hl : l.length ≤ 20) (ha : 0 ≤ a ∧ a ≤ 2) (hs : ∀ t ∈ l, smD t) : ∀ (n i K : Nat) (x : List S55), i + n = l.length → x.length ≤ i → n < K → spec_poDerive.l0 K a x l (l.length : Int) (i : Int) = some (x ++ dE a (l.drop i))
  | 0, i, K, x, h, hx, hK => by
    obtain ⟨K, rfl⟩ : ∃ j, K = j + 1 := ⟨K - 1, by omega⟩
    simp only [spec_poDerive.l0]
    rw [if_neg (by omega), List.drop_of_length_le (by omega)]; simp [dE]
  | n + 1, i, K, x, h, hx, hK => by
    obtain ⟨K, rfl⟩ : ∃ j, K = j + 1 := ⟨K - 1, by omega⟩
    have hlt : i < l.length := by omega
    have hd : l.drop i = l.getD i z55 :: l.drop (i + 1) := by rw [List.drop_eq_getElem_cons hlt]; simp [List.getD_eq_getElem?_getD, hlt]
    have hm := getD_mem hlt
    have hw : wrap64 ((i : Int) + 1) = ((i + 1 : Nat) : Int) := by rw [w64 (by omega) (by omega)]; omega
    simp only [spec_poDerive.l0]
    rw [if_pos (by omega), if_pos (by omega), if_pos (by omega), rdT_at, pow_eq, bs', hw, hd]
    by_cases hp : 0 < pwD (l.getD i z55) a
    · obtain ⟨b, hb, eb⟩ := with_eq ha (hs _ hm) hp
      rw [if_pos hp, hb, bs', if_pos (by omega), eb, sp_l0 hl ha hs n (i + 1) K _ (by omega) (by rw [List.length_append]; simp only [List.length_cons, List.length_nil]; omega) (by omega), dE_pos hp, List.append_assoc]; rfl
    · rw [if_neg hp, sp_l0 hl ha hs n (i + 1) K _ (by omega) (by omega) (by omega), dE_neg hp]
theorem im_l0 {l : List S55} {a : Int} (hl : l.length ≤ 20) : ∀ (n i K : Nat) (x : List S55), i + n = l.length → x.length ≤ i → n < K → impl_derive.l0 K l a x (i : Int) = impl_collect.f (x ++ dD a (l.drop i))
  | 0, i, K, x, h, hx, hK => by
    obtain ⟨K, rfl⟩ : ∃ j, K = j + 1 := ⟨K - 1, by omega⟩
    simp only [impl_derive.l0]
    rw [if_neg (by omega), List.drop_of_length_le (by omega)]; simp [dD]
  | n + 1, i, K, x, h, hx, hK => by
    obtain ⟨K, rfl⟩ : ∃ j, K = j + 1 := ⟨K - 1, by omega⟩
    have hlt : i < l.length := by omega
    have hd : l.drop i = l.getD i z55 :: l.drop (i + 1) := by rw [List.drop_eq_getElem_cons hlt]; simp [List.getD_eq_getElem?_getD, hlt]
    have hw : wrap64 ((i : Int) + 1) = ((i + 1 : Nat) : Int) := by rw [w64 (by omega) (by omega)]; omega
    simp only [impl_derive.l0]
    rw [if_pos (by omega), if_pos (by omega), if_pos (by omega), rdT_at, hw, hd, im_l0 hl n (i + 1) K _ (by omega) (by rw [List.length_append]; simp only [List.length_cons, List.length_nil]; omega) (by omega)]
    simp [dD]
theorem tm_c (t : S55) (a : Int) : (impl_derive.tm t a).f0 = wrap64 (t.f0 * pwD t a) := by
  unfold impl_derive.tm pwD
  split
  · rfl
  · split <;> rfl
theorem tm_w (t : S55) (a : Int) : wrap64 (impl_derive.tm t a).f0 = (impl_derive.tm t a).f0 := by rw [tm_c]; exact Go.Proofs.YtfnmppeoleicbaaCol.wrap_wrap _
theorem dE_mem {a : Int} {l : List S55} {u : S55} (h : u ∈ dE a l) : ∃ t ∈ l, 0 < pwD t a ∧ impl_derive.tm t a = u := by
  unfold dE at h
  obtain ⟨t, ht, e⟩ := List.mem_map.1 h
  obtain ⟨h1, h2⟩ := List.mem_filter.1 ht
  exact ⟨t, h1, of_decide_eq_true h2, e⟩
theorem dD_w {a : Int} {l : List S55} : ∀ u ∈ dD a l, wrap64 u.f0 = u.f0 := by
  intro u h
  unfold dD at h
  obtain ⟨t, _, e⟩ := List.mem_map.1 h
  rw [← e]; exact tm_w t a
theorem dE_w {a : Int} {l : List S55} : ∀ u ∈ dE a l, wrap64 u.f0 = u.f0 := by
  intro u h
  obtain ⟨t, _, _, e⟩ := dE_mem h
  rw [← e]; exact tm_w t a
theorem dE_sm {a : Int} {l : List S55} (ha : 0 ≤ a ∧ a ≤ 2) (hs : ∀ t ∈ l, smD t) : ∀ u ∈ dE a l, smT u := by
  intro u h
  obtain ⟨t, ht, hp, e⟩ := dE_mem h
  obtain ⟨_, _, a1, a2, a3, a4, a5, a6⟩ := hs t ht
  rw [← e]
  rcases three ha with rfl | rfl | rfl <;> simp only [pwD, impl_derive.tm, if_true, Int.reduceEq, if_false, smT] at hp ⊢ <;> rw [mx_pos (by omega) (by omega), w64 (by omega) (by omega)] <;> omega
theorem pw_nn {t : S55} {a : Int} (ht : smD t) : 0 ≤ pwD t a := by
  obtain ⟨_, _, a1, a2, a3, a4, a5, a6⟩ := ht
  unfold pwD; split
  · exact a1
  · split
    · exact a3
    · exact a5
theorem d_cs {a : Int} (s : S55) : ∀ l : List S55, (∀ t ∈ l, smD t) → Go.Proofs.YtfnmppeoleicbaaCol.cs impl_collect.ops (dE a l) s = Go.Proofs.YtfnmppeoleicbaaCol.cs impl_collect.ops (dD a l) s
  | [], _ => rfl
  | t :: l, hs => by
    have ih := d_cs (a := a) s l (fun u hu => hs u (List.mem_cons_of_mem _ hu))
    have hn := pw_nn (a := a) (hs t List.mem_cons_self)
    have eD : dD a (t :: l) = impl_derive.tm t a :: dD a l := rfl
    rw [eD, Go.Proofs.YtfnmppeoleicbaaCol.cs_cons]
    by_cases hp : 0 < pwD t a
    · have eE : dE a (t :: l) = impl_derive.tm t a :: dE a l := by simp [dE, hp]
      rw [eE, Go.Proofs.YtfnmppeoleicbaaCol.cs_cons, ih]
    · have eE : dE a (t :: l) = dE a l := by simp [dE, hp]
      have z : (impl_derive.tm t a).f0 = 0 := by rw [tm_c, show pwD t a = 0 by omega, Int.mul_zero]; exact Go.Proofs.YtfnmppeoleicbaaCol.wrap_zero
      have z' : impl_collect.ops.c (impl_derive.tm t a) = 0 := z
      rw [eE, ih, z']; split <;> omega
theorem d_res {a : Int} {l : List S55} (hs : ∀ t ∈ l, smD t) : sums impl_collect.ops (dE a l) = sums impl_collect.ops (dD a l) := by
  obtain ⟨n1, c1⟩ := Go.Proofs.YtfnmppeoleicbaaCol.sums_nf (o := impl_collect.ops) (l := dE a l) dE_w
  obtain ⟨n2, c2⟩ := Go.Proofs.YtfnmppeoleicbaaCol.sums_nf (o := impl_collect.ops) (l := dD a l) dD_w
  exact Go.Proofs.YtfnmppeoleicbaaCol.nf_unique n1 n2 (fun s => by rw [c1, c2, d_cs s l hs])
theorem pU (a : Int) : spec_poUnknown.f a = some (decide (0 ≤ a ∧ a ≤ 2)) := by unfold spec_poUnknown.f; rw [l1In_eq, bs']
theorem iU (a : Int) : impl_isUnknown.f a = some (decide (0 ≤ a ∧ a ≤ 2)) := by unfold impl_isUnknown.f; rw [inside_eq, bs']
theorem both {l : List S55} (h2 : l.length ≤ 1000000) (a1 : Int) : ∃ r : List S55 × Bool, r.1.length ≤ 20 ∧ ∃ n, ∀ K, n ≤ K → spec_DerivePoly.f K l a1 = some r ∧ impl_DerivePoly.f K l a1 = some r := by
  obtain ⟨K2, e2⟩ := poGood_ev h2
  obtain ⟨K3, e3⟩ := isPoly_ev h2
  obtain ⟨K6, k6⟩ := poSum_run
  obtain ⟨K7, k7⟩ := result_run
  dsimp only at e2 e3
  by_cases g : goodT l = true
  · by_cases b : 0 ≤ a1 ∧ a1 ≤ 2
    · have hl := (goodT_ok g).1
      have hs := smD_good g
      have lE : (dE a1 l).length ≤ 500 := by
        unfold dE; rw [List.length_map]
        exact Nat.le_trans (List.length_filter_le _ _) (by omega)
      have lD : (dD a1 l).length ≤ 500 := by unfold dD; rw [List.length_map]; omega
      have hr : resT (dE a1 l) = resT (dD a1 l) := by unfold resT; rw [d_res hs]
      refine ⟨resT (dD a1 l), resT_len _, K2 + K3 + K6 + K7 + 30, fun K hK => ?_⟩
      obtain ⟨K, rfl⟩ : ∃ j, K = j + 1 := ⟨K - 1, by omega⟩
      constructor
      · unfold spec_DerivePoly.f
        rw [e2 _ (by omega), g]; simp only [bs', if_true]
        rw [pU, bs', decide_eq_true b]
        simp only [spec_DerivePoly.j0]
        rw [if_neg (by decide)]
        unfold spec_poDerive.f
        have h0 := sp_l0 hl b hs l.length 0 K [] (by omega) (Nat.le_refl _) (by omega)
        rw [List.drop_zero, List.nil_append] at h0
        rw [show (0 : Int) = ((0 : Nat) : Int) from rfl, h0]; simp only [bs']
        rw [k6 _ lE (dE_sm b hs) _ (by omega), hr]; simp only [bs']
      · unfold impl_DerivePoly.f
        rw [e3 _ (by omega), g]; simp only [bs', if_true]
        rw [iU, bs', decide_eq_true b]
        simp only [impl_DerivePoly.j0]
        rw [if_neg (by decide)]
        unfold impl_derive.f
        have h0 := im_l0 (a := a1) hl l.length 0 K [] (by omega) (Nat.le_refl _) (by omega)
        rw [List.drop_zero, List.nil_append] at h0
        rw [if_pos b.1, if_pos b.2, show (0 : Int) = ((0 : Nat) : Int) from rfl, h0, collect_run (by omega) dD_w]; simp only [bs']
        rw [k7 _ lD _ (by omega)]; simp only [bs']
    · refine ⟨([], false), by simp, K2 + K3 + 1, fun K hK => ?_⟩
      obtain ⟨K, rfl⟩ : ∃ j, K = j + 1 := ⟨K - 1, by omega⟩
      constructor
      · unfold spec_DerivePoly.f
        rw [e2 _ (by omega), g]; simp only [bs', if_true]
        rw [pU, bs', decide_eq_false b]
        simp only [spec_DerivePoly.j0]
        rw [if_pos (by decide)]
      · unfold impl_DerivePoly.f
        rw [e3 _ (by omega), g]; simp only [bs', if_true]
        rw [iU, bs', decide_eq_false b]
        simp only [impl_DerivePoly.j0]
        rw [if_pos (by decide)]
  · refine ⟨([], false), by simp, K2 + K3 + 1, fun K hK => ?_⟩
    obtain ⟨K, rfl⟩ : ∃ j, K = j + 1 := ⟨K - 1, by omega⟩
    constructor
    · unfold spec_DerivePoly.f
      rw [e2 _ (by omega)]; simp only [bs']
      rw [if_neg g]; simp only [spec_DerivePoly.j0, if_true]
    · unfold impl_DerivePoly.f
      rw [e3 _ (by omega)]; simp only [bs']
      rw [if_neg g]; simp only [impl_DerivePoly.j0, if_true]
theorem FnExactDerivePoly (l0 : List S57) (a1 : Int) (w0 : l0.length ≤ maxLen ∧ ∀ y ∈ l0, ((Lit.int .i64 y.f0).wf = true ∧ ((Lit.int .i64 y.f1).wf = true ∧ ((Lit.int .i64 y.f2).wf = true ∧ (Lit.int .i64 y.f3).wf = true)))) (_w1 : (Lit.int .i64 a1).wf = true) : ∃ k, laws_FnExactDerivePoly.f k l0 a1 = some true := by
  have m1 : l0.length ≤ 9223372036854775807 := w0.1
  obtain ⟨t, ht, hc⟩ := szTermS_eq m1
  rcases hc with hc | ⟨h0, h1⟩
  · refine ⟨0, ?_⟩
    unfold laws_FnExactDerivePoly.f
    rw [ht]; simp only [bs']
    rw [if_pos hc]
  · obtain ⟨K0, e0⟩ := toTermS_ev h1 false
    obtain ⟨K1, e1⟩ := toTermS_ev h1 true
    have h2 : (l0.map cvT).length ≤ 1000000 := by rw [List.length_map]; exact h1
    obtain ⟨K4, e4⟩ := markTermS_ev h2
    dsimp only at e0 e1 e4
    obtain ⟨r, hr, n, hn⟩ := both h2 a1
    obtain ⟨K5, e5⟩ := eqTermS_ev (l := r.1) (by omega)
    obtain ⟨K6, e6⟩ := markTermS_ev (l := r.1) (by omega)
    obtain ⟨K7, e7⟩ := heldTermS_ev (n := r.1.length) (by omega)
    dsimp only at e5 e6 e7
    obtain ⟨s2, s3⟩ := hn (K0 + K1 + K4 + K5 + K6 + K7 + n) (by omega)
    refine ⟨K0 + K1 + K4 + K5 + K6 + K7 + n, ?_⟩
    unfold laws_FnExactDerivePoly.f
    rw [ht]; simp only [bs']
    rw [if_neg (by omega), e0 _ (by omega)]; simp only [bs']
    rw [s2]; simp only [bs']
    rw [s3]; simp only [bs']
    rw [e5 _ (by omega)]; simp only [bs', if_true]
    rw [if_neg (by simp), intactTermS_self]; simp only [bs', if_true]
    rw [e4 _ (by omega)]; simp only [bs']
    rw [if_neg (by omega)]
    rw [e6 _ (by omega)]; simp only [bs']
    rw [e7 _ (by omega)]; simp only [bs', if_true]
    rw [if_neg (by omega), e1 _ (by omega)]; simp only [bs']
    rw [s3]; simp only [bs']
    rw [e5 _ (by omega)]; simp only [bs', if_true]
    rw [if_neg (by simp), if_neg (by omega)]
end Go.Proofs.Ytfnmppeoleicbaa.Pure
