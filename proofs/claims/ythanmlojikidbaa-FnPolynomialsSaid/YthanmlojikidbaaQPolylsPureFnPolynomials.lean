import Derived.Test.YthanmlojikidbaaQPolylsPDx34
import Derived.Test.YthanmlojikidbaaQPolylsPDx0
import Derived.Test.YthanmlojikidbaaQPolylsDa
import Derived.Test.YthanmlojikidbaaQPolylsRu
/- FnPolynomials, told over numbers and lists alone: at all lists of bytes the law's equations hold. -/
namespace Go.Proofs.Ythanmlojikidbaa.Pure
open Go.RowKit Go.Proofs.Ythanmlojikidbaa.PD Go.Proofs.YthanmlojikidbaaW.PrintWords Go.Proofs.YthanmlojikidbaaW.PrintLast Go.Proofs.YthanmlojikidbaaW.PrintMore
open Go.Proofs.YthanmlojikidbaaCol (Lt Eqk put sums ahd cs Nf sums_perm)
theorem wf_u8 {a : Int} (h : (Lit.int .u8 a).wf = true) : 0 ≤ a ∧ a ≤ 255 := by
  simpa [Lit.wf, IntKind.min, IntKind.max, IntKind.signed, IntKind.bits] using h
theorem st0 : St 0 0 := ⟨by omega, by omega⟩
theorem drawAdd {l : List Int} (hl : Bytes l) : ∃ p q, (∃ k, ∀ K, k ≤ K → spec_DrawAddPoly.f K l = some (p, q)) ∧ p.length ≤ 50 ∧ q.length ≤ 50 := by
  obtain ⟨r, a1, s1, e1, r0, r1, h1⟩ := pick_run hl st0 (by omega) 0 (m := 3) (by omega)
  have hw : wrap64 (1 + r) = 1 + r := w64 (by omega) (by omega)
  obtain ⟨p, a2, s2, ⟨k2, e2⟩, hp, h2⟩ := anyPoly_run hl h1 (by omega) s1 (m := 1 + r) (by omega)
  obtain ⟨b, a3, s3, e3, h3⟩ := one_run hl h2 (by omega) s2 (m := 8) (by omega)
  obtain ⟨q, a4, s4, ⟨k4, e4⟩, hq, h4⟩ := anyPoly_run hl h3 (by omega) s3 (m := 1 + r) (by omega)
  obtain ⟨k5, e5⟩ := poGood_ev (l := p) (by omega)
  dsimp only at e5
  obtain ⟨KM, km⟩ := mul_run
  have plain : ∀ K, k4 + 1 ≤ K → spec_DrawAddPoly.j0 K (1 + r) p false l a3 s3 = some (p, q) := by
    intro K hK
    obtain ⟨K, rfl⟩ : ∃ j, K = j + 1 := ⟨K - 1, by omega⟩
    rw [spec_DrawAddPoly.j0, if_neg (by decide), e4 K (by omega)]; simp only [bs']
  by_cases hb : b = true
  · by_cases hg : goodT p = true
    · have hm := fun K hK => (km p [(⟨-1, 0, 0, 0⟩ : S51)] (goodT_ok hg).1 (by simp) (sm_good hg) (fun t ht => by rw [List.mem_singleton.1 ht]; unfold smT'; simp only []; omega) K hK).1
      refine ⟨p, (resT (prods p [(⟨-1, 0, 0, 0⟩ : S51)])).1, ⟨k2 + k4 + k5 + KM + 2, fun K hK => ?_⟩, hp, by have := resT_len (prods p [(⟨-1, 0, 0, 0⟩ : S51)]); omega⟩
      unfold spec_DrawAddPoly.f
      rw [e1]; simp only [bs']
      rw [hw, e2 K (by omega)]; simp only [bs']
      rw [e3]; simp only [bs']
      rw [if_pos hb, e5 K (by omega), hg]; simp only [bs']
      obtain ⟨K, rfl⟩ : ∃ j, K = j + 1 := ⟨K - 1, by omega⟩
      rw [spec_DrawAddPoly.j0, if_pos rfl, hm K (by omega)]; simp only [bs']
    · refine ⟨p, q, ⟨k2 + k4 + k5 + 2, fun K hK => ?_⟩, hp, hq⟩
      unfold spec_DrawAddPoly.f
      rw [e1]; simp only [bs']
      rw [hw, e2 K (by omega)]; simp only [bs']
      rw [e3]; simp only [bs']
      rw [if_pos hb, e5 K (by omega), Bool.eq_false_iff.2 hg]; simp only [bs']
      exact plain K (by omega)
  · refine ⟨p, q, ⟨k2 + k4 + 2, fun K hK => ?_⟩, hp, hq⟩
    unfold spec_DrawAddPoly.f
    rw [e1]; simp only [bs']
    rw [hw, e2 K (by omega)]; simp only [bs']
    rw [e3]; simp only [bs']
    rw [if_neg hb]
    exact plain K (by omega)
theorem drawDerive {l : List Int} (hl : Bytes l) : ∃ p u, (∃ k, ∀ K, k ≤ K → spec_DrawDerivePoly.f K l = some (p, u)) ∧ p.length ≤ 50 := by
  obtain ⟨r, a1, s1, e1, r0, r1, h1⟩ := pick_run hl st0 (by omega) 0 (m := 3) (by omega)
  have hw : wrap64 (1 + r) = 1 + r := w64 (by omega) (by omega)
  obtain ⟨p, a2, s2, ⟨k2, e2⟩, hp, h2⟩ := anyPoly_run hl h1 (by omega) s1 (m := 1 + r) (by omega)
  obtain ⟨u, a3, s3, e3, h3⟩ := unknownOf_run hl (n := 1001) (a := a2) ⟨h2.1, by have := h2.2; omega⟩ (by omega) s2
  refine ⟨p, u, ⟨k2, fun K hK => ?_⟩, hp⟩
  unfold spec_DrawDerivePoly.f
  rw [e1]; simp only [bs']
  rw [hw, e2 K (by omega)]; simp only [bs']
  rw [e3]; simp only [bs']
theorem drawScale {l : List Int} (hl : Bytes l) : ∃ p x, (∃ k, ∀ K, k ≤ K → spec_DrawScalePoly.f K l = some (p, x)) ∧ p.length ≤ 50 := by
  obtain ⟨r, a1, s1, e1, r0, r1, h1⟩ := pick_run hl st0 (by omega) 0 (m := 3) (by omega)
  have hw : wrap64 (1 + r) = 1 + r := w64 (by omega) (by omega)
  obtain ⟨p, a2, s2, ⟨k2, e2⟩, hp, h2⟩ := anyPoly_run hl h1 (by omega) s1 (m := 1 + r) (by omega)
  obtain ⟨u, a3, s3, e3, _, h3⟩ := among_run hl h2 (by omega) s2 [1001, (-9223372036854775808)] (by simp) (by simp)
  obtain ⟨x, a4, s4, e4, _, h4⟩ := among_run hl h3 (by omega) s3 [0, 1, (-1), 2, 7, (-40), 1000, (-1000), u] (by simp) (by simp)
  refine ⟨p, x, ⟨k2, fun K hK => ?_⟩, hp⟩
  unfold spec_DrawScalePoly.f
  rw [e1]; simp only [bs']
  rw [hw, e2 K (by omega)]; simp only [bs']
  rw [e3]; simp only [bs']
  rw [e4]; simp only [bs']
theorem normal_j3 {l : List Int} (hl : Bytes l) {n : Nat} {a : Int} (h : St n a) (hn : n ≤ 100000) (s : Int) (x : List S51) (b : Bool) (hb : b = true → 0 < x.length) : ∃ y, (∀ K, 1 ≤ K → spec_DrawNormalPoly.j3 K x b l a s = some y) ∧ y.length = x.length := by
  by_cases c : b = true
  · obtain ⟨u, a1, s1, e1, _, h1⟩ := among_run hl h (by omega) s [1, 1001] (by simp) (by simp)
    obtain ⟨v, a2, s2, e2, _, h2⟩ := among_run hl h1 (by omega) s1 [5, 1, (-1)] (by simp) (by simp)
    refine ⟨x.set (0 : Int).toNat (⟨u, v, 0, 0⟩ : S51), fun K hK => ?_, by rw [List.length_set]⟩
    obtain ⟨K, rfl⟩ : ∃ j, K = j + 1 := ⟨K - 1, by omega⟩
    rw [spec_DrawNormalPoly.j3, if_pos c, e1]; simp only [bs']
    rw [e2]; simp only [bs']
    rw [if_pos (by have := hb c; omega)]
  · refine ⟨x, fun K hK => ?_, rfl⟩
    obtain ⟨K, rfl⟩ : ∃ j, K = j + 1 := ⟨K - 1, by omega⟩
    rw [spec_DrawNormalPoly.j3, if_neg c]
theorem normal_loop {l : List Int} (hl : Bytes l) {m : Int} (hm : m ≤ 3) {many : Int} (hmany : many ≤ 60) : ∀ (d n : Nat) (x : List S51) (a s : Int), many - (x.length : Int) ≤ d → n + d * 20 ≤ 8000 → St n a → x.length ≤ 100 - d → d ≤ 100 → ∃ y, (∀ K, 10 + 2 * d ≤ K → spec_DrawNormalPoly.l0 K m x many l a s = some y) ∧ y.length ≤ 100 := by
  intro d
  induction d with
  | zero =>
    intro n x a s hd hn ha hx hd2
    by_cases c : many > 0
    · obtain ⟨b, a1, s1, e1, h1⟩ := one_run hl ha (by omega) s (m := 16) (by omega)
      obtain ⟨y, e2, hy⟩ := normal_j3 hl h1 (by omega) s1 x b (fun _ => by omega)
      refine ⟨y, fun K hK => ?_, by omega⟩
      obtain ⟨K, rfl⟩ : ∃ j, K = j + 1 := ⟨K - 1, by omega⟩
      rw [spec_DrawNormalPoly.l0, if_neg (by omega), if_pos c, e1]; simp only [bs']
      exact e2 K (by omega)
    · obtain ⟨y, e2, hy⟩ := normal_j3 hl ha (by omega) s x false (fun h => by cases h)
      refine ⟨y, fun K hK => ?_, by omega⟩
      obtain ⟨K, rfl⟩ : ∃ j, K = j + 1 := ⟨K - 1, by omega⟩
      rw [spec_DrawNormalPoly.l0, if_neg (by omega), if_neg c]
      exact e2 K (by omega)
  | succ d ih =>
    intro n x a s hd hn ha hx hd2
    by_cases c : (x.length : Int) < many
    · obtain ⟨tc, tx, ty, tz, a1, s1, e1, ht, h1⟩ := term_run hl ha (by omega) s hm
      -- the round's second half, either way
      have half : ∀ (b : Bool) (a2 s2 : Int), St (n + 13) a2 → (b = true → 0 < x.length) → ∃ y, (∀ K, 11 + 2 * d ≤ K → spec_DrawNormalPoly.j2 K m x many (x.length : Int) b l a2 s2 tc tx ty tz = some y) ∧ y.length ≤ 100 := by
        intro b a2 s2 h2 hb
        by_cases cb : b = true
        · have hlen := hb cb
          obtain ⟨r, a3, s3, e3, r0, r1, h3⟩ := pick_run hl h2 (by omega) s2 (m := (x.length : Int)) (by omega)
          have hr : r < (x.length : Int) := by omega
          obtain ⟨c', a4, s4, e4, _, h4⟩ := among_run hl h3 (by omega) s3 [wrap64 (-((rd_T51 x r).f0)), (rd_T51 x r).f0, 0] (by simp) (by simp)
          obtain ⟨y, ey, hy⟩ := ih (n + 15) (x ++ [(⟨c', (rd_T51 x r).f1, (rd_T51 x r).f2, (rd_T51 x r).f3⟩ : S51)]) a4 s4 (by rw [List.length_append]; simp only [List.length_singleton]; omega) (by omega) h4 (by rw [List.length_append]; simp only [List.length_singleton]; omega) (by omega)
          refine ⟨y, fun K hK => ?_, hy⟩
          obtain ⟨K, rfl⟩ : ∃ j, K = j + 1 := ⟨K - 1, by omega⟩
          rw [spec_DrawNormalPoly.j2, if_pos cb, e3]; simp only [bs']
          rw [if_pos r0, if_pos hr, e4]; simp only [bs']
          rw [if_pos (by omega)]
          exact ey K (by omega)
        · obtain ⟨y, ey, hy⟩ := ih (n + 13) (x ++ [(⟨tc, tx, ty, tz⟩ : S51)]) a2 s2 (by rw [List.length_append]; simp only [List.length_singleton]; omega) (by omega) h2 (by rw [List.length_append]; simp only [List.length_singleton]; omega) (by omega)
          refine ⟨y, fun K hK => ?_, hy⟩
          obtain ⟨K, rfl⟩ : ∃ j, K = j + 1 := ⟨K - 1, by omega⟩
          rw [spec_DrawNormalPoly.j2, if_neg cb, if_pos (by omega)]
          exact ey K (by omega)
      by_cases c2 : (x.length : Int) > 0
      · obtain ⟨b, a2, s2, e2, h2⟩ := one_run hl h1 (by omega) s1 (m := 3) (by omega)
        obtain ⟨y, ey, hy⟩ := half b a2 s2 h2 (fun _ => by omega)
        refine ⟨y, fun K hK => ?_, hy⟩
        obtain ⟨K, rfl⟩ : ∃ j, K = j + 1 := ⟨K - 1, by omega⟩
        rw [spec_DrawNormalPoly.l0, if_pos c, e1 K (by omega)]; simp only [bs']
        rw [if_pos c2, e2]; simp only [bs']
        exact ey K (by omega)
      · obtain ⟨y, ey, hy⟩ := half false a1 s1 ⟨h1.1, by have := h1.2; omega⟩ (fun h => by cases h)
        refine ⟨y, fun K hK => ?_, hy⟩
        obtain ⟨K, rfl⟩ : ∃ j, K = j + 1 := ⟨K - 1, by omega⟩
        rw [spec_DrawNormalPoly.l0, if_pos c, e1 K (by omega)]; simp only [bs']
        rw [if_neg c2]
        exact ey K (by omega)
    · obtain ⟨y, ey, hy⟩ := ih n x a s (by omega) (by omega) ha (by omega) (by omega)
      exact ⟨y, fun K hK => ey K (by omega), hy⟩
theorem drawNormal {l : List Int} (hl : Bytes l) : ∃ y, (∃ k, ∀ K, k ≤ K → spec_DrawNormalPoly.f K l = some y) ∧ y.length ≤ 100 := by
  obtain ⟨r, a1, s1, e1, r0, r1, h1⟩ := pick_run hl st0 (by omega) 0 (m := 3) (by omega)
  have hw : wrap64 (1 + r) = 1 + r := w64 (by omega) (by omega)
  obtain ⟨g, a2, s2, e2, g0, g1, h2⟩ := pick_run hl h1 (by omega) s1 (m := 8) (by omega)
  obtain ⟨b, a3, s3, e3, h3⟩ := one_run hl h2 (by omega) s2 (m := 16) (by omega)
  by_cases hb : b = true
  · obtain ⟨u, a4, s4, e4, u0, u1, h4⟩ := pick_run hl h3 (by omega) s3 (m := 2) (by omega)
    have hw2 : wrap64 (40 + u) = 40 + u := w64 (by omega) (by omega)
    obtain ⟨y, ey, hy⟩ := normal_loop hl (m := 1 + r) (by omega) (many := 40 + u) (by omega) 50 4 [] a4 s4 (by simp only [List.length_nil]; omega) (by omega) h4 (by simp) (by omega)
    refine ⟨y, ⟨200, fun K hK => ?_⟩, hy⟩
    unfold spec_DrawNormalPoly.f
    rw [e1]; simp only [bs']
    rw [e2]; simp only [bs']
    rw [e3]; simp only [bs']
    rw [if_pos hb, e4]; simp only [bs']
    obtain ⟨K, rfl⟩ : ∃ j, K = j + 1 := ⟨K - 1, by omega⟩
    rw [hw, hw2, spec_DrawNormalPoly.j0]
    exact ey K (by omega)
  · obtain ⟨y, ey, hy⟩ := normal_loop hl (m := 1 + r) (by omega) (many := g) (by omega) 50 3 [] a3 s3 (by simp only [List.length_nil]; omega) (by omega) h3 (by simp) (by omega)
    refine ⟨y, ⟨200, fun K hK => ?_⟩, hy⟩
    unfold spec_DrawNormalPoly.f
    rw [e1]; simp only [bs']
    rw [e2]; simp only [bs']
    rw [e3]; simp only [bs']
    rw [if_neg hb]
    obtain ⟨K, rfl⟩ : ∃ j, K = j + 1 := ⟨K - 1, by omega⟩
    rw [hw, spec_DrawNormalPoly.j0]
    exact ey K (by omega)
/-! ### a list brought into its form once more -/
theorem runN_true {l : List S51} {r : List S51 × Bool} : ∀ {n i : Nat}, (runN l r n i).2 = true → runN l r n i = r
  | 0, _, _ => rfl
  | n + 1, i, h => by
    unfold runN at h ⊢
    split at h
    · rename_i c; rw [if_pos c]; exact runN_true h
    · cases h
theorem runN_all {l : List S51} {r : List S51 × Bool} (ha : ∀ t ∈ l, okN t = true) : ∀ (n i : Nat), i + n = l.length → runN l r n i = r
  | 0, _, _ => rfl
  | n + 1, i, h => by
    unfold runN
    rw [if_pos (ha _ (getD_mem (by omega)))]
    exact runN_all ha n (i + 1) (by omega)
theorem norm_again {l : List S51} (h : (normR l).2 = true) : goodT (normR l).1 = true ∧ normR (normR l).1 = ((normR l).1, true) := by
  have e : normR l = (sums O l, true) ∧ goodT (sums O l) = true := by
    unfold normR at h ⊢
    by_cases c : l.length ≤ 40
    · rw [if_pos c] at h ⊢
      have h1 := runN_true h
      rw [h1] at h ⊢
      exact resT_true h
    · rw [if_neg c] at h; cases h
  rw [congrArg Prod.fst e.1]
  have g := e.2
  show goodT (sums O l) = true ∧ normR (sums O l) = (sums O l, true)
  refine ⟨g, ?_⟩
  have hl := (goodT_ok g).1
  unfold normR
  rw [if_pos (by omega), runN_all (fun t ht => by
    have := okT_iff.1 (good_mem g t ht)
    unfold okN; rw [decide_eq_true_iff]; omega) _ 0 (by omega)]
  unfold resT
  rw [sums_self (good_nf g), if_pos g]
theorem normR_len (l : List S51) : (normR l).1.length ≤ 20 := by
  unfold normR
  split
  · exact runN_len l _ (resT_len l) _ _
  · simp
theorem FnPolynomials (l0 l1 : List Int) (w0 : l0.length ≤ maxLen ∧ ∀ y ∈ l0, (Lit.int .u8 y).wf = true) (w1 : l1.length ≤ maxLen ∧ ∀ y ∈ l1, (Lit.int .u8 y).wf = true) : ∃ k, laws_FnPolynomials.ok k l0 l1 true := by
  have b0 : Bytes l0 := ⟨fun y hy => wf_u8 (w0.2 y hy), w0.1⟩
  have b1 : Bytes l1 := ⟨fun y hy => wf_u8 (w1.2 y hy), w1.1⟩
  obtain ⟨g, hg⟩ : ∃ g, laws_big.f l0 l1 = some g := by
    unfold laws_big.f
    by_cases c : (l0.length : Int) > 1048576
    · rw [if_pos c]; exact ⟨_, rfl⟩
    · rw [if_neg c]; exact ⟨_, rfl⟩
  cases g with
  | true => exact ⟨0, rfl, .inl hg⟩
  | false =>
    obtain ⟨p, q, ⟨kd, ed⟩, hp, hq⟩ := drawAdd b0
    obtain ⟨l, ⟨kn, en⟩, hl⟩ := drawNormal b1
    obtain ⟨u, kk, ⟨kv, ev⟩, hu⟩ := drawDerive b1
    obtain ⟨v, x, ⟨ks, es⟩, hv⟩ := drawScale b1
    have ls : (addR p q).1.length ≤ 20 := r_len
    have lm : (mulR p q).1.length ≤ 20 := r_len
    have ln := normR_len l
    have ld : (derR u kk).1.length ≤ 20 := r_len
    have lt : (scaleR v x).1.length ≤ 20 := r_len
    have lg : (ng q).length ≤ 50 := by unfold ng; rw [List.length_map]; exact hq
    obtain ⟨n1, e1⟩ := add_ev (l := p) (m := q) (by omega) (by omega)
    obtain ⟨n2, e2⟩ := mul_ev (l := p) (m := q) (by omega) (by omega)
    obtain ⟨n3, e3⟩ := same_ev (l := (addR p q).1) (by omega)
    obtain ⟨n4, e4⟩ := same_ev (l := (mulR p q).1) (by omega)
    obtain ⟨n5, e5⟩ := add_ev (l := q) (m := p) (by omega) (by omega)
    obtain ⟨n6, e6⟩ := scale_ev (l := q) (by omega) (-1)
    obtain ⟨n7, e7⟩ := add_ev (l := (addR p q).1) (m := ng q) (by omega) (by omega)
    obtain ⟨n8, e8⟩ := same_ev (l := p) (by omega)
    obtain ⟨n9, e9⟩ := isPoly_ev (l := (addR p q).1) (by omega)
    dsimp only at e9
    obtain ⟨n10, e10⟩ := mul_ev (l := q) (m := p) (by omega) (by omega)
    obtain ⟨n11, e11⟩ := norm_ev l
    obtain ⟨n12, e12⟩ := same_ev (l := (normR l).1) (by omega)
    obtain ⟨n13, e13⟩ := norm_ev (normR l).1
    obtain ⟨n14, e14⟩ := der_ev (l := u) (by omega) kk
    obtain ⟨n15, e15⟩ := same_ev (l := (derR u kk).1) (by omega)
    obtain ⟨n16, e16⟩ := scale_ev (l := v) (by omega) x
    obtain ⟨n17, e17⟩ := same_ev (l := (scaleR v x).1) (by omega)
    obtain ⟨n18, e18⟩ : ∃ n, ∀ K, n ≤ K → (mulR p q).2 = true → ∀ k : Int, 0 ≤ k → k < 3 → laws_FnPolynomials.rule K p q (mulR p q).1 k := by
      by_cases hb : (mulR p q).2 = true
      · obtain ⟨i0, f0⟩ := rule_ok hb (k := 0) (by omega)
        obtain ⟨i1, f1⟩ := rule_ok hb (k := 1) (by omega)
        obtain ⟨i2, f2⟩ := rule_ok hb (k := 2) (by omega)
        refine ⟨i0 + i1 + i2, fun K hK _ k h0 h3 => ?_⟩
        have hc : k = 0 ∨ k = 1 ∨ k = 2 := by omega
        rcases hc with rfl | rfl | rfl
        · exact f0 K (by omega)
        · exact f1 K (by omega)
        · exact f2 K (by omega)
      · exact ⟨0, fun K _ h => absurd h hb⟩
    obtain ⟨K, hK⟩ : ∃ K, K = kd + kn + kv + ks + n1 + n2 + n3 + n4 + n5 + n6 + n7 + n8 + n9 + n10 + n11 + n12 + n13 + n14 + n15 + n16 + n17 + n18 := ⟨_, rfl⟩
    refine ⟨K, rfl, .inr ⟨hg, p, q, (addR p q).1, (mulR p q).1, l, (normR l).1, (normR (normR l).1).1, u, (derR u kk).1, v, (scaleR v x).1, kk, x, (addR p q).2, (mulR p q).2, (normR l).2, (normR (normR l).1).2, (derR u kk).2, (scaleR v x).2, ?_, ?_, ?_, ?_, ?_, ?_⟩⟩
    · exact ⟨ed K (by omega), (e1 K (by omega)).2, (e1 K (by omega)).1, (e2 K (by omega)).2, (e2 K (by omega)).1, e3 K (by omega), e4 K (by omega)⟩
    · refine ⟨ng q, fun h => ?_, fun h => ?_, fun h => ?_, fun _ => e8 K (by omega), fun h => ?_⟩
      · obtain ⟨gp, gq, ea, gs⟩ := addR_true h
        have hs : sums O (q ++ p) = sums O (p ++ q) := sums_perm (List.perm_append_comm) (app_Wr (good_Wr gp) (good_Wr gq))
        have : addR q p = (sums O (p ++ q), true) := by
          unfold addR resT
          rw [if_pos ⟨gq, gp⟩, hs, if_pos gs]
        rw [(e5 K (by omega)).2, this, congrArg Prod.fst ea]
      · obtain ⟨gp, gq, ea, gs⟩ := addR_true h
        have : scaleR q (-1) = (ng q, true) := by
          unfold scaleR resT
          rw [if_pos ⟨gq, by omega⟩, ng_prods (good_mem gq), sums_self (good_nf (ng_good gq)), if_pos (ng_good gq)]
        rw [(e6 K (by omega)).2, this]
      · obtain ⟨gp, gq, ea, gs⟩ := addR_true h
        have : addR (addR p q).1 (ng q) = (p, true) := by
          rw [congrArg Prod.fst ea]
          unfold addR resT
          rw [if_pos ⟨gs, ng_good gq⟩, back gp gq, if_pos gp]
        rw [(e7 K (by omega)).2, this]
      · obtain ⟨gp, gq, ea, gs⟩ := addR_true h
        unfold impl_IsPoly.f
        rw [e9 K (by omega), congrArg Prod.fst ea, gs]; simp only [bs']
    · refine ⟨fun h => ?_, fun h => e18 K (by omega) h⟩
      obtain ⟨gp, gq, ea, gs⟩ := mulR_true h
      have hs : sums O (prods q p) = sums O (prods p q) := sums_of_eqv (prods_Wr _ _) (prods_Wr _ _) (fun s => cong.of_eq (prods_comm p s q))
      have : mulR q p = (sums O (prods p q), true) := by
        unfold mulR resT
        rw [if_pos ⟨gq, gp⟩, hs, if_pos gs]
      rw [(e10 K (by omega)).2, this, congrArg Prod.fst ea]
    · refine ⟨en K (by omega), (e11 K (by omega)).2, (e11 K (by omega)).1, e12 K (by omega), fun _ => (e13 K (by omega)).2, fun h _ => ?_⟩
      obtain ⟨_, e⟩ := norm_again h
      exact ⟨congrArg Prod.snd e, by rw [e]; exact e12 K (by omega)⟩
    · exact ⟨ev K (by omega), (e14 K (by omega)).2, (e14 K (by omega)).1, e15 K (by omega)⟩
    · exact ⟨es K (by omega), (e16 K (by omega)).2, (e16 K (by omega)).1, e17 K (by omega)⟩
end Go.Proofs.Ythanmlojikidbaa.Pure
