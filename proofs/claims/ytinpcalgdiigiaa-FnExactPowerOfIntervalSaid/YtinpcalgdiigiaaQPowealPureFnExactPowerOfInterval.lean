import Derived.Test.YtinpcalgdiigiaaQPowealPDx1
import Derived.Test.YtinpcalgdiigiaaQPowealMo
/- FnExactPowerOfInterval, told over numbers alone: the law's printed function answers true. -/
namespace Go.Proofs.Ytinpcalgdiigiaa.Pure
open Go.RowKit Go.Proofs.Ytinpcalgdiigiaa.PD Go.Proofs.YtinpcalgdiigiaaW.PrintWords Go.Proofs.YtinpcalgdiigiaaW.PrintLast Go.Proofs.YtinpcalgdiigiaaW.PrintMore
theorem rs_val {a j : Int} (ga : good a j = true) (d : Nat) (h : (rs a j (d + 1) (a, j, true)).2.2 = true) : (rs a j d (a, j, true)).2.2 = true ∧ w (pp (rs a j (d + 1) (a, j, true))) * 16777216 = w (pp (rs a j d (a, j, true))) * v a j := by
  rw [rs_succ] at h ⊢
  have gr : G (pp (rs a j d (a, j, true))) := rs_good d _ ga
  generalize rs a j d (a, j, true) = r at *
  unfold stp at *
  by_cases c : r.2.2 = true
  · rw [if_pos c] at h ⊢
    exact ⟨c, pz_val gr ga h⟩
  · rw [if_neg c] at h; simp at h
theorem square (x : Int) : 0 ≤ x * x := by
  rcases Int.lt_or_le x 0 with h | h
  · have := Int.mul_nonneg (show 0 ≤ -x by omega) (show 0 ≤ -x by omega)
    rw [Int.neg_mul_neg] at this; exact this
  · exact Int.mul_nonneg h h
theorem even_pos {a j : Int} (ga : good a j = true) {n : Nat} (hn : n = 2 ∨ n = 4) (h : (rs a j (n - 1) (a, j, true)).2.2 = true) : 0 ≤ w (pp (rs a j (n - 1) (a, j, true))) := by
  rcases hn with hn | hn
  · subst hn
    obtain ⟨_, e1⟩ := rs_val ga 0 h
    have e0 : w (pp (rs a j 0 (a, j, true))) = v a j := rfl
    rw [e0] at e1
    have := square (v a j)
    show 0 ≤ w (pp (rs a j (0 + 1) (a, j, true)))
    omega
  · subst hn
    obtain ⟨o2, e3⟩ := rs_val ga 2 h
    obtain ⟨o1, e2⟩ := rs_val ga 1 o2
    obtain ⟨_, e1⟩ := rs_val ga 0 o1
    have e0 : w (pp (rs a j 0 (a, j, true))) = v a j := rfl
    rw [e0] at e1
    show 0 ≤ w (pp (rs a j (2 + 1) (a, j, true)))
    generalize w (pp (rs a j (2 + 1) (a, j, true))) = w3 at *
    generalize w (pp (rs a j (1 + 1) (a, j, true))) = w2 at *
    generalize w (pp (rs a j (0 + 1) (a, j, true))) = w1 at *
    have q1 : 0 ≤ w1 := by have := square (v a j); omega
    have q3 : w3 * 16777216 * 16777216 = w1 * (v a j * v a j) := by rw [e3]; grind
    have q4 := Int.mul_nonneg q1 (square (v a j))
    omega
theorem cube_mono {x y : Int} (h : x ≤ y) : x * x * x ≤ y * y * y := by
  have e : y * y * y - x * x * x = (y - x) * (y * y + x * y + x * x) := by grind
  have e2 : 2 * (y * y + x * y + x * x) = (x + y) * (x + y) + x * x + y * y := by grind
  have := square (x + y)
  have := square x
  have := square y
  have := Int.mul_nonneg (show 0 ≤ y - x by omega) (show 0 ≤ y * y + x * y + x * x by omega)
  omega
theorem odd_le {a j b k : Int} (ga : good a j = true) (gb : good b k = true) (h : v a j ≤ v b k) {n : Nat} (hn : n = 1 ∨ n = 3) (h1 : (rs a j (n - 1) (a, j, true)).2.2 = true) (h2 : (rs b k (n - 1) (b, k, true)).2.2 = true) :
    w (pp (rs a j (n - 1) (a, j, true))) ≤ w (pp (rs b k (n - 1) (b, k, true))) := by
  rcases hn with hn | hn
  · subst hn; exact h
  · subst hn
    obtain ⟨o1, e2⟩ := rs_val ga 1 h1
    obtain ⟨_, e1⟩ := rs_val ga 0 o1
    obtain ⟨p1, f2⟩ := rs_val gb 1 h2
    obtain ⟨_, f1⟩ := rs_val gb 0 p1
    have e0 : w (pp (rs a j 0 (a, j, true))) = v a j := rfl
    have f0 : w (pp (rs b k 0 (b, k, true))) = v b k := rfl
    rw [e0] at e1
    rw [f0] at f1
    show w (pp (rs a j (1 + 1) (a, j, true))) ≤ w (pp (rs b k (1 + 1) (b, k, true)))
    generalize w (pp (rs a j (1 + 1) (a, j, true))) = w2 at *
    generalize w (pp (rs a j (0 + 1) (a, j, true))) = w1 at *
    generalize w (pp (rs b k (1 + 1) (b, k, true))) = u2 at *
    generalize w (pp (rs b k (0 + 1) (b, k, true))) = u1 at *
    have q1 : w2 * 16777216 * 16777216 = v a j * v a j * v a j := by rw [e2, ← e1]; grind
    have q2 : u2 * 16777216 * 16777216 = v b k * v b k * v b k := by rw [f2, ← f1]; grind
    have := cube_mono h
    omega
theorem FnExactPowerOfInterval (a0_0 a0_1 a0_2 a0_3 a1 : Int) (_w0_0 : (Lit.int .i64 a0_0).wf = true) (_w0_1 : (Lit.int .i64 a0_1).wf = true) (_w0_2 : (Lit.int .i64 a0_2).wf = true) (_w0_3 : (Lit.int .i64 a0_3).wf = true) (_w1 : (Lit.int .i64 a1).wf = true) : ∃ k, laws_FnExactPowerOfInterval.f k a0_0 a0_1 a0_2 a0_3 a1 = some true := by
  have e16 : ((16 : Nat) : Int) = 16 := rfl
  have h : ∃ r, Ev (fun K => spec_PowerOfInterval.f K a0_0 a0_1 a0_2 a0_3 a1) r ∧ Ev (fun K => impl_PowerOfInterval.f K a0_0 a0_1 a0_2 a0_3 a1) r := by
    obtain ⟨K0, h0⟩ := ivGood_ev a0_0 a0_1 a0_2 a0_3
    obtain ⟨K1, h1⟩ := isInterval_ev a0_0 a0_1 a0_2 a0_3
    dsimp only at h0 h1
    by_cases g : goodI a0_0 a0_1 a0_2 a0_3 = true
    · by_cases g' : 0 ≤ a1 ∧ a1 ≤ 4
      · obtain ⟨p0, p1, p2⟩ := goodI_iff.1 g
        obtain ⟨n, rfl⟩ := Int.eq_ofNat_of_zero_le g'.1
        have main : ∃ r, Ev (fun K => spec_ivPower.f K a0_0 a0_1 a0_2 a0_3 (n : Int)) r ∧ ∃ x y z t ok, Ev (fun K => impl_reckoner_power.f K true a0_0 a0_1 a0_2 a0_3 (n : Int)) (x, y, z, t, ok) ∧ r = if ok = true then (x, y, z, t, true) else (0, 0, 0, 0, false) := by
          obtain ⟨K2, h2⟩ := ivRaise_ev p0 n (by omega)
          obtain ⟨K3, h3⟩ := ivRaise_ev p1 n (by omega)
          dsimp only at h2 h3
          by_cases n0 : n = 0
          · subst n0
            obtain ⟨K4, h4⟩ := ivEnds_ev ⟨1, 0⟩ [⟨1, 0⟩] (by simp) (by
              intro y hy; simp only [List.mem_cons, List.mem_nil_iff, or_false] at hy
              rcases hy with rfl | rfl <;> exact one_good)
            obtain ⟨K5, h5⟩ := ivRound_ev one_good one_good (p := 16) (by omega)
            dsimp only at h4 h5
            rw [e16] at h5
            refine ⟨(1, 0, 1, 0, true), ⟨K2 + K3 + K4 + K5 + 2, fun K hK => ?_⟩, 1, 0, 1, 0, true, ⟨0, fun K _ => ?_⟩, by rw [if_pos rfl]⟩
            · obtain ⟨K, rfl⟩ : ∃ j, K = j + 1 + 1 := ⟨K - 2, by omega⟩
              dsimp only; unfold spec_ivPower.f
              rw [h2 (K + 1 + 1) (by omega)]; simp only [bs]
              rw [h3 (K + 1 + 1) (by omega)]; simp only [bs, rs, if_true, Bool.not_true]
              simp only [spec_ivPower.j0]
              rw [if_neg (by decide)]; simp only [bs]
              rw [if_neg (show ¬ ((0 : Nat) : Int) > 0 by omega)]
              simp only [spec_ivPower.j1]
              rw [if_neg (by decide), h4 K (by omega)]; simp only [bs]
              have h5' := h5 K (by omega)
              have e1 : lo (pr ⟨1, 0⟩) [⟨1, 0⟩] = (1, 0) := by decide
              have e2 : hi (pr ⟨1, 0⟩) [⟨1, 0⟩] = (1, 0) := by decide
              rw [e1, e2, h5']; simp only [bs]
              have e3 : rndI 1 0 1 0 16 = (1, 0, 1, 0) := by decide
              rw [e3]
            · dsimp only; unfold impl_reckoner_power.f impl_integer.f impl_single.f
              rw [if_pos (show ((0 : Nat) : Int) = 0 from rfl)]; rfl
          · have en : ∀ a j : Int, good a j = true → rs a j n (1, 0, true) = rs a j (n - 1) (a, j, true) := by
              intro a j ga
              obtain ⟨m, rfl⟩ : ∃ m, n = m + 1 := ⟨n - 1, by omega⟩
              show rs a j m (pz 1 0 a j) = _
              rw [pz_one ga]; rfl
            rw [en _ _ p0] at h2
            rw [en _ _ p1] at h3
            have gP : G (pp (rs a0_0 a0_1 (n - 1) (a0_0, a0_1, true))) := rs_good _ _ p0
            have gQ : G (pp (rs a0_2 a0_3 (n - 1) (a0_2, a0_3, true))) := rs_good _ _ p1
            obtain ⟨ok, p', q', gp', gq', hok, hval, hev⟩ := pow_l0 p0 p1 n (by omega) (n - 1) 0 true (a0_0, a0_1) (a0_2, a0_3) (by omega) p0 p1
            obtain ⟨K4, h4⟩ := hev _ (pow_tail n ok gp' gq')
            dsimp only at h4
            have himpl : Ev (fun K => impl_reckoner_power.f K true a0_0 a0_1 a0_2 a0_3 (n : Int)) ((tl n a0_0 a0_2 p' q').1, (tl n a0_0 a0_2 p' q').2.1, (tl n a0_0 a0_2 p' q').2.2.1, (tl n a0_0 a0_2 p' q').2.2.2, ok) := by
              refine ⟨K4, fun K hK => ?_⟩
              dsimp only; unfold impl_reckoner_power.f
              rw [if_neg (by omega), w64 (by omega) (by omega)]
              exact h4 K hK
            refine ⟨if ok = true then ((tl n a0_0 a0_2 p' q').1, (tl n a0_0 a0_2 p' q').2.1, (tl n a0_0 a0_2 p' q').2.2.1, (tl n a0_0 a0_2 p' q').2.2.2, true) else (0, 0, 0, 0, false), ?_, _, _, _, _, ok, himpl, rfl⟩
            by_cases c : ok = true
            · rw [if_pos c]
              obtain ⟨_, o1, o2⟩ := hok.1 c
              obtain ⟨v1, v2⟩ := hval c
              dsimp only at o1 o2 v1 v2
              rw [v1, v2]
              have ev := fun x => even_pos p0 (n := n) x o1
              have ev' := fun x => even_pos p1 (n := n) x o2
              have od := fun x => odd_le p0 p1 p2 (n := n) x o1 o2
              generalize rs a0_0 a0_1 (n - 1) (a0_0, a0_1, true) = P at *
              generalize rs a0_2 a0_3 (n - 1) (a0_2, a0_3, true) = Q at *
              have hm : Int.tmod (n : Int) 2 = 0 ↔ n % 2 = 0 := by rw [tmod_two]; omega
              have two : ∀ T : Int × Int × Int × Int, rndI (mn2 (pp P) (pp Q)).1 (mn2 (pp P) (pp Q)).2 (mx2 (pp P) (pp Q)).1 (mx2 (pp P) (pp Q)).2 16 = T → Ev (fun K => spec_ivPower.j1 K [⟨P.1, P.2.1⟩, ⟨Q.1, Q.2.1⟩] false) (T.1, T.2.1, T.2.2.1, T.2.2.2, true) := by
                intro T hT
                obtain ⟨K5, h5⟩ := ivEnds_ev ⟨P.1, P.2.1⟩ [⟨Q.1, Q.2.1⟩] (by simp) (by
                  intro y hy; simp only [List.mem_cons, List.mem_nil_iff, or_false] at hy
                  rcases hy with rfl | rfl <;> assumption)
                obtain ⟨K6, h6⟩ := ivRound_ev (G_mn2 gP gQ) (G_mx2 gP gQ) (p := 16) (by omega)
                dsimp only at h5 h6
                rw [hT, e16] at h6
                refine ⟨K5 + K6 + 1, fun K hK => ?_⟩
                obtain ⟨K, rfl⟩ : ∃ j, K = j + 1 := ⟨K - 1, by omega⟩
                simp only [spec_ivPower.j1]
                rw [if_neg (by decide), h5 K (by omega)]; simp only [bs]
                have h6' := h6 K (by omega)
                exact (congrArg (fun z => Option.bind z _) h6').trans (bs _ _)
              have spec : ∀ (t : Bool) (r : Int × Int × Int × Int × Bool), (t = true ↔ n % 2 = 0 ∧ a0_0 ≤ 0 ∧ 0 ≤ a0_2) → Ev (fun K => spec_ivPower.j1 K [⟨P.1, P.2.1⟩, ⟨Q.1, Q.2.1⟩] t) r → Ev (fun K => spec_ivPower.f K a0_0 a0_1 a0_2 a0_3 (n : Int)) r := by
                intro t r ht hr
                obtain ⟨K5, h5⟩ := hr
                dsimp only at h5
                refine ⟨K2 + K3 + K5 + 2, fun K hK => ?_⟩
                obtain ⟨K, rfl⟩ : ∃ j, K = j + 1 + 1 := ⟨K - 2, by omega⟩
                dsimp only; unfold spec_ivPower.f
                rw [h2 (K + 1 + 1) (by omega)]; simp only [bs]
                rw [h3 (K + 1 + 1) (by omega)]; simp only [bs]
                rw [if_pos o1, o2]
                simp only [spec_ivPower.j0]
                rw [if_neg (by decide)]; simp only [bs]
                rw [if_pos (by omega)]
                by_cases c1 : n % 2 = 0
                · rw [if_pos (hm.2 c1)]
                  unfold spec_ivZero.f
                  by_cases c2 : a0_0 ≤ 0
                  · rw [if_pos c2]; simp only [bs]
                    have : decide (a0_2 ≥ 0) = t := by
                      cases t with
                      | true => exact decide_eq_true (ht.1 rfl).2.2
                      | false => exact decide_eq_false (fun x => by have := ht.2 ⟨c1, c2, x⟩; simp at this)
                    rw [this]; exact h5 (K + 1) (by omega)
                  · rw [if_neg c2]; simp only [bs]
                    have : t = false := by
                      cases t with
                      | true => exact absurd (ht.1 rfl).2.1 c2
                      | false => rfl
                    rw [← this]; exact h5 (K + 1) (by omega)
                · rw [if_neg (fun x => c1 (hm.1 x))]
                  have : t = false := by
                    cases t with
                    | true => exact absurd (ht.1 rfl).1 c1
                    | false => rfl
                  rw [← this]; exact h5 (K + 1) (by omega)
              by_cases c1 : n % 2 = 0
              · have hn24 : n = 2 ∨ n = 4 := by omega
                have e1 := ev hn24
                have e2 := ev' hn24
                by_cases c2 : a0_0 ≤ 0 ∧ 0 ≤ a0_2
                · refine spec true _ ⟨fun _ => ⟨c1, c2⟩, fun _ => rfl⟩ ?_
                  obtain ⟨K5, h5⟩ := ivEnds_ev ⟨P.1, P.2.1⟩ [⟨Q.1, Q.2.1⟩, ⟨0, 0⟩] (by simp) (by
                    intro y hy; simp only [List.mem_cons, List.mem_nil_iff, or_false] at hy
                    rcases hy with rfl | rfl | rfl
                    · exact gP
                    · exact gQ
                    · exact zero_good)
                  have gz : G (0, 0) := zero_good
                  have wz : w ((0, 0) : Int × Int) = 0 := by decide
                  have el : lo (pr ⟨P.1, P.2.1⟩) [⟨Q.1, Q.2.1⟩, ⟨0, 0⟩] = (0, 0) := by
                    show mn2 (mn2 (pp P) (pp Q)) (0, 0) = (0, 0)
                    refine w_inj (G_mn2 (G_mn2 gP gQ) gz) gz ?_
                    rw [w_mn2, w_mn2, wz]; omega
                  have eh : hi (pr ⟨P.1, P.2.1⟩) [⟨Q.1, Q.2.1⟩, ⟨0, 0⟩] = mx2 (pp P) (pp Q) := by
                    show mx2 (mx2 (pp P) (pp Q)) (0, 0) = _
                    refine w_inj (G_mx2 (G_mx2 gP gQ) gz) (G_mx2 gP gQ) ?_
                    rw [w_mx2, w_mx2, wz]; omega
                  rw [el, eh] at h5
                  obtain ⟨K6, h6⟩ := ivRound_ev zero_good (G_mx2 gP gQ) (p := 16) (by omega)
                  dsimp only at h5 h6
                  rw [e16] at h6
                  have et : tl n a0_0 a0_2 (pp P) (pp Q) = rndI 0 0 (mx2 (pp P) (pp Q)).1 (mx2 (pp P) (pp Q)).2 16 := by unfold tl; rw [if_pos c1, if_pos c2]
                  rw [et]
                  refine ⟨K5 + K6 + 1, fun K hK => ?_⟩
                  obtain ⟨K, rfl⟩ : ∃ j, K = j + 1 := ⟨K - 1, by omega⟩
                  simp only [spec_ivPower.j1]
                  rw [if_pos trivial]
                  unfold spec_dyInt.f; simp only [bs]
                  rw [if_pos (by simp)]
                  have := h5 K (by omega)
                  rw [show ([⟨P.1, P.2.1⟩, ⟨Q.1, Q.2.1⟩] ++ [⟨0, 0⟩] : List S27) = [⟨P.1, P.2.1⟩, ⟨Q.1, Q.2.1⟩, ⟨0, 0⟩] from rfl, this]; simp only [bs]
                  rw [h6 K (by omega)]; simp only [bs]
                · refine spec false _ ⟨fun x => by simp at x, fun x => absurd x.2 c2⟩ ?_
                  have et : tl n a0_0 a0_2 (pp P) (pp Q) = rndI (mn2 (pp P) (pp Q)).1 (mn2 (pp P) (pp Q)).2 (mx2 (pp P) (pp Q)).1 (mx2 (pp P) (pp Q)).2 16 := by unfold tl; rw [if_pos c1, if_neg c2]
                  rw [et]
                  exact two _ rfl
              · have hn13 : n = 1 ∨ n = 3 := by omega
                have e1 := od hn13
                refine spec false _ ⟨fun x => by simp at x, fun x => absurd x.1 c1⟩ ?_
                have et : tl n a0_0 a0_2 (pp P) (pp Q) = rndI (pp P).1 (pp P).2 (pp Q).1 (pp Q).2 16 := by unfold tl; rw [if_neg c1]
                rw [et]
                refine two _ ?_
                have m1 : mn2 (pp P) (pp Q) = pp P := w_inj (G_mn2 gP gQ) gP (by rw [w_mn2]; omega)
                have m2 : mx2 (pp P) (pp Q) = pp Q := w_inj (G_mx2 gP gQ) gQ (by rw [w_mx2]; omega)
                rw [m1, m2]
            · rw [if_neg c]
              have no : ¬ ((rs a0_0 a0_1 (n - 1) (a0_0, a0_1, true)).2.2 = true ∧ (rs a0_2 a0_3 (n - 1) (a0_2, a0_3, true)).2.2 = true) := fun x => c (hok.2 ⟨rfl, x.1, x.2⟩)
              generalize rs a0_0 a0_1 (n - 1) (a0_0, a0_1, true) = P at *
              generalize rs a0_2 a0_3 (n - 1) (a0_2, a0_3, true) = Q at *
              refine ⟨K2 + K3 + 1, fun K hK => ?_⟩
              obtain ⟨K, rfl⟩ : ∃ j, K = j + 1 := ⟨K - 1, by omega⟩
              dsimp only; unfold spec_ivPower.f
              rw [h2 (K + 1) (by omega)]; simp only [bs]
              rw [h3 (K + 1) (by omega)]; simp only [bs]
              by_cases c1 : P.2.2 = true
              · rw [if_pos c1, Bool.eq_false_iff.2 (fun x => no ⟨c1, x⟩)]
                simp only [spec_ivPower.j0, Bool.not_false, if_true]
              · rw [if_neg c1]
                simp only [spec_ivPower.j0, if_true]
        obtain ⟨r, ⟨K2, h2⟩, x, y, z, t, ok, ⟨K3, h3⟩, hr⟩ := main
        dsimp only at h2 h3
        refine ⟨r, ⟨K0 + K2, fun K hK => ?_⟩, ⟨K1 + K3 + 1, fun K hK => ?_⟩⟩
        · dsimp only; unfold spec_PowerOfInterval.f
          rw [h0 K (by omega), g]; simp only [bs, if_true]
          rw [l1In_eq, decide_eq_true g']; simp only [bs, if_true]
          rw [h2 K (by omega)]; rfl
        · obtain ⟨K, rfl⟩ : ∃ j, K = j + 1 := ⟨K - 1, by omega⟩
          dsimp only; unfold impl_PowerOfInterval.f
          rw [h1 (K + 1) (by omega), g]; simp only [bs, if_true]
          rw [inside_eq, decide_eq_true g']; simp only [bs, Bool.not_true]
          simp only [impl_PowerOfInterval.j0]
          rw [if_neg (by decide), h3 K (by omega)]; simp only [bs]
          rw [result_eq, hr]; simp only [bs]
          cases ok <;> rfl
      · refine ⟨(0, 0, 0, 0, false), ⟨K0, fun K hK => ?_⟩, ⟨K1 + 1, fun K hK => ?_⟩⟩
        · dsimp only; unfold spec_PowerOfInterval.f
          rw [h0 K hK, g]; simp only [bs, if_true]
          rw [l1In_eq, decide_eq_false g']; rfl
        · obtain ⟨K, rfl⟩ : ∃ j, K = j + 1 := ⟨K - 1, by omega⟩
          dsimp only; unfold impl_PowerOfInterval.f
          rw [h1 (K + 1) (by omega), g]; simp only [bs, if_true]
          rw [inside_eq, decide_eq_false g']; simp only [bs, Bool.not_false]
          simp only [impl_PowerOfInterval.j0, if_true]
    · refine ⟨(0, 0, 0, 0, false), ⟨K0, fun K hK => ?_⟩, ⟨K1 + 1, fun K hK => ?_⟩⟩
      · dsimp only; unfold spec_PowerOfInterval.f
        rw [h0 K hK, Bool.eq_false_iff.2 g]; rfl
      · obtain ⟨K, rfl⟩ : ∃ j, K = j + 1 := ⟨K - 1, by omega⟩
        dsimp only; unfold impl_PowerOfInterval.f
        rw [h1 (K + 1) (by omega), Bool.eq_false_iff.2 g]; simp only [bs, Bool.false_eq_true, if_false]
        simp only [impl_PowerOfInterval.j0, if_true]
  obtain ⟨r, h0, h1⟩ := h
  unfold laws_FnExactPowerOfInterval.f
  rw [toInterval_eq]; simp only [bs]
  exact law_v h0 h1
end Go.Proofs.Ytinpcalgdiigiaa.Pure
