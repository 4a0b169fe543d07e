import Derived.Test.YtinpcalgdiigiaaQMultlsPDx1
import Derived.Test.YtinpcalgdiigiaaQMultlsMh
import Derived.Test.YtinpcalgdiigiaaQMultlsMi
import Derived.Test.YtinpcalgdiigiaaQMultlsMj
/- Products of intervals: lemmas on the printed functions. -/
namespace Go.Proofs.Ytinpcalgdiigiaa.PD
open Go.RowKit Go.Proofs.YtinpcalgdiigiaaW.PrintWords Go.Proofs.YtinpcalgdiigiaaW.PrintLast Go.Proofs.YtinpcalgdiigiaaW.PrintMore
theorem mk_good (n : Int) (k : Nat) : G ((mk n k).1, (mk n k).2.1) := by
  unfold G mk
  by_cases h : n = 0
  · rw [if_pos h]; decide
  · rw [if_neg h]; unfold fin
    by_cases g : good (redN k n).1 ((redN k n).2 : Int) = true
    · rw [if_pos g]; exact g
    · rw [if_neg g]; decide
theorem kp_good {s : Bool} {r : Int × Int × Bool} (h : G (r.1, r.2.1)) : G ((kp s r).1, (kp s r).2.1) := by
  unfold kp
  by_cases c : s = true ∧ r.2.2 = true
  · rw [if_pos c]; exact h
  · rw [if_neg c]; unfold G; decide
/-- A product. -/
def pz (a j b k : Int) : Int × Int × Bool := mk (a * b) (j.toNat + k.toNat)
theorem pz_good (a j b k : Int) : G ((pz a j b k).1, (pz a j b k).2.1) := mk_good _ _
theorem spec_mul {a j b k : Int} (ha : good a j = true) (hb : good b k = true) : Ev (fun K => spec_dyMul.f K a j b k) (pz a j b k) := by
  obtain ⟨ka, rfl, hka⟩ := good_k ha
  obtain ⟨kb, rfl, hkb⟩ := good_k hb
  exact dyMul_ev (good_small ha) (good_small hb) hka hkb
theorem impl_mul (s : Bool) {a j b k : Int} (ha : good a j = true) (hb : good b k = true) : Ev (fun K => impl_reckoner_product.f K s a j b k) (kp s (pz a j b k)) := by
  obtain ⟨ka, rfl, hka⟩ := good_k ha
  obtain ⟨kb, rfl, hkb⟩ := good_k hb
  exact product_ev s (good_small ha) (good_small hb) hka hkb
theorem ivMul_l1 {x6 X : List S27} (hx : x6.length < 100) {n i c kc d kd a ka : Int} (ga : good a ka = true) (gc : good c kc = true) (gd : good d kd = true) (hi0 : 0 ≤ i) (hi1 : i < 10) {r : Int × Int × Int × Int × Bool}
    (hr : (pz a ka c kc).2.2 = true → (pz a ka d kd).2.2 = true → Ev (fun K => spec_ivMul.l0 K (x6 ++ [⟨(pz a ka c kc).1, (pz a ka c kc).2.1⟩] ++ [⟨(pz a ka d kd).1, (pz a ka d kd).2.1⟩]) X n (i + 1) c kc d kd) r)
    (hf : ¬ ((pz a ka c kc).2.2 = true ∧ (pz a ka d kd).2.2 = true) → r = (0, 0, 0, 0, false)) :
    Ev (fun K => spec_ivMul.l1 K x6 X n i [⟨c, kc⟩, ⟨d, kd⟩] (([⟨c, kc⟩, ⟨d, kd⟩] : List S27).length : Int) 0 c kc d kd a ka) r := by
  obtain ⟨K0, h0⟩ := spec_mul ga gc
  obtain ⟨K1, h1⟩ := spec_mul ga gd
  dsimp only at h0 h1
  have r0 : rd_T27 [⟨c, kc⟩, ⟨d, kd⟩] 0 = ⟨c, kc⟩ := rfl
  have r1 : rd_T27 [⟨c, kc⟩, ⟨d, kd⟩] 1 = ⟨d, kd⟩ := rfl
  have hl : (([⟨c, kc⟩, ⟨d, kd⟩] : List S27).length : Int) = 2 := rfl
  rw [hl]
  have w1 : wrap64 (0 + 1) = 1 := (w64 (by decide) (by decide)).trans rfl
  have w2 : wrap64 (1 + 1) = 2 := (w64 (by decide) (by decide)).trans rfl
  have w3 : wrap64 (i + 1) = i + 1 := w64 (by omega) (by omega)
  by_cases c1 : (pz a ka c kc).2.2 = true
  · by_cases c2 : (pz a ka d kd).2.2 = true
    · obtain ⟨K2, h2⟩ := hr c1 c2
      dsimp only at h2
      refine ⟨K0 + K1 + K2 + 3, fun K hK => ?_⟩
      obtain ⟨K, rfl⟩ : ∃ j, K = j + 1 + 1 + 1 := ⟨K - 3, by omega⟩
      simp only [spec_ivMul.l1]
      rw [if_pos (by omega), if_pos (by omega), if_pos (by rw [hl]; omega), r0]; simp only []
      rw [h0 (K + 1 + 1) (by omega)]; simp only [bs]
      rw [if_pos c1, if_pos (by omega), w1, if_pos (by omega), if_pos (by omega), if_pos (by rw [hl]; omega), r1]; simp only []
      rw [h1 (K + 1) (by omega)]; simp only [bs]
      rw [if_pos c2, if_pos (by simp only [List.length_append, List.length_cons, List.length_nil]; omega), w2, if_neg (by omega), w3]
      exact h2 K (by omega)
    · have := hf (fun x => c2 x.2)
      subst this
      refine ⟨K0 + K1 + 2, fun K hK => ?_⟩
      obtain ⟨K, rfl⟩ : ∃ j, K = j + 1 + 1 := ⟨K - 2, by omega⟩
      simp only [spec_ivMul.l1]
      rw [if_pos (by omega), if_pos (by omega), if_pos (by rw [hl]; omega), r0]; simp only []
      rw [h0 (K + 1) (by omega)]; simp only [bs]
      rw [if_pos c1, if_pos (by omega), w1, if_pos (by omega), if_pos (by omega), if_pos (by rw [hl]; omega), r1]; simp only []
      rw [h1 K (by omega)]; simp only [bs]
      rw [if_neg c2]
  · have := hf (fun x => c1 x.1)
    subst this
    refine ⟨K0 + 1, fun K hK => ?_⟩
    obtain ⟨K, rfl⟩ : ∃ j, K = j + 1 := ⟨K - 1, by omega⟩
    simp only [spec_ivMul.l1]
    rw [if_pos (by omega), if_pos (by omega), if_pos (by rw [hl]; omega), r0]; simp only []
    rw [h0 K (by omega)]; simp only [bs]
    rw [if_neg c1]
/-- The least and the greatest of four. -/
def lo4 (p q r s : Int × Int) : Int × Int := mn2 (mn2 (mn2 p q) r) s
def hi4 (p q r s : Int × Int) : Int × Int := mx2 (mx2 (mx2 p q) r) s
def pp (r : Int × Int × Bool) : Int × Int := (r.1, r.2.1)
/-- The interval of four results, rounded outward. -/
def out4 (p q r s : Int × Int × Bool) : Int × Int × Int × Int := rndI (lo4 (pp p) (pp q) (pp r) (pp s)).1 (lo4 (pp p) (pp q) (pp r) (pp s)).2 (hi4 (pp p) (pp q) (pp r) (pp s)).1 (hi4 (pp p) (pp q) (pp r) (pp s)).2 16
def res4 (p q r s : Int × Int × Bool) : Int × Int × Int × Int × Bool :=
  if (p.2.2 = true ∧ q.2.2 = true) ∧ (r.2.2 = true ∧ s.2.2 = true) then ((out4 p q r s).1, (out4 p q r s).2.1, (out4 p q r s).2.2.1, (out4 p q r s).2.2.2, true) else (0, 0, 0, 0, false)
theorem ivMul_ev {a ka b kb c kc d kd : Int} (ga : good a ka = true) (gb : good b kb = true) (gc : good c kc = true) (gd : good d kd = true) :
    Ev (fun K => spec_ivMul.f K a ka b kb c kc d kd) (res4 (pz a ka c kc) (pz a ka d kd) (pz b kb c kc) (pz b kb d kd)) := by
  have g1 := pz_good a ka c kc
  have g2 := pz_good a ka d kd
  have g3 := pz_good b kb c kc
  have g4 := pz_good b kb d kd
  obtain ⟨K2, h2⟩ := ivEnds_ev ⟨(pz a ka c kc).1, (pz a ka c kc).2.1⟩ [⟨(pz a ka d kd).1, (pz a ka d kd).2.1⟩, ⟨(pz b kb c kc).1, (pz b kb c kc).2.1⟩, ⟨(pz b kb d kd).1, (pz b kb d kd).2.1⟩] (by simp) (by
    intro y hy; simp only [List.mem_cons, List.mem_nil_iff, or_false] at hy
    rcases hy with rfl | rfl | rfl | rfl <;> assumption)
  obtain ⟨K3, h3⟩ := ivRound_ev (G_mn2 (G_mn2 (G_mn2 g1 g2) g3) g4) (G_mx2 (G_mx2 (G_mx2 g1 g2) g3) g4) (p := 16) (by omega)
  dsimp only at h2 h3
  have hl : (([⟨a, ka⟩, ⟨b, kb⟩] : List S27).length : Int) = 2 := rfl
  have q0 : rd_T27 [⟨a, ka⟩, ⟨b, kb⟩] 0 = ⟨a, ka⟩ := rfl
  have q1 : rd_T27 [⟨a, ka⟩, ⟨b, kb⟩] 1 = ⟨b, kb⟩ := rfl
  have last : (pz a ka c kc).2.2 = true → (pz a ka d kd).2.2 = true → (pz b kb c kc).2.2 = true → (pz b kb d kd).2.2 = true →
      Ev (fun K => spec_ivMul.l0 K [⟨(pz a ka c kc).1, (pz a ka c kc).2.1⟩, ⟨(pz a ka d kd).1, (pz a ka d kd).2.1⟩, ⟨(pz b kb c kc).1, (pz b kb c kc).2.1⟩, ⟨(pz b kb d kd).1, (pz b kb d kd).2.1⟩] [⟨a, ka⟩, ⟨b, kb⟩] 2 2 c kc d kd) (res4 (pz a ka c kc) (pz a ka d kd) (pz b kb c kc) (pz b kb d kd)) := by
    intro c1 c2 c3 c4
    unfold res4
    rw [if_pos ⟨⟨c1, c2⟩, ⟨c3, c4⟩⟩]
    refine ⟨K2 + K3 + 1, fun K hK => ?_⟩
    obtain ⟨K, rfl⟩ : ∃ j, K = j + 1 := ⟨K - 1, by omega⟩
    simp only [spec_ivMul.l0]
    rw [if_neg (by omega), h2 K (by omega)]; simp only [bs]
    have := h3 K (by omega)
    show (spec_ivRound.f K (mn2 (mn2 (mn2 (pp (pz a ka c kc)) (pp (pz a ka d kd))) (pp (pz b kb c kc))) (pp (pz b kb d kd))).1 _ _ _ 16).bind _ = _
    exact (congrArg (fun z => Option.bind z _) this).trans (bs _ _)
  have row2 : (pz a ka c kc).2.2 = true → (pz a ka d kd).2.2 = true → Ev (fun K => spec_ivMul.l0 K [⟨(pz a ka c kc).1, (pz a ka c kc).2.1⟩, ⟨(pz a ka d kd).1, (pz a ka d kd).2.1⟩] [⟨a, ka⟩, ⟨b, kb⟩] 2 1 c kc d kd) (res4 (pz a ka c kc) (pz a ka d kd) (pz b kb c kc) (pz b kb d kd)) := by
    intro c1 c2
    obtain ⟨K4, h4⟩ := ivMul_l1 (x6 := [⟨(pz a ka c kc).1, (pz a ka c kc).2.1⟩, ⟨(pz a ka d kd).1, (pz a ka d kd).2.1⟩]) (X := [⟨a, ka⟩, ⟨b, kb⟩]) (by simp) (n := 2) (i := 1) gb gc gd (by omega) (by omega) (fun c3 c4 => last c1 c2 c3 c4) (fun x => by unfold res4; rw [if_neg (fun y => x y.2)])
    dsimp only at h4
    refine ⟨K4 + 1, fun K hK => ?_⟩
    obtain ⟨K, rfl⟩ : ∃ j, K = j + 1 := ⟨K - 1, by omega⟩
    simp only [spec_ivMul.l0]
    rw [if_pos (by omega), if_pos (by omega), if_pos (by rw [hl]; omega), q1]; simp only [bs]
    exact h4 K (by omega)
  obtain ⟨K5, h5⟩ := ivMul_l1 (x6 := []) (X := [⟨a, ka⟩, ⟨b, kb⟩]) (by simp) (n := 2) (i := 0) ga gc gd (by omega) (by omega) (fun c1 c2 => row2 c1 c2) (fun x => by unfold res4; rw [if_neg (fun y => x y.1)])
  dsimp only at h5
  refine ⟨K5 + 1, fun K hK => ?_⟩
  obtain ⟨K, rfl⟩ : ∃ j, K = j + 1 := ⟨K - 1, by omega⟩
  dsimp only; unfold spec_ivMul.f; simp only [bs]
  rw [hl]; simp only [spec_ivMul.l0]
  rw [if_pos (by omega), if_pos (by omega), if_pos (by rw [hl]; omega), q0]; simp only [bs]
  exact h5 K (by omega)
theorem multiply_ev {a ka b kb c kc d kd : Int} (ga : good a ka = true) (gb : good b kb = true) (gc : good c kc = true) (gd : good d kd = true) :
    ∃ x y z t ok, Ev (fun K => impl_reckoner_multiply.f K true a ka b kb c kc d kd) (x, y, z, t, ok) ∧
      res4 (pz a ka c kc) (pz a ka d kd) (pz b kb c kc) (pz b kb d kd) = if ok = true then (x, y, z, t, true) else (0, 0, 0, 0, false) := by
  obtain ⟨K1, h1⟩ := impl_mul true ga gc
  have g1 : G (pp (kp true (pz a ka c kc))) := kp_good (pz_good a ka c kc)
  generalize e1 : kp true (pz a ka c kc) = c1 at *
  obtain ⟨K2, h2⟩ := impl_mul c1.2.2 ga gd
  have g2 : G (pp (kp c1.2.2 (pz a ka d kd))) := kp_good (pz_good a ka d kd)
  generalize e2 : kp c1.2.2 (pz a ka d kd) = c2 at *
  obtain ⟨K3, h3⟩ := impl_mul c2.2.2 gb gc
  have g3 : G (pp (kp c2.2.2 (pz b kb c kc))) := kp_good (pz_good b kb c kc)
  generalize e3 : kp c2.2.2 (pz b kb c kc) = c3 at *
  obtain ⟨K4, h4⟩ := impl_mul c3.2.2 gb gd
  have g4 : G (pp (kp c3.2.2 (pz b kb d kd))) := kp_good (pz_good b kb d kd)
  generalize e4 : kp c3.2.2 (pz b kb d kd) = c4 at *
  obtain ⟨K5, h5⟩ := lesser_ev g1 g2
  obtain ⟨K6, h6⟩ := lesser_ev g3 g4
  obtain ⟨K7, h7⟩ := lesser_ev (G_mn2 g1 g2) (G_mn2 g3 g4)
  obtain ⟨K8, h8⟩ := greater_ev g1 g2
  obtain ⟨K9, h9⟩ := greater_ev g3 g4
  obtain ⟨K10, h10⟩ := greater_ev (G_mx2 g1 g2) (G_mx2 g3 g4)
  have gl := G_mn2 (G_mn2 g1 g2) (G_mn2 g3 g4)
  have gh := G_mx2 (G_mx2 g1 g2) (G_mx2 g3 g4)
  obtain ⟨K11, h11⟩ := roundOut_ev gl gh (p := 16) (by omega)
  obtain ⟨R, hR⟩ : ∃ R, R = rndI (mn2 (mn2 (pp c1) (pp c2)) (mn2 (pp c3) (pp c4))).1 (mn2 (mn2 (pp c1) (pp c2)) (mn2 (pp c3) (pp c4))).2 (mx2 (mx2 (pp c1) (pp c2)) (mx2 (pp c3) (pp c4))).1 (mx2 (mx2 (pp c1) (pp c2)) (mx2 (pp c3) (pp c4))).2 16 := ⟨_, rfl⟩
  rw [← hR] at h11
  dsimp only at h1 h2 h3 h4 h5 h6 h7 h8 h9 h10 h11
  refine ⟨R.1, R.2.1, R.2.2.1, R.2.2.2, c4.2.2, ⟨K1 + K2 + K3 + K4 + K5 + K6 + K7 + K8 + K9 + K10 + K11, fun K hK => ?_⟩, ?_⟩
  rotate_left
  · unfold res4
    have all : c4.2.2 = true ↔ ((pz a ka c kc).2.2 = true ∧ (pz a ka d kd).2.2 = true) ∧ ((pz b kb c kc).2.2 = true ∧ (pz b kb d kd).2.2 = true) := by
      rw [← e4, ← e3, ← e2, ← e1]
      unfold kp
      generalize pz a ka c kc = x1
      generalize pz a ka d kd = x2
      generalize pz b kb c kc = x3
      generalize pz b kb d kd = x4
      obtain ⟨_, _, o1⟩ := x1
      obtain ⟨_, _, o2⟩ := x2
      obtain ⟨_, _, o3⟩ := x3
      obtain ⟨_, _, o4⟩ := x4
      cases o1 <;> cases o2 <;> cases o3 <;> cases o4 <;> simp
    by_cases cc : c4.2.2 = true
    · rw [if_pos (all.1 cc), if_pos cc]
      obtain ⟨⟨o1, o2⟩, ⟨o3, o4⟩⟩ := all.1 cc
      have k1 : c1 = pz a ka c kc := by rw [← e1]; unfold kp; rw [if_pos ⟨rfl, o1⟩]
      have k2 : c2 = pz a ka d kd := by rw [← e2, k1]; unfold kp; rw [if_pos ⟨o1, o2⟩]
      have k3 : c3 = pz b kb c kc := by rw [← e3, k2]; unfold kp; rw [if_pos ⟨o2, o3⟩]
      have k4 : c4 = pz b kb d kd := by rw [← e4, k3]; unfold kp; rw [if_pos ⟨o3, o4⟩]
      subst k1 k2 k3 k4
      unfold out4
      have hl : lo4 (pp (pz a ka c kc)) (pp (pz a ka d kd)) (pp (pz b kb c kc)) (pp (pz b kb d kd)) = mn2 (mn2 (pp (pz a ka c kc)) (pp (pz a ka d kd))) (mn2 (pp (pz b kb c kc)) (pp (pz b kb d kd))) := by
        refine w_inj (G_mn2 (G_mn2 (G_mn2 g1 g2) g3) g4) gl ?_
        unfold lo4; simp only [w_mn2]; omega
      have hh : hi4 (pp (pz a ka c kc)) (pp (pz a ka d kd)) (pp (pz b kb c kc)) (pp (pz b kb d kd)) = mx2 (mx2 (pp (pz a ka c kc)) (pp (pz a ka d kd))) (mx2 (pp (pz b kb c kc)) (pp (pz b kb d kd))) := by
        refine w_inj (G_mx2 (G_mx2 (G_mx2 g1 g2) g3) g4) gh ?_
        unfold hi4; simp only [w_mx2]; omega
      rw [hl, hh, ← hR]
    · rw [if_neg (fun x => cc (all.2 x)), if_neg cc]
  · dsimp only; unfold impl_reckoner_multiply.f
    rw [h1 K (by omega)]; simp only [bs]
    rw [h2 K (by omega)]; simp only [bs]
    rw [h3 K (by omega)]; simp only [bs]
    rw [h4 K (by omega)]; simp only [bs]
    have h5' := h5 K (by omega)
    have h6' := h6 K (by omega)
    have h8' := h8 K (by omega)
    have h9' := h9 K (by omega)
    have e16 : ((16 : Nat) : Int) = 16 := rfl
    have h11' := h11 K (by omega)
    rw [e16] at h11'
    simp only [pp] at h5' h6' h8' h9'
    rw [h5']; simp only [bs]
    rw [h6']; simp only [bs]
    have h7' := h7 K (by omega)
    simp only [pp] at h7'
    rw [h7']; simp only [bs]
    rw [h8']; simp only [bs]
    rw [h9']; simp only [bs]
    have h10' := h10 K (by omega)
    simp only [pp] at h10'
    rw [h10']; simp only [bs]
    simp only [pp] at h11'
    rw [h11']; simp only [bs]
end Go.Proofs.Ytinpcalgdiigiaa.PD
