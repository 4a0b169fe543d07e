import Derived.Test.YtinpcalgdiigiaaQDivilsPDx1
import Derived.Test.YtinpcalgdiigiaaQDivilsMn
import Derived.Test.YtinpcalgdiigiaaQDivilsMm
/- Quotients of intervals: lemmas on the printed functions. -/
namespace Go.Proofs.Ytinpcalgdiigiaa.PD
open Go.RowKit Go.Proofs.YtinpcalgdiigiaaW.PrintWords Go.Proofs.YtinpcalgdiigiaaW.PrintLast Go.Proofs.YtinpcalgdiigiaaW.PrintMore
/-- A quotient rounded down to 16 places. -/
def dz (a j b k : Int) : Int × Int × Bool := mk (dq a b (k + 16 - j)) 16
theorem dz_good (a j b k : Int) : G (pp (dz a j b k)) := mk_good _ _
theorem spec_quot {a j b k : Int} (ha : good a j = true) (hb : good b k = true) (hb0 : b ≠ 0) : Ev (fun K => spec_dyDivide.f K a j b k 16) (dz a j b k) := by
  obtain ⟨ka, rfl, hka⟩ := good_k ha
  obtain ⟨kb, rfl, hkb⟩ := good_k hb
  exact divide_ev (good_small ha) (good_small hb) hb0 hka hkb (p := 16) (by omega)
theorem impl_quot {a j b k : Int} (ha : good a j = true) (hb : good b k = true) (hb0 : b ≠ 0) : Ev (fun K => impl_quotientDown.f K a (wrap64 (k - j)) b 16) (dz a j b k) := by
  obtain ⟨ka, rfl, hka⟩ := good_k ha
  obtain ⟨kb, rfl, hkb⟩ := good_k hb
  have h := quot_ev (good_small ha) (good_small hb) hb0 (kk := (kb : Int) - ka) (by omega) (by omega) (p := 16) (by omega)
  rw [show (kb : Int) - ka + (16 : Nat) = kb + 16 - ka by omega] at h
  rw [w64 (x := (kb : Int) - ka) (by omega) (by omega)]
  exact h
def ok2 (a j b k : Int) : Bool := (dz a j b k).2.2 && (dz (-a) j b k).2.2
def dn (a j b k : Int) : S27 := ⟨(dz a j b k).1, (dz a j b k).2.1⟩
def up (a j b k : Int) : S27 := ⟨-(dz (-a) j b k).1, (dz (-a) j b k).2.1⟩
theorem up_good (a j b k : Int) : G (pr (up a j b k)) := good_neg (dz_good (-a) j b k)
theorem dn_good (a j b k : Int) : G (pr (dn a j b k)) := dz_good a j b k
theorem w_up (a j b k : Int) : w (pr (up a j b k)) = -(w (pp (dz (-a) j b k))) := by
  unfold w pr up pp v; rw [Int.neg_mul]
theorem w_neg (n k : Int) : w (-n, k) = -(w (n, k)) := by unfold w v; rw [Int.neg_mul]
/-- One quotient of the reference's inner loop. -/
theorem ivDiv_step {a ka e ke : Int} (ga : good a ka = true) (ge : good e ke = true) (he : e ≠ 0) : ∃ K0, ∀ K, K0 ≤ K → ∀ (x6 x7 X Y : List S27) (n i c kc d kd : Int) (j : Nat), x6.length < 100 → x7.length < 100 → j < Y.length → j < 100 → rd_T27 Y (j : Int) = ⟨e, ke⟩ →
    spec_ivDiv.l1 (K + 1) x6 x7 X n i Y (Y.length : Int) (j : Int) c kc d kd a ka = if ok2 a ka e ke = true then spec_ivDiv.l1 K (x6 ++ [dn a ka e ke]) (x7 ++ [up a ka e ke]) X n i Y (Y.length : Int) ((j + 1 : Nat) : Int) c kc d kd a ka else some (0, 0, 0, 0, false) := by
  obtain ⟨K0, h0⟩ := spec_quot ga ge he
  obtain ⟨K1, h1⟩ := spec_quot (good_neg ga) ge he
  dsimp only at h0 h1
  refine ⟨K0 + K1, fun K hK x6 x7 X Y n i c kc d kd j hx6 hx7 hj hj2 hr => ?_⟩
  simp only [spec_ivDiv.l1]
  rw [if_pos (by omega), if_pos (by omega), if_pos (by omega), hr]; simp only []
  rw [h0 K (by omega), dyMinus_eq (good_small ga)]; simp only [bs]
  rw [h1 K (by omega)]; simp only [bs]
  have hs : Small (dz (-a) ka e ke).1 := mk_small _ _
  rw [dyMinus_eq hs]
  unfold ok2
  by_cases c1 : (dz a ka e ke).2.2 = true
  · by_cases c2 : (dz (-a) ka e ke).2.2 = true
    · rw [if_pos c1, if_pos c2, c1, c2, if_pos (by omega)]; simp only [bs, Bool.and_self, if_true]
      rw [if_pos (by omega), w64 (by omega) (by omega), show (j : Int) + 1 = ((j + 1 : Nat) : Int) by omega]; rfl
    · rw [if_pos c1, if_neg c2, Bool.eq_false_iff.2 c2]; simp
  · rw [if_neg c1, Bool.eq_false_iff.2 c1]; simp
/-- What both come to: the least of four and the greatest of four. -/
def resD (a ka b kb c kc d kd : Int) : Int × Int × Int × Int × Bool :=
  if (ok2 a ka c kc && ok2 a ka d kd && ok2 b kb c kc && ok2 b kb d kd) = true then
    ((lo4 (pr (dn a ka c kc)) (pr (dn a ka d kd)) (pr (dn b kb c kc)) (pr (dn b kb d kd))).1, (lo4 (pr (dn a ka c kc)) (pr (dn a ka d kd)) (pr (dn b kb c kc)) (pr (dn b kb d kd))).2,
     (hi4 (pr (up a ka c kc)) (pr (up a ka d kd)) (pr (up b kb c kc)) (pr (up b kb d kd))).1, (hi4 (pr (up a ka c kc)) (pr (up a ka d kd)) (pr (up b kb c kc)) (pr (up b kb d kd))).2, true) else (0, 0, 0, 0, false)
theorem ivDiv_ev {a ka b kb c kc d kd : Int} (ga : good a ka = true) (gb : good b kb = true) (gc : good c kc = true) (gd : good d kd = true) (hc : c ≠ 0) (hd : d ≠ 0) :
    Ev (fun K => spec_ivDiv.f K a ka b kb c kc d kd) (resD a ka b kb c kc d kd) := by
  obtain ⟨K0, h0⟩ := ivDiv_step ga gc hc
  obtain ⟨K1, h1⟩ := ivDiv_step ga gd hd
  obtain ⟨K2, h2⟩ := ivDiv_step gb gc hc
  obtain ⟨K3, h3⟩ := ivDiv_step gb gd hd
  obtain ⟨K4, h4⟩ := ivEnds_ev (dn a ka c kc) [dn a ka d kd, dn b kb c kc, dn b kb d kd] (by simp) (by
    intro y hy; simp only [List.mem_cons, List.mem_nil_iff, or_false] at hy
    rcases hy with rfl | rfl | rfl | rfl <;> exact dn_good _ _ _ _)
  obtain ⟨K5, h5⟩ := ivEnds_ev (up a ka c kc) [up a ka d kd, up b kb c kc, up b kb d kd] (by simp) (by
    intro y hy; simp only [List.mem_cons, List.mem_nil_iff, or_false] at hy
    rcases hy with rfl | rfl | rfl | rfl <;> exact up_good _ _ _ _)
  dsimp only at h4 h5
  refine ⟨K0 + K1 + K2 + K3 + K4 + K5 + 9, fun K hK => ?_⟩
  obtain ⟨K, rfl⟩ : ∃ m, K = m + 1 + 1 + 1 + 1 + 1 + 1 + 1 + 1 + 1 := ⟨K - 9, by omega⟩
  dsimp only; unfold spec_ivDiv.f; simp only [bs]
  have hl : (([⟨a, ka⟩, ⟨b, kb⟩] : List S27).length : Int) = 2 := rfl
  have hl2 : (([⟨c, kc⟩, ⟨d, kd⟩] : List S27).length : Int) = 2 := rfl
  have q0 : rd_T27 [⟨a, ka⟩, ⟨b, kb⟩] 0 = ⟨a, ka⟩ := rfl
  have q1 : rd_T27 [⟨a, ka⟩, ⟨b, kb⟩] 1 = ⟨b, kb⟩ := rfl
  have r0 : rd_T27 [⟨c, kc⟩, ⟨d, kd⟩] ((0 : Nat) : Int) = ⟨c, kc⟩ := rfl
  have r1 : rd_T27 [⟨c, kc⟩, ⟨d, kd⟩] ((0 + 1 : Nat) : Int) = ⟨d, kd⟩ := rfl
  have w1 : wrap64 (0 + 1) = 1 := (w64 (by decide) (by decide)).trans rfl
  have w2 : wrap64 (1 + 1) = 2 := (w64 (by decide) (by decide)).trans rfl
  rw [hl]; unfold resD
  -- what stands behind the inner loop
  have l1end : ∀ K (x6 x7 : List S27) (i x y : Int), spec_ivDiv.l1 (K + 1) x6 x7 [⟨a, ka⟩, ⟨b, kb⟩] 2 i [⟨c, kc⟩, ⟨d, kd⟩] (([⟨c, kc⟩, ⟨d, kd⟩] : List S27).length : Int) ((0 + 1 + 1 : Nat) : Int) c kc d kd x y = spec_ivDiv.l0 K x6 x7 [⟨a, ka⟩, ⟨b, kb⟩] 2 (wrap64 (i + 1)) c kc d kd := by
    intro K x6 x7 i x y
    simp only [spec_ivDiv.l1]
    rw [if_neg (by rw [hl2]; omega)]
  have l0a : spec_ivDiv.l0 (K + 1 + 1 + 1 + 1 + 1 + 1 + 1 + 1 + 1) [] [] [⟨a, ka⟩, ⟨b, kb⟩] 2 0 c kc d kd = spec_ivDiv.l1 (K + 1 + 1 + 1 + 1 + 1 + 1 + 1 + 1) [] [] [⟨a, ka⟩, ⟨b, kb⟩] 2 0 [⟨c, kc⟩, ⟨d, kd⟩] (([⟨c, kc⟩, ⟨d, kd⟩] : List S27).length : Int) ((0 : Nat) : Int) c kc d kd a ka := by
    simp only [spec_ivDiv.l0]
    rw [if_pos (by omega), if_pos (by omega), if_pos (by rw [hl]; omega), q0]; simp only [bs]; rfl
  rw [l0a, h0 (K + 1 + 1 + 1 + 1 + 1 + 1 + 1) (by omega) _ _ _ _ _ _ _ _ _ _ 0 (by simp) (by simp) (by simp) (by omega) r0]
  cases o1 : ok2 a ka c kc with
  | false => simp
  | true =>
    rw [if_pos rfl, h1 (K + 1 + 1 + 1 + 1 + 1 + 1) (by omega) _ _ _ _ _ _ _ _ _ _ (0 + 1) (by simp) (by simp) (by simp) (by omega) r1]
    cases o2 : ok2 a ka d kd with
    | false => simp
    | true =>
      rw [if_pos rfl, l1end, w1]
      have l0b : ∀ x6 x7 : List S27, spec_ivDiv.l0 (K + 1 + 1 + 1 + 1 + 1) x6 x7 [⟨a, ka⟩, ⟨b, kb⟩] 2 1 c kc d kd = spec_ivDiv.l1 (K + 1 + 1 + 1 + 1) x6 x7 [⟨a, ka⟩, ⟨b, kb⟩] 2 1 [⟨c, kc⟩, ⟨d, kd⟩] (([⟨c, kc⟩, ⟨d, kd⟩] : List S27).length : Int) ((0 : Nat) : Int) c kc d kd b kb := by
        intro x6 x7
        simp only [spec_ivDiv.l0]
        rw [if_pos (by omega), if_pos (by omega), if_pos (by rw [hl]; omega), q1]; simp only [bs]; rfl
      rw [l0b, h2 (K + 1 + 1 + 1) (by omega) _ _ _ _ _ _ _ _ _ _ 0 (by simp) (by simp) (by simp) (by omega) r0]
      cases o3 : ok2 b kb c kc with
      | false => simp
      | true =>
        rw [if_pos rfl, h3 (K + 1 + 1) (by omega) _ _ _ _ _ _ _ _ _ _ (0 + 1) (by simp) (by simp) (by simp) (by omega) r1]
        cases o4 : ok2 b kb d kd with
        | false => simp
        | true =>
          rw [if_pos rfl, l1end, w2]
          have l0c : ∀ x6 x7 : List S27, spec_ivDiv.l0 (K + 1) x6 x7 [⟨a, ka⟩, ⟨b, kb⟩] 2 2 c kc d kd = (spec_ivEnds.f K x6).bind fun bt1098 => ((spec_ivEnds.f K x7).bind fun bt1102 => (some (bt1098.1, bt1098.2.1, bt1102.2.2.1, bt1102.2.2.2, true))) := by
            intro x6 x7
            simp only [spec_ivDiv.l0]
            rw [if_neg (by omega)]
          rw [l0c]
          have g4 := h4 K (by omega)
          have g5 := h5 K (by omega)
          show (spec_ivEnds.f K [dn a ka c kc, dn a ka d kd, dn b kb c kc, dn b kb d kd]).bind _ = _
          rw [g4]; simp only [bs]
          show (spec_ivEnds.f K [up a ka c kc, up a ka d kd, up b kb c kc, up b kb d kd]).bind _ = _
          rw [g5]; simp only [bs]
          rfl
/-- One quotient of the program's inner loop. -/
theorem least_step {a ka e ke : Int} (ga : good a ka = true) (ge : good e ke = true) (he : e ≠ 0) (p : Int × Int) (hp : G p) : ∃ K0, ∀ K, K0 ≤ K → ∀ (X Y : List S27) (n i c kc d kd : Int) (j : Nat), j < Y.length → j < 100 → rd_T27 Y (j : Int) = ⟨e, ke⟩ →
    impl_leastQuotient.l1 (K + 1) true X n i Y (Y.length : Int) (j : Int) c kc d kd p.1 p.2 a ka = if (dz a ka e ke).2.2 = true then impl_leastQuotient.l1 K true X n i Y (Y.length : Int) ((j + 1 : Nat) : Int) c kc d kd (mn2 p (pp (dz a ka e ke))).1 (mn2 p (pp (dz a ka e ke))).2 a ka else some (0, 0, false) := by
  obtain ⟨K0, h0⟩ := impl_quot ga ge he
  obtain ⟨K1, h1⟩ := impl_cmp (dz_good a ka e ke) hp
  dsimp only at h0 h1
  refine ⟨K0 + K1, fun K hK X Y n i c kc d kd j hj hj2 hr => ?_⟩
  simp only [impl_leastQuotient.l1]
  rw [if_pos (by omega), if_pos (by omega), if_pos (by omega), hr]; simp only []
  rw [h0 K (by omega)]; simp only [bs]
  by_cases c1 : (dz a ka e ke).2.2 = true
  · have g1 := h1 K (by omega)
    simp only [pp] at g1
    rw [if_pos c1, if_pos c1, g1]; simp only [bs, if_true, cmpI_lt]
    rw [w64 (by omega) (by omega), show (j : Int) + 1 = ((j + 1 : Nat) : Int) by omega]
    unfold mn2 pp
    split <;> rfl
  · rw [if_neg c1, if_neg c1]
theorem least_first {a ka e ke : Int} (ga : good a ka = true) (ge : good e ke = true) (he : e ≠ 0) : ∃ K0, ∀ K, K0 ≤ K → ∀ (X Y : List S27) (n i c kc d kd p q : Int), 0 < Y.length → rd_T27 Y 0 = ⟨e, ke⟩ →
    impl_leastQuotient.l1 (K + 1) false X n i Y (Y.length : Int) 0 c kc d kd p q a ka = if (dz a ka e ke).2.2 = true then impl_leastQuotient.l1 K true X n i Y (Y.length : Int) ((0 + 1 : Nat) : Int) c kc d kd (pp (dz a ka e ke)).1 (pp (dz a ka e ke)).2 a ka else some (0, 0, false) := by
  obtain ⟨K0, h0⟩ := impl_quot ga ge he
  dsimp only at h0
  refine ⟨K0, fun K hK X Y n i c kc d kd p q hj hr => ?_⟩
  simp only [impl_leastQuotient.l1]
  rw [if_pos (by omega), if_pos (by omega), if_pos (by omega), hr]; simp only []
  rw [h0 K (by omega)]; simp only [bs, Bool.false_eq_true, if_false]
  rw [w64 (x := 0 + 1) (by decide) (by decide)]; rfl
def ok4 (a ka b kb c kc d kd : Int) : Bool := (dz a ka c kc).2.2 && (dz a ka d kd).2.2 && (dz b kb c kc).2.2 && (dz b kb d kd).2.2
def low4 (a ka b kb c kc d kd : Int) : Int × Int := lo4 (pp (dz a ka c kc)) (pp (dz a ka d kd)) (pp (dz b kb c kc)) (pp (dz b kb d kd))
def resQ (a ka b kb c kc d kd : Int) : Int × Int × Bool := if ok4 a ka b kb c kc d kd = true then ((low4 a ka b kb c kc d kd).1, (low4 a ka b kb c kc d kd).2, true) else (0, 0, false)
theorem least_ev {a ka b kb c kc d kd : Int} (ga : good a ka = true) (gb : good b kb = true) (gc : good c kc = true) (gd : good d kd = true) (hc : c ≠ 0) (hd : d ≠ 0) :
    Ev (fun K => impl_leastQuotient.f K a ka b kb c kc d kd) (resQ a ka b kb c kc d kd) := by
  obtain ⟨K0, h0⟩ := least_first ga gc hc
  obtain ⟨K1, h1⟩ := least_step ga gd hd (pp (dz a ka c kc)) (dz_good _ _ _ _)
  obtain ⟨K2, h2⟩ := least_step gb gc hc (mn2 (pp (dz a ka c kc)) (pp (dz a ka d kd))) (G_mn2 (dz_good _ _ _ _) (dz_good _ _ _ _))
  obtain ⟨K3, h3⟩ := least_step gb gd hd (mn2 (mn2 (pp (dz a ka c kc)) (pp (dz a ka d kd))) (pp (dz b kb c kc))) (G_mn2 (G_mn2 (dz_good _ _ _ _) (dz_good _ _ _ _)) (dz_good _ _ _ _))
  refine ⟨K0 + K1 + K2 + K3 + 9, fun K hK => ?_⟩
  obtain ⟨K, rfl⟩ : ∃ m, K = m + 1 + 1 + 1 + 1 + 1 + 1 + 1 + 1 + 1 := ⟨K - 9, by omega⟩
  dsimp only; unfold impl_leastQuotient.f; simp only [bs]
  have hl : (([⟨a, ka⟩, ⟨b, kb⟩] : List S27).length : Int) = 2 := rfl
  have hl2 : (([⟨c, kc⟩, ⟨d, kd⟩] : List S27).length : Int) = 2 := rfl
  have q0 : rd_T27 [⟨a, ka⟩, ⟨b, kb⟩] 0 = ⟨a, ka⟩ := rfl
  have q1 : rd_T27 [⟨a, ka⟩, ⟨b, kb⟩] 1 = ⟨b, kb⟩ := rfl
  have r0 : rd_T27 [⟨c, kc⟩, ⟨d, kd⟩] 0 = ⟨c, kc⟩ := rfl
  have r0' : rd_T27 [⟨c, kc⟩, ⟨d, kd⟩] ((0 : Nat) : Int) = ⟨c, kc⟩ := rfl
  have r1 : rd_T27 [⟨c, kc⟩, ⟨d, kd⟩] ((0 + 1 : Nat) : Int) = ⟨d, kd⟩ := rfl
  have w1 : wrap64 (0 + 1) = 1 := (w64 (by decide) (by decide)).trans rfl
  have w2 : wrap64 (1 + 1) = 2 := (w64 (by decide) (by decide)).trans rfl
  rw [hl]; unfold resQ ok4
  have l1end : ∀ K (i p q x y : Int), impl_leastQuotient.l1 (K + 1) true [⟨a, ka⟩, ⟨b, kb⟩] 2 i [⟨c, kc⟩, ⟨d, kd⟩] (([⟨c, kc⟩, ⟨d, kd⟩] : List S27).length : Int) ((0 + 1 + 1 : Nat) : Int) c kc d kd p q x y = impl_leastQuotient.l0 K true [⟨a, ka⟩, ⟨b, kb⟩] 2 (wrap64 (i + 1)) c kc d kd p q := by
    intro K i p q x y
    simp only [impl_leastQuotient.l1]
    rw [if_neg (by rw [hl2]; omega)]
  have l0a : impl_leastQuotient.l0 (K + 1 + 1 + 1 + 1 + 1 + 1 + 1 + 1 + 1) false [⟨a, ka⟩, ⟨b, kb⟩] 2 0 c kc d kd 0 0 = impl_leastQuotient.l1 (K + 1 + 1 + 1 + 1 + 1 + 1 + 1 + 1) false [⟨a, ka⟩, ⟨b, kb⟩] 2 0 [⟨c, kc⟩, ⟨d, kd⟩] (([⟨c, kc⟩, ⟨d, kd⟩] : List S27).length : Int) 0 c kc d kd 0 0 a ka := by
    simp only [impl_leastQuotient.l0]
    rw [if_pos (by omega), if_pos (by omega), if_pos (by rw [hl]; omega), q0]; simp only [bs]
  rw [l0a, h0 (K + 1 + 1 + 1 + 1 + 1 + 1 + 1) (by omega) _ _ _ _ _ _ _ _ _ _ (by simp) r0]
  cases o1 : (dz a ka c kc).2.2 with
  | false => simp
  | true =>
    rw [if_pos rfl, h1 (K + 1 + 1 + 1 + 1 + 1 + 1) (by omega) _ _ _ _ _ _ _ _ (0 + 1) (by simp) (by omega) r1]
    cases o2 : (dz a ka d kd).2.2 with
    | false => simp
    | true =>
      rw [if_pos rfl, l1end, w1]
      have l0b : ∀ p q : Int, impl_leastQuotient.l0 (K + 1 + 1 + 1 + 1 + 1) true [⟨a, ka⟩, ⟨b, kb⟩] 2 1 c kc d kd p q = impl_leastQuotient.l1 (K + 1 + 1 + 1 + 1) true [⟨a, ka⟩, ⟨b, kb⟩] 2 1 [⟨c, kc⟩, ⟨d, kd⟩] (([⟨c, kc⟩, ⟨d, kd⟩] : List S27).length : Int) ((0 : Nat) : Int) c kc d kd p q b kb := by
        intro p q
        simp only [impl_leastQuotient.l0]
        rw [if_pos (by omega), if_pos (by omega), if_pos (by rw [hl]; omega), q1]; simp only [bs]; rfl
      rw [l0b, h2 (K + 1 + 1 + 1) (by omega) _ _ _ _ _ _ _ _ 0 (by simp) (by omega) r0']
      cases o3 : (dz b kb c kc).2.2 with
      | false => simp
      | true =>
        rw [if_pos rfl, h3 (K + 1 + 1) (by omega) _ _ _ _ _ _ _ _ (0 + 1) (by simp) (by omega) r1]
        cases o4 : (dz b kb d kd).2.2 with
        | false => simp
        | true =>
          rw [if_pos rfl, l1end, w2]
          simp only [impl_leastQuotient.l0]
          rw [if_neg (by omega)]; rfl
/-- Both answers are one. -/
theorem resD_eq {a ka b kb c kc d kd : Int} : resD a ka b kb c kc d kd =
    if (ok4 a ka b kb c kc d kd && ok4 (-b) kb (-a) ka c kc d kd) = true then ((low4 a ka b kb c kc d kd).1, (low4 a ka b kb c kc d kd).2, -(low4 (-b) kb (-a) ka c kc d kd).1, (low4 (-b) kb (-a) ka c kc d kd).2, true) else (0, 0, 0, 0, false) := by
  have e : (ok2 a ka c kc && ok2 a ka d kd && ok2 b kb c kc && ok2 b kb d kd) = (ok4 a ka b kb c kc d kd && ok4 (-b) kb (-a) ka c kc d kd) := by
    unfold ok2 ok4
    cases (dz a ka c kc).2.2 <;> cases (dz a ka d kd).2.2 <;> cases (dz b kb c kc).2.2 <;> cases (dz b kb d kd).2.2 <;> simp
    cases (dz (-a) ka c kc).2.2 <;> cases (dz (-a) ka d kd).2.2 <;> cases (dz (-b) kb c kc).2.2 <;> cases (dz (-b) kb d kd).2.2 <;> rfl
  unfold resD
  rw [e]
  by_cases h : (ok4 a ka b kb c kc d kd && ok4 (-b) kb (-a) ka c kc d kd) = true
  · rw [if_pos h, if_pos h]
    have h1 : lo4 (pr (dn a ka c kc)) (pr (dn a ka d kd)) (pr (dn b kb c kc)) (pr (dn b kb d kd)) = low4 a ka b kb c kc d kd := rfl
    have g4 : ∀ x y z t : Int × Int, G x → G y → G z → G t → G (lo4 x y z t) := fun x y z t gx gy gz gt => G_mn2 (G_mn2 (G_mn2 gx gy) gz) gt
    have gl : G (low4 (-b) kb (-a) ka c kc d kd) := g4 _ _ _ _ (dz_good _ _ _ _) (dz_good _ _ _ _) (dz_good _ _ _ _) (dz_good _ _ _ _)
    have h2 : hi4 (pr (up a ka c kc)) (pr (up a ka d kd)) (pr (up b kb c kc)) (pr (up b kb d kd)) = (-(low4 (-b) kb (-a) ka c kc d kd).1, (low4 (-b) kb (-a) ka c kc d kd).2) := by
      refine w_inj (G_mx2 (G_mx2 (G_mx2 (up_good _ _ _ _) (up_good _ _ _ _)) (up_good _ _ _ _)) (up_good _ _ _ _)) (good_neg gl) ?_
      rw [w_neg]
      have e2 : w ((low4 (-b) kb (-a) ka c kc d kd).1, (low4 (-b) kb (-a) ka c kc d kd).2) = w (low4 (-b) kb (-a) ka c kc d kd) := rfl
      rw [e2]
      unfold hi4 low4 lo4
      simp only [w_mx2, w_up, w_mn2]
      omega
    rw [h1, h2]
  · rw [if_neg h, if_neg h]
theorem ivZero_eq (a k b j : Int) : spec_ivZero.f a k b j = some (decide (a ≤ 0 ∧ 0 ≤ b)) := by
  unfold spec_ivZero.f
  by_cases h : a ≤ 0 <;> simp [h]
theorem signOf_eq (a k b j : Int) : (impl_signOf.f a k b j).bind (fun t => some (t == 0)) = some (decide (a ≤ 0 ∧ 0 ≤ b)) := by
  unfold impl_signOf.f
  by_cases h : a > 0
  · rw [if_pos h, decide_eq_false (by omega)]; rfl
  · rw [if_neg h]
    by_cases h2 : b < 0
    · rw [if_pos h2, decide_eq_false (by omega)]; rfl
    · rw [if_neg h2, decide_eq_true (by omega)]; rfl
end Go.Proofs.Ytinpcalgdiigiaa.PD
