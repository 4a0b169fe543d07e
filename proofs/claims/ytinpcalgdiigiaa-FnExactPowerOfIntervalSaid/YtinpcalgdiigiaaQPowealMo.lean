import Derived.Test.YtinpcalgdiigiaaQPowealPDx1
import Derived.Test.YtinpcalgdiigiaaQPowealMn
/- Powers of intervals: lemmas on the printed functions. -/
namespace Go.Proofs.Ytinpcalgdiigiaa.PD
open Go.RowKit Go.Proofs.YtinpcalgdiigiaaW.PrintWords Go.Proofs.YtinpcalgdiigiaaW.PrintLast Go.Proofs.YtinpcalgdiigiaaW.PrintMore
theorem mk_false {n : Int} {k : Nat} (h : ¬ (mk n k).2.2 = true) : mk n k = (0, 0, false) := by
  unfold mk fin at *
  by_cases c : n = 0
  · rw [if_pos c] at h; exact absurd rfl h
  · rw [if_neg c] at h ⊢
    by_cases g : good (redN k n).1 ((redN k n).2 : Int) = true
    · rw [if_pos g] at h; exact absurd rfl h
    · rw [if_neg g]
theorem mk_self {a : Int} {k : Nat} (h : good a k = true) : mk a k = (a, (k : Int), true) := by
  obtain ⟨h0, h1, h2, h3, h4⟩ := good_iff.1 h
  unfold mk
  by_cases c : a = 0
  · subst c
    have : k = 0 := by omega
    subst this; rfl
  · rw [if_neg c]
    rcases h4 with h4 | h4
    · have : k = 0 := by omega
      subst this
      have h' : good a 0 = true := h
      rw [fin_zero, if_pos h']; rfl
    · rw [fin_odd h4, if_pos h]
theorem redN_val : ∀ (k : Nat) (n : Int), (redN k n).2 ≤ k ∧ (redN k n).1 * 2 ^ (k - (redN k n).2) = n
  | 0, n => ⟨Nat.le_refl _, by show n * 2 ^ 0 = n; rw [Int.pow_zero, Int.mul_one]⟩
  | k + 1, n => by
    unfold redN
    by_cases c : n % 2 = 0
    · rw [if_pos c]
      obtain ⟨h1, h2⟩ := redN_val k (n / 2)
      refine ⟨by omega, ?_⟩
      rw [show k + 1 - (redN k (n / 2)).2 = (k - (redN k (n / 2)).2) + 1 by omega, Int.pow_succ, ← Int.mul_assoc, h2]; omega
    · rw [if_neg c]
      refine ⟨Nat.le_refl _, ?_⟩
      rw [Nat.sub_self, Int.pow_zero, Int.mul_one]
theorem mk_val {n : Int} {k : Nat} (h : (mk n k).2.2 = true) : ∃ j : Nat, (mk n k).2.1 = j ∧ j ≤ k ∧ (mk n k).1 * 2 ^ (k - j) = n := by
  unfold mk fin at *
  by_cases c : n = 0
  · rw [if_pos c]
    exact ⟨0, rfl, by omega, by rw [c]; exact Int.zero_mul _⟩
  · rw [if_neg c] at h ⊢
    by_cases g : good (redN k n).1 ((redN k n).2 : Int) = true
    · rw [if_pos g]
      obtain ⟨h1, h2⟩ := redN_val k n
      exact ⟨(redN k n).2, rfl, h1, h2⟩
    · rw [if_neg g] at h; simp at h
theorem pz_val {a j b k : Int} (ha : good a j = true) (hb : good b k = true) (h : (pz a j b k).2.2 = true) : w (pp (pz a j b k)) * 16777216 = v a j * v b k := by
  have hg := pz_good a j b k
  obtain ⟨g0, g1, _⟩ := good_iff.1 hg
  obtain ⟨ka, rfl, hka⟩ := good_k ha
  obtain ⟨kb, rfl, hkb⟩ := good_k hb
  unfold pz at *
  rw [Int.toNat_natCast, Int.toNat_natCast] at *
  obtain ⟨m, e1, e2, e3⟩ := mk_val h
  unfold w pp v
  dsimp only at g0 g1 ⊢
  rw [e1] at g0 g1 ⊢
  generalize (mk (a * b) (ka + kb)).1 = M at *
  rw [Int.toNat_natCast, Int.toNat_natCast, Int.toNat_natCast]
  have q1 : (16777216 : Int) = 2 ^ 24 := rfl
  rw [q1, Int.mul_assoc, ← Int.pow_add]
  have q2 : a * 2 ^ (24 - ka) * (b * 2 ^ (24 - kb)) = a * b * (2 ^ (24 - ka) * 2 ^ (24 - kb)) := by grind
  rw [q2, ← Int.pow_add, ← e3, Int.mul_assoc, ← Int.pow_add]
  congr 2; omega
/-- A product more. -/
def stp (a j : Int) (p : Int × Int × Bool) : Int × Int × Bool := if p.2.2 = true then pz p.1 p.2.1 a j else (0, 0, false)
def rs (a j : Int) : Nat → Int × Int × Bool → Int × Int × Bool
  | 0, p => p
  | n + 1, p => rs a j n (stp a j p)
theorem rs_succ (a j : Int) : ∀ (n : Nat) (p : Int × Int × Bool), rs a j (n + 1) p = stp a j (rs a j n p)
  | 0, _ => rfl
  | n + 1, p => by
    show rs a j (n + 1) (stp a j p) = _
    rw [rs_succ a j n]; rfl
theorem rs_false (a j : Int) : ∀ (n : Nat) (p : Int × Int × Bool), ¬ p.2.2 = true → ¬ (rs a j n p).2.2 = true
  | 0, _, h => h
  | n + 1, p, h => by
    show ¬ (rs a j n (stp a j p)).2.2 = true
    apply rs_false
    unfold stp; rw [if_neg h]; decide
theorem rs_none (a j : Int) : ∀ n : Nat, rs a j n (0, 0, false) = (0, 0, false)
  | 0 => rfl
  | n + 1 => by
    show rs a j n (stp a j (0, 0, false)) = _
    have : stp a j (0, 0, false) = (0, 0, false) := rfl
    rw [this]; exact rs_none a j n
theorem step_good {a j : Int} {p : Int × Int × Bool} : G (pp (stp a j p)) := by
  unfold stp
  by_cases c : p.2.2 = true
  · rw [if_pos c]; exact pz_good _ _ _ _
  · rw [if_neg c]; unfold G; decide
theorem rs_good {a j : Int} : ∀ (n : Nat) (p : Int × Int × Bool), G (pp p) → G (pp (rs a j n p))
  | 0, _, h => h
  | n + 1, _, _ => rs_good n _ step_good
theorem ivRaise_l0 {a j : Int} (ga : good a j = true) : ∀ (n : Nat) (x y : Int), n < 1000 → good x y = true → Ev (fun K => spec_ivRaise.l0 K (n : Int) a j x y) (rs a j n (x, y, true)) := by
  intro n
  induction n with
  | zero =>
    intro x y _ _
    refine ⟨1, fun K hK => ?_⟩
    obtain ⟨K, rfl⟩ : ∃ j, K = j + 1 := ⟨K - 1, by omega⟩
    simp only [spec_ivRaise.l0]
    rw [if_neg (show ¬ ((0 : Nat) : Int) > 0 by omega)]; rfl
  | succ n ih =>
    intro x y hn hx
    obtain ⟨K0, h0⟩ := spec_mul hx ga
    dsimp only at h0
    have e : rs a j (n + 1) (x, y, true) = rs a j n (pz x y a j) := rfl
    rw [e]
    by_cases c : (pz x y a j).2.2 = true
    · obtain ⟨K1, h1⟩ := ih (pz x y a j).1 (pz x y a j).2.1 (by omega) (pz_good x y a j)
      dsimp only at h1
      have e2 : ((pz x y a j).1, (pz x y a j).2.1, true) = pz x y a j := by rw [← c]
      rw [e2] at h1
      refine ⟨K0 + K1 + 1, fun K hK => ?_⟩
      obtain ⟨K, rfl⟩ : ∃ j, K = j + 1 := ⟨K - 1, by omega⟩
      simp only [spec_ivRaise.l0]
      rw [if_pos (by omega), h0 K (by omega)]; simp only [bs]
      rw [if_pos c, w64 (by omega) (by omega), show ((n + 1 : Nat) : Int) - 1 = (n : Int) by omega]
      exact h1 K (by omega)
    · refine ⟨K0 + 1, fun K hK => ?_⟩
      obtain ⟨K, rfl⟩ : ∃ j, K = j + 1 := ⟨K - 1, by omega⟩
      simp only [spec_ivRaise.l0]
      rw [if_pos (by omega), h0 K (by omega)]; simp only [bs]
      rw [if_neg c]
      have := mk_false c
      have e3 : pz x y a j = (0, 0, false) := this
      rw [e3, rs_none]
theorem one_good : good 1 0 = true := by decide
theorem pz_one {a j : Int} (ga : good a j = true) : pz 1 0 a j = (a, j, true) := by
  obtain ⟨k, rfl, hk⟩ := good_k ga
  unfold pz
  rw [Int.one_mul, Int.toNat_natCast, show (0 : Int).toNat + k = k by simp]
  exact mk_self ga
theorem ivRaise_ev {a j : Int} (ga : good a j = true) (n : Nat) (hn : n < 1000) : Ev (fun K => spec_ivRaise.f K a j (n : Int)) (rs a j n (1, 0, true)) := by
  obtain ⟨K0, h0⟩ := ivRaise_l0 ga n 1 0 hn one_good
  dsimp only at h0
  refine ⟨K0, fun K hK => ?_⟩
  dsimp only; unfold spec_ivRaise.f spec_dyInt.f; simp only [bs]
  exact h0 K hK
theorem pow_l0 {a j b k : Int} (ga : good a j = true) (gb : good b k = true) (n : Nat) (hn : n < 1000) : ∀ (d i : Nat) (ok : Bool) (p q : Int × Int), i + d + 1 = n → G p → G q →
    ∃ ok' p' q', G p' ∧ G q' ∧ (ok' = true ↔ ok = true ∧ (rs a j d (p.1, p.2, true)).2.2 = true ∧ (rs b k d (q.1, q.2, true)).2.2 = true) ∧
      (ok' = true → p' = pp (rs a j d (p.1, p.2, true)) ∧ q' = pp (rs b k d (q.1, q.2, true))) ∧
      ∀ r, Ev (fun K => impl_reckoner_power.l0 K (n : Int) ((n : Int) - 1) ((n : Int) - 1) ok' a j b k p'.1 p'.2 q'.1 q'.2) r → Ev (fun K => impl_reckoner_power.l0 K (n : Int) ((n : Int) - 1) (i : Int) ok a j b k p.1 p.2 q.1 q.2) r := by
  intro d
  induction d with
  | zero =>
    intro i ok p q hi gp gq
    refine ⟨ok, p, q, gp, gq, by simp [rs], fun _ => ⟨rfl, rfl⟩, fun r h => ?_⟩
    rw [show (i : Int) = (n : Int) - 1 by omega]; exact h
  | succ d ih =>
    intro i ok p q hi gp gq
    obtain ⟨K0, h0⟩ := impl_mul ok gp ga
    have gu : G (pp (kp ok (pz p.1 p.2 a j))) := kp_good (pz_good _ _ _ _)
    generalize eu : kp ok (pz p.1 p.2 a j) = u at *
    obtain ⟨K1, h1⟩ := impl_mul u.2.2 gq gb
    have gt : G (pp (kp u.2.2 (pz q.1 q.2 b k))) := kp_good (pz_good _ _ _ _)
    generalize et : kp u.2.2 (pz q.1 q.2 b k) = t at *
    obtain ⟨ok', p', q', gp', gq', hok, hval, hev⟩ := ih (i + 1) t.2.2 (pp u) (pp t) (by omega) gu gt
    dsimp only at h0 h1
    have e1 : rs a j (d + 1) (p.1, p.2, true) = rs a j d (pz p.1 p.2 a j) := rfl
    have e2 : rs b k (d + 1) (q.1, q.2, true) = rs b k d (pz q.1 q.2 b k) := rfl
    have ht : t.2.2 = true ↔ ok = true ∧ (pz p.1 p.2 a j).2.2 = true ∧ (pz q.1 q.2 b k).2.2 = true := by
      rw [← et, ← eu]; unfold kp
      generalize pz p.1 p.2 a j = x1
      generalize pz q.1 q.2 b k = x2
      obtain ⟨_, _, o1⟩ := x1
      obtain ⟨_, _, o2⟩ := x2
      cases ok <;> cases o1 <;> cases o2 <;> simp
    have huv : t.2.2 = true → ((pp u).1, (pp u).2, true) = pz p.1 p.2 a j ∧ ((pp t).1, (pp t).2, true) = pz q.1 q.2 b k := by
      intro c
      obtain ⟨o, o1, o2⟩ := ht.1 c
      have k1 : u = pz p.1 p.2 a j := by rw [← eu]; unfold kp; rw [if_pos ⟨o, o1⟩]
      have k2 : t = pz q.1 q.2 b k := by rw [← et, k1]; unfold kp; rw [if_pos ⟨o1, o2⟩]
      rw [k1, k2]; unfold pp
      exact ⟨by rw [← o1], by rw [← o2]⟩
    refine ⟨ok', p', q', gp', gq', ?_, ?_, ?_⟩
    · rw [hok, e1, e2]
      constructor
      · rintro ⟨c, c1, c2⟩
        obtain ⟨v1, v2⟩ := huv c
        rw [v1] at c1; rw [v2] at c2
        exact ⟨(ht.1 c).1, c1, c2⟩
      · rintro ⟨c, c1, c2⟩
        have o1 : (pz p.1 p.2 a j).2.2 = true := Classical.byContradiction fun x => rs_false a j d _ x c1
        have o2 : (pz q.1 q.2 b k).2.2 = true := Classical.byContradiction fun x => rs_false b k d _ x c2
        have c' := ht.2 ⟨c, o1, o2⟩
        obtain ⟨v1, v2⟩ := huv c'
        rw [v1, v2]; exact ⟨c', c1, c2⟩
    · intro c
      obtain ⟨v1, v2⟩ := hval c
      have c' := (hok.1 c).1
      obtain ⟨w1, w2⟩ := huv c'
      rw [w1] at v1; rw [w2] at v2
      exact ⟨v1, v2⟩
    · intro r h
      obtain ⟨K2, h2⟩ := hev r h
      dsimp only at h2
      refine ⟨K0 + K1 + K2 + 1, fun K hK => ?_⟩
      obtain ⟨K, rfl⟩ : ∃ j, K = j + 1 := ⟨K - 1, by omega⟩
      simp only [impl_reckoner_power.l0]
      rw [if_pos (by omega), h0 K (by omega)]; simp only [bs]
      rw [h1 K (by omega)]; simp only [bs]
      rw [w64 (by omega) (by omega), show (i : Int) + 1 = ((i + 1 : Nat) : Int) by omega]
      exact h2 K (by omega)
theorem signOf_eq (a j b k : Int) : impl_signOf.f a j b k = some (if 0 < a then 1 else if b < 0 then -1 else 0) := by
  unfold impl_signOf.f
  by_cases c : a > 0
  · rw [if_pos c, if_pos c]
  · rw [if_neg c, if_neg c]; split <;> rfl
/-- The power's interval, behind the products. -/
def tl (n : Nat) (a b : Int) (p q : Int × Int) : Int × Int × Int × Int :=
  if n % 2 = 0 then (if a ≤ 0 ∧ 0 ≤ b then rndI 0 0 (mx2 p q).1 (mx2 p q).2 16 else rndI (mn2 p q).1 (mn2 p q).2 (mx2 p q).1 (mx2 p q).2 16) else rndI p.1 p.2 q.1 q.2 16
theorem zero_good : good 0 0 = true := by decide
theorem pow_tail {a j b k : Int} (n : Nat) (ok : Bool) {p q : Int × Int} (gp : G p) (gq : G q) :
    Ev (fun K => impl_reckoner_power.l0 K (n : Int) ((n : Int) - 1) ((n : Int) - 1) ok a j b k p.1 p.2 q.1 q.2) ((tl n a b p q).1, (tl n a b p q).2.1, (tl n a b p q).2.2.1, (tl n a b p q).2.2.2, ok) := by
  have e16 : ((16 : Nat) : Int) = 16 := rfl
  have hm : Int.tmod (n : Int) 2 = 0 ↔ n % 2 = 0 := by rw [tmod_two]; omega
  by_cases c : n % 2 = 0
  · obtain ⟨K0, h0⟩ := lesser_ev gp gq
    obtain ⟨K1, h1⟩ := greater_ev gp gq
    dsimp only at h0 h1
    by_cases z : a ≤ 0 ∧ 0 ≤ b
    · obtain ⟨K2, h2⟩ := roundOut_ev zero_good (G_mx2 gp gq) (p := 16) (by omega)
      dsimp only at h2
      rw [e16] at h2
      refine ⟨K0 + K1 + K2 + 1, fun K hK => ?_⟩
      obtain ⟨K, rfl⟩ : ∃ j, K = j + 1 := ⟨K - 1, by omega⟩
      simp only [impl_reckoner_power.l0]
      rw [if_neg (by omega), if_pos (hm.2 c), h0 K (by omega)]; simp only [bs]
      rw [h1 K (by omega)]; simp only [bs]
      rw [signOf_eq]; simp only [bs]
      have zz : (if 0 < a then (1 : Int) else if b < 0 then -1 else 0) = 0 := by rw [if_neg (by omega), if_neg (by omega)]
      rw [if_pos zz]
      unfold impl_integer.f; simp only [bs]
      rw [h2 K (by omega)]; simp only [bs]
      unfold tl; rw [if_pos c, if_pos z]
    · obtain ⟨K2, h2⟩ := roundOut_ev (G_mn2 gp gq) (G_mx2 gp gq) (p := 16) (by omega)
      dsimp only at h2
      rw [e16] at h2
      refine ⟨K0 + K1 + K2 + 1, fun K hK => ?_⟩
      obtain ⟨K, rfl⟩ : ∃ j, K = j + 1 := ⟨K - 1, by omega⟩
      simp only [impl_reckoner_power.l0]
      rw [if_neg (by omega), if_pos (hm.2 c), h0 K (by omega)]; simp only [bs]
      rw [h1 K (by omega)]; simp only [bs]
      rw [signOf_eq]; simp only [bs]
      have nz : ¬ (if 0 < a then (1 : Int) else if b < 0 then -1 else 0) = 0 := by
        by_cases x : 0 < a
        · rw [if_pos x]; decide
        · rw [if_neg x, if_pos (by omega)]; decide
      rw [if_neg nz, h2 K (by omega)]; simp only [bs]
      unfold tl; rw [if_pos c, if_neg z]
  · obtain ⟨K2, h2⟩ := roundOut_ev gp gq (p := 16) (by omega)
    dsimp only at h2
    rw [e16] at h2
    refine ⟨K2 + 1, fun K hK => ?_⟩
    obtain ⟨K, rfl⟩ : ∃ j, K = j + 1 := ⟨K - 1, by omega⟩
    simp only [impl_reckoner_power.l0]
    rw [if_neg (by omega), if_neg (fun x => c (hm.1 x)), h2 K (by omega)]; simp only [bs]
    unfold tl; rw [if_neg c]
end Go.Proofs.Ytinpcalgdiigiaa.PD
