import Derived.Test.YtinpcalgdiigiaaQDivilsPDx1
import Derived.Test.YtinpcalgdiigiaaQDivilsMk
/- Quotients rounded down: both come to one number. -/
namespace Go.Proofs.Ytinpcalgdiigiaa.PD
open Go.RowKit Go.Proofs.YtinpcalgdiigiaaW.PrintWords Go.Proofs.YtinpcalgdiigiaaW.PrintLast Go.Proofs.YtinpcalgdiigiaaW.PrintMore
/-- n 2^s / d, rounded down. -/
def dq (n d s : Int) : Int := (if d < 0 then -n else n) * 2 ^ s.toNat / ((if d < 0 then -d else d) * 2 ^ (-s).toNat)
theorem mx_zero (s : Int) : mx s 0 = (s.toNat : Int) := by unfold mx; split <;> omega
theorem mn_zero (s : Int) : mn s 0 = -((-s).toNat : Int) := by unfold mn; split <;> omega
/-- Rounded down, from a quotient of sizes: one less, where the sign is there and a rest is left. -/
theorem sg_floor (neg : Bool) {M E : Int} (hE : 0 < E) : (sg neg M) / E = if neg = true ∧ M % E ≠ 0 then -(M / E) - 1 else sg neg (M / E) := by
  have hd := Int.mul_ediv_add_emod M E
  have hm0 := Int.emod_nonneg M (show E ≠ 0 by omega)
  have hm1 := Int.emod_lt_of_pos M hE
  cases neg with
  | false => rw [if_neg (by simp)]; rfl
  | true =>
    rw [sg_true, sg_true]
    by_cases c : M % E = 0
    · rw [if_neg (by simp [c])]
      exact (div_one (Q := -(M / E)) (R := 0) (by rw [Int.neg_mul, Int.mul_comm]; omega) (by omega) hE).1
    · rw [if_pos ⟨rfl, c⟩]
      refine (div_one (Q := -(M / E) - 1) (R := E - M % E) ?_ (by omega) (by omega)).1
      have : (-(M / E) - 1) * E = -(E * (M / E)) - E := by grind
      rw [this]; omega
theorem quot_ev {n d kk : Int} {p : Nat} (hn : Small n) (hd : Small d) (hd0 : d ≠ 0) (hk1 : -24 ≤ kk) (hk2 : kk ≤ 24) (hp : p ≤ 24) :
    Ev (fun K => impl_quotientDown.f K n kk d (p : Int)) (mk (dq n d (kk + p)) p) := by
  obtain ⟨n1, n2⟩ := hn
  obtain ⟨d1, d2⟩ := hd
  have ew := wideOf_eq (n := n) (by omega) (by omega)
  have es := size_eq (n := d) (by omega) (by omega)
  have hs : wrap64 (kk + (p : Int)) = kk + p := w64 (by omega) (by omega)
  have hs2 : wrap64 (wrap64 (-kk) - (p : Int)) = -(kk + p) := by rw [w64 (x := -kk) (by omega) (by omega), w64 (by omega) (by omega)]; omega
  unfold dq
  generalize hss : kk + (p : Int) = s at *
  have hsg : (if d < 0 then -n else n) = sg (!(decide (n < 0)) == (decide (d < 0))) (if n < 0 then -n else n) := by
    by_cases c1 : n < 0
    · by_cases c2 : d < 0
      · simp [c1, c2, sg]
      · simp [c1, c2, sg]
    · by_cases c2 : d < 0
      · simp [c1, c2, sg]
      · simp [c1, c2, sg]
  rw [hsg]
  generalize hneg : (!(decide (n < 0)) == (decide (d < 0))) = neg at *
  have hN0 : 0 ≤ (if n < 0 then -n else n) := by split <;> omega
  have hN1 : (if n < 0 then -n else n) ≤ 1099511627776 := by split <;> omega
  have hD0 : 0 < (if d < 0 then -d else d) := by split <;> omega
  have hD1 : (if d < 0 then -d else d) ≤ 1099511627776 := by split <;> omega
  generalize hNn : (if n < 0 then -n else n) = N at *
  generalize hDd : (if d < 0 then -d else d) = D at *
  have ht := pow_pos s.toNat
  have ht2 : (2 : Int) ^ s.toNat ≤ 281474976710656 := pow_le (b := 48) (by omega)
  have hu := pow_pos (-s).toNat
  have hu2 : (2 : Int) ^ (-s).toNat ≤ 16777216 := pow_le (b := 24) (by omega)
  have hM0 : 0 ≤ N * 2 ^ s.toNat := Int.mul_nonneg hN0 (by omega)
  have hM1 : N * 2 ^ s.toNat ≤ 1099511627776 * 281474976710656 := Int.mul_le_mul hN1 ht2 (by omega) (by decide)
  obtain ⟨h, l, e1, ⟨W0, W1, W2, W3⟩, hv⟩ := shiftL (n := decide (n < 0)) (h := 0) (l := N) ⟨by omega, by omega, by omega, by omega⟩ (s := s.toNat) (by omega) (by unfold num; rw [Int.zero_mul, Int.zero_add]; omega)
  have hv' : h * 18446744073709551616 + l = N * 2 ^ s.toNat := by
    have : num h l = h * 18446744073709551616 + l := rfl
    rw [← this, hv]; unfold num; rw [Int.zero_mul, Int.zero_add]
  obtain ⟨K0, h0⟩ := div64_ev (hi := 0) (lo := h) (y := D) (by omega) hD0 W0 W1 (by omega)
  rw [Int.zero_mul, Int.zero_add] at h0
  have hr0 := Int.emod_nonneg h (show D ≠ 0 by omega)
  have hr1 := Int.emod_lt_of_pos h hD0
  have hrd := Int.mul_ediv_add_emod h D
  obtain ⟨K1, h1⟩ := div64_ev (hi := h % D) (lo := l) (y := D) hr0 hr1 W2 W3 (by omega)
  dsimp only at h0 h1
  have hlo0 : 0 ≤ (h % D * 18446744073709551616 + l) / D := Int.ediv_nonneg (by omega) (by omega)
  have hlo1 : (h % D * 18446744073709551616 + l) / D < 18446744073709551616 := by
    apply Int.ediv_lt_of_lt_mul hD0
    have : h % D * 18446744073709551616 ≤ (D - 1) * 18446744073709551616 := Int.mul_le_mul_of_nonneg_right (by omega) (by omega)
    omega
  have hhi := (ediv_between (a := h) hD0).1 W0
  -- the whole quotient
  have hQ : num (h / D) ((h % D * 18446744073709551616 + l) / D) = N * 2 ^ s.toNat / D := by
    unfold num
    rw [← hv']
    have : h * 18446744073709551616 + l = (h % D * 18446744073709551616 + l) + h / D * 18446744073709551616 * D := by
      have e : h / D * 18446744073709551616 * D = D * (h / D) * 18446744073709551616 := by grind
      rw [e]; omega
    rw [this, Int.add_mul_ediv_right _ _ (by omega), Int.add_comm]
  have hL : (h % D * 18446744073709551616 + l) % D = N * 2 ^ s.toNat % D := by
    rw [← hv']
    have : h * 18446744073709551616 + l = (h % D * 18446744073709551616 + l) + h / D * 18446744073709551616 * D := by
      have e : h / D * 18446744073709551616 * D = D * (h / D) * 18446744073709551616 := by grind
      rw [e]; omega
    rw [this, Int.add_mul_emod_self_right]
  rw [hL] at h1
  generalize hlq : (h % D * 18446744073709551616 + l) / D = ql at *
  have WQ : Wide (h / D) ql := ⟨hhi.1, by omega, hlo0, hlo1⟩
  generalize hM : N * 2 ^ s.toNat = M at *
  have hQ0 : 0 ≤ M / D := Int.ediv_nonneg hM0 (by omega)
  have hQ1 : M / D ≤ M := Int.ediv_le_self _ hM0
  obtain ⟨oh, ol, e2, WO, hO⟩ := shift_any (n := neg) WQ (s := -((-s).toNat : Int)) (by omega) (by omega) (by
    rw [hQ, show (-((-s).toNat : Int)).toNat = 0 by omega, Int.pow_zero, Int.mul_one]; omega)
  rw [hQ, show (-((-s).toNat : Int)).toNat = 0 by omega, Int.pow_zero, Int.mul_one, show (- -((-s).toNat : Int)).toNat = (-s).toNat by omega] at hO
  have hO0 : 0 ≤ num oh ol := by rw [hO]; exact Int.ediv_nonneg hQ0 (by omega)
  have hO1 : num oh ol ≤ M / D := by rw [hO]; exact Int.ediv_le_self _ hQ0
  have hE : 0 < D * 2 ^ (-s).toNat := Int.mul_pos hD0 hu
  have hOE : num oh ol = M / (D * 2 ^ (-s).toNat) := by rw [hO, Int.ediv_ediv_of_nonneg (by omega)]
  rw [← sg_mul, hM, sg_floor neg hE, ← hOE]
  -- what is exact
  have hrest : M % (D * 2 ^ (-s).toNat) = 0 ↔ M % D = 0 ∧ num oh ol * 2 ^ (-s).toNat = M / D := by
    have a1 := Int.mul_ediv_add_emod M D
    have a2 := Int.emod_nonneg M (show D ≠ 0 by omega)
    have a3 := Int.emod_lt_of_pos M hD0
    have b1 := Int.mul_ediv_add_emod (M / D) (2 ^ (-s).toNat)
    have b2 := Int.emod_nonneg (M / D) (show (2 : Int) ^ (-s).toNat ≠ 0 by omega)
    rw [← hO] at b1
    have c1 := Int.mul_ediv_add_emod M (D * 2 ^ (-s).toNat)
    rw [← hOE] at c1
    generalize M / D % 2 ^ (-s).toNat = rem at *
    have e : D * (M / D) = D * 2 ^ (-s).toNat * num oh ol + D * rem := by rw [← b1]; grind
    have hrem : 0 ≤ D * rem := Int.mul_nonneg (by omega) b2
    rw [Int.mul_comm] at b1
    constructor
    · intro x
      have : D * rem = 0 := by omega
      have hr : rem = 0 := by
        rcases Int.mul_eq_zero.1 this with g | g
        · omega
        · exact g
      exact ⟨by omega, by omega⟩
    · rintro ⟨x, y⟩
      have hr : rem = 0 := by omega
      rw [hr, Int.mul_zero] at e
      omega
  -- the last steps
  have j1f : Ev (fun K => impl_quotientDown.j1 K (p : Int) false neg oh ol) (mk (sg neg (num oh ol)) p) := by
    obtain ⟨K2, h2⟩ := fit_ev (n := neg) WO (k := p) (by omega)
    dsimp only at h2
    refine ⟨K2 + 1, fun K hK => ?_⟩
    obtain ⟨K, rfl⟩ : ∃ j, K = j + 1 := ⟨K - 1, by omega⟩
    simp only [impl_quotientDown.j1]
    rw [if_neg (by decide), h2 K (by omega)]; rfl
  have j1t : neg = true → Ev (fun K => impl_quotientDown.j1 K (p : Int) true neg oh ol) (mk (-(num oh ol) - 1) p) := by
    intro hng
    have hone : num 0 1 = 1 := by decide
    obtain ⟨an, ah, al, ⟨K2, h2⟩, WA, hA, hsame⟩ := add_ev (n0 := neg) (n1 := true) WO (h1 := 0) (l1 := 1) ⟨by decide, by decide, by decide, by decide⟩ (by rw [hone]; omega)
    have han := hsame hng
    rw [hng] at han
    rw [hng, sg_true, sg_true, hone] at hA
    rw [han] at hA
    obtain ⟨K3, h3⟩ := fit_ev (n := true) WA (k := p) (by omega)
    dsimp only at h2 h3
    rw [hA] at h3
    have ew1 := wideOf_eq (n := -1) (by decide) (by decide)
    refine ⟨K2 + K3 + 1, fun K hK => ?_⟩
    obtain ⟨K, rfl⟩ : ∃ j, K = j + 1 := ⟨K - 1, by omega⟩
    simp only [impl_quotientDown.j1]
    rw [if_pos trivial, ew1]; simp only [bs]
    have := h2 K (by omega)
    rw [show decide ((-1 : Int) < 0) = true by decide, show (if (-1 : Int) < 0 then - -1 else -1) = (1 : Int) by decide, this]; simp only [bs]
    rw [h3 K (by omega), Int.sub_eq_add_neg]; rfl
  have j0 : ∀ ex : Bool, (ex = true ↔ M % (D * 2 ^ (-s).toNat) = 0) → Ev (fun K => impl_quotientDown.j0 K (p : Int) ex neg h l neg oh ol) (mk (if neg = true ∧ M % (D * 2 ^ (-s).toNat) ≠ 0 then -(num oh ol) - 1 else sg neg (num oh ol)) p) := by
    intro ex hex
    by_cases c : neg = true
    · cases ex with
      | true =>
        obtain ⟨K2, h2⟩ := j1f
        dsimp only at h2
        refine ⟨K2 + 1, fun K hK => ?_⟩
        obtain ⟨K, rfl⟩ : ∃ j, K = j + 1 := ⟨K - 1, by omega⟩
        simp only [impl_quotientDown.j0]
        rw [if_pos c, if_neg (by have := hex.1 rfl; simp [this])]
        exact h2 K (by omega)
      | false =>
        obtain ⟨K2, h2⟩ := j1t c
        dsimp only at h2
        have hne : M % (D * 2 ^ (-s).toNat) ≠ 0 := fun x => by have := hex.2 x; simp at this
        refine ⟨K2 + 1, fun K hK => ?_⟩
        obtain ⟨K, rfl⟩ : ∃ j, K = j + 1 := ⟨K - 1, by omega⟩
        simp only [impl_quotientDown.j0]
        rw [if_pos c, if_pos ⟨c, hne⟩]
        exact h2 K (by omega)
    · obtain ⟨K2, h2⟩ := j1f
      dsimp only at h2
      refine ⟨K2 + 1, fun K hK => ?_⟩
      obtain ⟨K, rfl⟩ : ∃ j, K = j + 1 := ⟨K - 1, by omega⟩
      simp only [impl_quotientDown.j0]
      rw [if_neg c, if_neg (fun x => c x.1)]
      exact h2 K (by omega)
  by_cases hleft : M % D = 0
  · obtain ⟨th, tl, e3, WT, hT⟩ := shiftL (n := neg) WO (s := (-s).toNat) (by omega) (by
      have := Int.mul_le_mul hO1 hu2 (by omega) (by omega)
      omega)
    obtain ⟨K2, h2⟩ := compareSizes_ev (n0 := neg) (n1 := neg) WT WQ
    rw [hT, hQ] at h2
    obtain ⟨K3, h3⟩ := j0 (cmpI (num oh ol * 2 ^ (-s).toNat) (M / D) == 0) (by
      rw [hrest]; unfold cmpI
      constructor
      · intro x; refine ⟨hleft, ?_⟩
        split at x
        · simp at x
        · split at x
          · simp at x
          · omega
      · rintro ⟨_, x⟩; rw [if_neg (by omega), if_neg (by omega)]; rfl)
    dsimp only at h2 h3
    refine ⟨K0 + K1 + K2 + K3, fun K hK => ?_⟩
    dsimp only; unfold impl_quotientDown.f
    rw [ew]; simp only [bs]
    rw [hss, hs, mx_zero, mn_zero, hs2, mx_zero, e1, es]; simp only [bs]
    rw [h0 K (by omega)]; simp only [bs]
    rw [h1 K (by omega)]; simp only [bs]
    rw [hneg, e2]; simp only [bs]
    rw [if_pos hleft, e3]; simp only [bs]
    rw [h2 K (by omega)]; simp only [bs]
    exact h3 K (by omega)
  · obtain ⟨K3, h3⟩ := j0 false (by rw [hrest]; simp [hleft])
    dsimp only at h3
    refine ⟨K0 + K1 + K3, fun K hK => ?_⟩
    dsimp only; unfold impl_quotientDown.f
    rw [ew]; simp only [bs]
    rw [hss, hs, mx_zero, mn_zero, hs2, mx_zero, e1, es]; simp only [bs]
    rw [h0 K (by omega)]; simp only [bs]
    rw [h1 K (by omega)]; simp only [bs]
    rw [hneg, e2]; simp only [bs]
    rw [if_neg hleft]
    exact h3 K (by omega)
end Go.Proofs.Ytinpcalgdiigiaa.PD
