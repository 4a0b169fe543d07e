import Derived.Test.YtlhojnbllfmmoaaDoorQIntextPDx1
import Derived.Test.YtlhojnbllfmmoaaDoorQIntextMb
/- Sums, comparisons, roundings and products of dyadic numbers: what the program computes and what the reference computes is one plain function: lemmas on the printed functions. -/
namespace Go.Proofs.YtlhojnbllfmmoaaDoor.PD
open Go.RowKit Go.Proofs.YtlhojnbllfmmoaaDoorW.PrintWords Go.Proofs.YtlhojnbllfmmoaaDoorW.PrintLast Go.Proofs.YtlhojnbllfmmoaaDoorW.PrintMore
/-- As Option.bind_some, but no rfl lemma: the kernel is not asked to unfold the callee. -/
theorem bs {α β : Type} (a : α) (f : α → Option β) : (some a).bind f = f a := id (Option.bind_some a f)
def Small (n : Int) : Prop := -1099511627776 ≤ n ∧ n ≤ 1099511627776
instance small_dec (n : Int) : Decidable (Small n) := inferInstanceAs (Decidable (-1099511627776 ≤ n ∧ n ≤ 1099511627776))
theorem good_small {n k : Int} (h : good n k = true) : Small n := by have := good_iff.1 h; exact ⟨this.2.2.1, this.2.2.2.1⟩
theorem good_k {n k : Int} (h : good n k = true) : ∃ j : Nat, k = (j : Int) ∧ j ≤ 24 := by
  have := good_iff.1 h
  exact ⟨k.toNat, by omega, by omega⟩
theorem pow_le {a b : Nat} (h : a ≤ b) : (2 : Int) ^ a ≤ 2 ^ b := by
  rw [pow_cast, pow_cast]; exact_mod_cast Nat.pow_le_pow_right (show 0 < 2 by decide) h
theorem sg_mul (n : Bool) (m c : Int) : sg n (m * c) = sg n m * c := by unfold sg; split <;> simp [Int.neg_mul]
/-- A small number as a wide one, times a power of 2. -/
theorem wide_shift {n : Int} (hn : Small n) {d : Nat} (hd : d ≤ 24) : ∃ l0 h l, impl_wideOf.f n = some (decide (n < 0), 0, l0) ∧ impl_wide_shift.f (decide (n < 0)) 0 l0 (d : Int) = some (decide (n < 0), h, l) ∧ Wide h l ∧
    sg (decide (n < 0)) (num h l) = n * 2 ^ d ∧ num h l ≤ 18446744073709551616 := by
  obtain ⟨h1, h2⟩ := hn
  obtain ⟨l0, e, p0, p1, p2, p3⟩ := wideOf_ev (n := n) (by omega) (by omega)
  have hp := pow_pos d
  have hp2 : (2 : Int) ^ d ≤ 16777216 := pow_le hd
  have hn0 : num 0 l0 = l0 := by unfold num; omega
  have hb : l0 * 2 ^ d ≤ 1099511627776 * 16777216 := Int.mul_le_mul (by omega) hp2 (by omega) (by omega)
  obtain ⟨h, l, e2, W, hv⟩ := shiftL (n := decide (n < 0)) (h := 0) (l := l0) ⟨by omega, by omega, by omega, by omega⟩ (s := d) (by omega) (by rw [hn0]; omega)
  rw [hn0] at hv
  exact ⟨l0, h, l, e, e2, W, by rw [hv, sg_mul, p2], by rw [hv]; omega⟩
theorem mx_cast (a b : Nat) : mx (a : Int) (b : Int) = ((max a b : Nat) : Int) := by unfold mx; split <;> omega
/-- What both add: two numbers over one power of 2. -/
def over (a : Int) (ka kb : Nat) : Int := a * 2 ^ (max ka kb - ka)
theorem two_shift {a b : Int} {ka kb : Nat} (ha : Small a) (hb : Small b) (hka : ka ≤ 24) (hkb : kb ≤ 24) : ∃ l0 h l l0' h' l', impl_wideOf.f a = some (decide (a < 0), 0, l0) ∧
    impl_wide_shift.f (decide (a < 0)) 0 l0 (wrap64 (mx (ka : Int) (kb : Int) - (ka : Int))) = some (decide (a < 0), h, l) ∧ Wide h l ∧ sg (decide (a < 0)) (num h l) = over a ka kb ∧ num h l ≤ 18446744073709551616 ∧
    impl_wideOf.f b = some (decide (b < 0), 0, l0') ∧ impl_wide_shift.f (decide (b < 0)) 0 l0' (wrap64 (mx (ka : Int) (kb : Int) - (kb : Int))) = some (decide (b < 0), h', l') ∧ Wide h' l' ∧ sg (decide (b < 0)) (num h' l') = over b kb ka ∧ num h' l' ≤ 18446744073709551616 := by
  obtain ⟨l0, h, l, e1, e2, W, v, bd⟩ := wide_shift ha (d := max ka kb - ka) (by omega)
  obtain ⟨l0', h', l', e1', e2', W', v', bd'⟩ := wide_shift hb (d := max ka kb - kb) (by omega)
  have c1 : wrap64 (mx (ka : Int) (kb : Int) - (ka : Int)) = ((max ka kb - ka : Nat) : Int) := by rw [mx_cast, w64 (by omega) (by omega)]; omega
  have c2 : wrap64 (mx (ka : Int) (kb : Int) - (kb : Int)) = ((max ka kb - kb : Nat) : Int) := by rw [mx_cast, w64 (by omega) (by omega)]; omega
  refine ⟨l0, h, l, l0', h', l', e1, by rw [c1]; exact e2, W, v, bd, e1', by rw [c2]; exact e2', W', ?_, bd'⟩
  rw [v']; unfold over; rw [Nat.max_comm]
theorem compareD_ev {a b : Int} {ka kb : Nat} (ha : Small a) (hb : Small b) (hka : ka ≤ 24) (hkb : kb ≤ 24) :
    Ev (fun K => impl_compareD.f K a (ka : Int) b (kb : Int)) (cmpI (over a ka kb) (over b kb ka)) := by
  obtain ⟨l0, h, l, l0', h', l', e1, e2, W, v, bd, e1', e2', W', v', bd'⟩ := two_shift ha hb hka hkb
  obtain ⟨K0, hk⟩ := compareWide_ev (n0 := decide (a < 0)) (n1 := decide (b < 0)) W W'
  dsimp only at hk
  refine ⟨K0, fun K hK => ?_⟩
  dsimp only; unfold impl_compareD.f
  rw [e1]; simp only [Option.bind_some]; rw [e2]; simp only [Option.bind_some]; rw [e1']; simp only [Option.bind_some]; rw [e2']; simp only [Option.bind_some]
  rw [hk K (by omega), v, v']; rfl
/-! the reference's own way -/
theorem dyAt_l0 (aK : Int) (k : Nat) (hk : k ≤ 4611686018427387904) : ∀ (d i : Nat) (N : Int), i + d = k → -2305843009213693952 ≤ N → N ≤ 2305843009213693952 →
    ∃ r ok, Ev (fun K => spec_dyAt.l0 K (k : Int) (i : Int) N aK) (r, ok) ∧ (ok = true → r = N * 2 ^ d ∧ -2305843009213693952 ≤ r ∧ r ≤ 2305843009213693952) ∧
      (ok = false → r = 0 ∧ 0 < d ∧ (N * 2 ^ d < -1152921504606846976 ∨ 1152921504606846976 < N * 2 ^ d) ∧ (N * 2 ^ d) % 2 = 0) := by
  intro d
  induction d with
  | zero =>
    intro i N hi h1 h2
    refine ⟨N, true, ⟨1, fun K hK => ?_⟩, fun _ => ⟨by simp, h1, h2⟩, fun h => by cases h⟩
    obtain ⟨K, rfl⟩ : ∃ m, K = m + 1 := ⟨K - 1, by omega⟩
    simp only [spec_dyAt.l0]
    rw [if_neg (by omega)]
  | succ d ih =>
    intro i N hi h1 h2
    have hp := pow_pos d
    have e2 : N * 2 ^ (d + 1) = N * 2 * 2 ^ d := by rw [Int.pow_succ, Int.mul_assoc, Int.mul_comm (2 ^ d) 2]
    have p60 : spec_dyPower.f 60 = some 1152921504606846976 := dyPower_eq 60 (by decide)
    have hstep : ∀ K, spec_dyAt.l0 (K + 1) (k : Int) (i : Int) N aK = if -1152921504606846976 ≤ N ∧ N ≤ 1152921504606846976 then spec_dyAt.l0 K (k : Int) ((i + 1 : Nat) : Int) (wrap64 (N * 2)) aK else some (0, false) := by
      intro K
      simp only [spec_dyAt.l0]
      rw [if_pos (by omega), p60]; simp only [Option.bind_some]
      rw [l1In_eq, w64 (x := (-1152921504606846976 : Int)) (by omega) (by omega), w64 (x := (i : Int) + 1) (by omega) (by omega)]; simp only [Option.bind_some, decide_eq_true_eq]
      rfl
    by_cases hc : -1152921504606846976 ≤ N ∧ N ≤ 1152921504606846976
    · obtain ⟨r, ok, ⟨K0, hk0⟩, h3, h4⟩ := ih (i + 1) (N * 2) (by omega) (by omega) (by omega)
      dsimp only at hk0
      refine ⟨r, ok, ⟨K0 + 1, fun K hK => ?_⟩, fun h => by rw [e2]; exact h3 h, fun h => by rw [e2]; exact ⟨(h4 h).1, by omega, (h4 h).2.2⟩⟩
      obtain ⟨K, rfl⟩ : ∃ m, K = m + 1 := ⟨K - 1, by omega⟩
      dsimp only; rw [hstep, if_pos hc, w64 (by omega) (by omega), hk0 K (by omega)]
    · refine ⟨0, false, ⟨1, fun K hK => ?_⟩, fun h => (by cases h), fun _ => ⟨rfl, by omega, ?_, ?_⟩⟩
      · obtain ⟨K, rfl⟩ : ∃ m, K = m + 1 := ⟨K - 1, by omega⟩
        dsimp only; rw [hstep, if_neg hc]
      · rw [e2]
        rcases Int.lt_or_le N 0 with h | h
        · left
          have : N * 2 * 2 ^ d ≤ N * 2 * 1 := Int.mul_le_mul_of_nonpos_left (by omega) (by omega)
          omega
        · right
          have : N * 2 * 1 ≤ N * 2 * 2 ^ d := Int.mul_le_mul_of_nonneg_left (by omega) (by omega)
          omega
      · rw [e2, Int.mul_right_comm]; omega
theorem dyAt_ev {n : Int} {ka k : Nat} (hn : Small n) (hk : ka ≤ k) (hk2 : k ≤ 25) :
    ∃ r ok, Ev (fun K => spec_dyAt.f K n (ka : Int) (k : Int)) (r, ok) ∧ (ok = true → r = n * 2 ^ (k - ka) ∧ -2305843009213693952 ≤ r ∧ r ≤ 2305843009213693952) ∧
      (ok = false → ka < k ∧ (n * 2 ^ (k - ka) < -1152921504606846976 ∨ 1152921504606846976 < n * 2 ^ (k - ka)) ∧ (n * 2 ^ (k - ka)) % 2 = 0) := by
  obtain ⟨h1, h2⟩ := hn
  by_cases h0 : n = 0
  · refine ⟨0, true, ⟨0, fun K _ => ?_⟩, fun _ => ⟨by rw [h0, Int.zero_mul], by omega, by omega⟩, fun h => by cases h⟩
    dsimp only; unfold spec_dyAt.f; rw [if_pos h0]
  · obtain ⟨r, ok, ⟨K0, hk0⟩, h3, h4⟩ := dyAt_l0 (ka : Int) k (by omega) (k - ka) ka n (by omega) (by omega) (by omega)
    dsimp only at hk0
    refine ⟨r, ok, ⟨K0, fun K hK => ?_⟩, h3, fun h => ⟨by have := (h4 h).2.1; omega, (h4 h).2.2⟩⟩
    dsimp only; unfold spec_dyAt.f; rw [if_neg h0, hk0 K hK]
theorem sign_eq {a b : Int} (h1 : -9223372036854775808 ≤ a - b) (h2 : a - b ≤ 9223372036854775807) : spec_l1Sign.f (wrap64 (a - b)) = some (cmpI a b) := by
  unfold spec_l1Sign.f cmpI
  rw [w64 h1 h2]
  by_cases c : a < b
  · rw [if_neg (by omega), if_pos (by omega), if_pos c]
  · rw [if_neg c]
    by_cases c2 : b < a
    · rw [if_pos (by omega), if_pos c2]
    · rw [if_neg (by omega), if_neg (by omega), if_neg c2]
theorem cmpI_mul {a b c : Int} (hc : 0 < c) : cmpI (a * c) (b * c) = cmpI a b := by
  unfold cmpI
  have e1 : a * c < b * c ↔ a < b := Int.mul_lt_mul_right hc
  have e2 : b * c < a * c ↔ b < a := Int.mul_lt_mul_right hc
  by_cases h : a < b
  · rw [if_pos (e1.2 h), if_pos h]
  · rw [if_neg (fun x => h (e1.1 x)), if_neg h]
    by_cases h : b < a
    · rw [if_pos (e2.2 h), if_pos h]
    · rw [if_neg (fun x => h (e2.1 x)), if_neg h]
theorem floor_eq {a : Int} {ka : Nat} (ha : Small a) (hka : ka ≤ 24) : spec_dyFloor.f a (ka : Int) = some (a / 2 ^ ka) := by
  obtain ⟨h1, h2⟩ := ha
  unfold spec_dyFloor.f
  rw [dyPower_eq ka (by omega)]; simp only [Option.bind_some]
  rw [dyDown_eq (pow_pos ka) (by omega) (by omega)]; rfl
theorem dyCmp_ev {a b : Int} {ka kb : Nat} (ha : Small a) (hb : Small b) (hka : ka ≤ 24) (hkb : kb ≤ 24) :
    Ev (fun K => spec_dyCmp.f K a (ka : Int) b (kb : Int)) (cmpI (over a ka kb) (over b kb ka)) := by
  have part : ∀ {n : Int} {k : Nat}, Small n → k ≤ 24 → ∃ x, Ev (fun K => spec_dyAt.f K (wrap64 (n - wrap64 (n / 2 ^ k * 2 ^ k))) (k : Int) 24) (x, true) ∧ 0 ≤ x ∧ x < 16777216 ∧ n * 2 ^ (24 - k) = n / 2 ^ k * 16777216 + x ∧ Small (n / 2 ^ k) := by
    intro n k hn hk
    obtain ⟨h1, h2⟩ := hn
    have hp := pow_pos k
    have hbt := ediv_between (a := n) hp
    have hm := Int.mul_ediv_add_emod n (2 ^ k)
    have hr0 : 0 ≤ n % 2 ^ k := Int.emod_nonneg _ (by omega)
    have hr1 : n % 2 ^ k < 2 ^ k := Int.emod_lt_of_pos _ hp
    have hpk : (2 : Int) ^ k ≤ 16777216 := pow_le hk
    have hpq : (2 : Int) ^ k * 2 ^ (24 - k) = 16777216 := by rw [← Int.pow_add, show k + (24 - k) = 24 by omega]; rfl
    have hq := pow_pos (24 - k)
    rw [Int.mul_comm] at hm
    have hs : Small (n / 2 ^ k) := by
      rcases Int.lt_or_le n 0 with h | h
      · have := hbt.2 h; exact ⟨by omega, by omega⟩
      · have := hbt.1 h; exact ⟨by omega, by omega⟩
    have e1 : wrap64 (n - wrap64 (n / 2 ^ k * 2 ^ k)) = n % 2 ^ k := by
      rw [w64 (x := n / 2 ^ k * 2 ^ k) (by omega) (by omega), w64 (by omega) (by omega)]; omega
    rw [e1]
    have hx1 : n % 2 ^ k * 2 ^ (24 - k) < 16777216 := by
      rw [← hpq]; exact Int.mul_lt_mul_of_pos_right hr1 hq
    have hx0 : 0 ≤ n % 2 ^ k * 2 ^ (24 - k) := Int.mul_nonneg hr0 (by omega)
    obtain ⟨r, ok, e, t, f⟩ := dyAt_ev (n := n % 2 ^ k) (ka := k) (k := 24) ⟨by omega, by omega⟩ hk (by omega)
    cases ok with
    | false => have := (f rfl).2.1; omega
    | true =>
      obtain ⟨t1, _, _⟩ := t rfl
      subst t1
      refine ⟨_, e, hx0, hx1, ?_, hs⟩
      have e5 : n * 2 ^ (24 - k) = (n / 2 ^ k * 2 ^ k + n % 2 ^ k) * 2 ^ (24 - k) := by rw [hm]
      rw [e5, Int.add_mul, Int.mul_assoc, hpq]
  obtain ⟨x, ⟨K0, h0⟩, x0, x1, ex, sx⟩ := part ha hka
  obtain ⟨y, ⟨K1, h1⟩, y0, y1, ey, sy⟩ := part hb hkb
  dsimp only at h0 h1
  have ec : cmpI (over a ka kb) (over b kb ka) = cmpI (a * 2 ^ (24 - ka)) (b * 2 ^ (24 - kb)) := by
    rw [← cmpI_mul (pow_pos (24 - max ka kb))]
    unfold over
    rw [Int.mul_assoc, ← Int.pow_add, Int.mul_assoc, ← Int.pow_add]
    congr 3 <;> omega
  rw [ec, ex, ey]
  obtain ⟨sx1, sx2⟩ := sx
  obtain ⟨sy1, sy2⟩ := sy
  refine ⟨K0 + K1, fun K hK => ?_⟩
  dsimp only; unfold spec_dyCmp.f
  rw [floor_eq ha hka, floor_eq hb hkb]; simp only [Option.bind_some]
  by_cases hpq : a / 2 ^ ka = b / 2 ^ kb
  · rw [if_pos hpq, dyPower_eq ka (by omega)]; simp only [Option.bind_some]
    rw [h0 K (by omega)]; simp only [Option.bind_some]
    rw [dyPower_eq kb (by omega)]; simp only [Option.bind_some]
    rw [h1 K (by omega)]; simp only [Option.bind_some]
    rw [sign_eq (by omega) (by omega), hpq]; simp only [Option.bind_some]
    congr 1
    unfold cmpI; simp only [Int.add_lt_add_iff_left]
  · rw [if_neg hpq, sign_eq (by omega) (by omega)]; simp only [Option.bind_some]
    congr 1
    unfold cmpI
    by_cases c : a / 2 ^ ka < b / 2 ^ kb
    · rw [if_pos c, if_pos (by omega)]
    · rw [if_neg c, if_pos (show b / 2 ^ kb < a / 2 ^ ka by omega), if_neg (by omega), if_pos (by omega)]
/-! rounding -/
end Go.Proofs.YtlhojnbllfmmoaaDoor.PD
