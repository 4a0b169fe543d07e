import Derived.Test.YtgaoniapddpaaaaQCornOfPDx1
import Derived.Test.YtgaoniapddpaaaaQCornOfMa
import Derived.Laws.BitsLemmas
/- The program's wide numbers: sizes, shifts, sums, comparisons, products, and how they come into the form of a dyadic number: plain lemmas on the printed functions. -/
namespace Go.Proofs.Ytgaoniapddpaaaa.PD
open Go.RowKit Go.Proofs.YtgaoniapddpaaaaW.PrintWords Go.Proofs.YtgaoniapddpaaaaW.PrintLast Go.Proofs.YtgaoniapddpaaaaW.PrintMore
/-- A sign and an absolute value. -/
def sg (neg : Bool) (m : Int) : Int := if neg = true then -m else m
/-- The two words of a wide number. -/
structure Wide (h l : Int) : Prop where
  h0 : 0 ≤ h
  h1 : h < 18446744073709551616
  l0 : 0 ≤ l
  l1 : l < 18446744073709551616
def num (h l : Int) : Int := h * 18446744073709551616 + l
theorem size_eq {n : Int} (h1 : -9223372036854775808 ≤ n) (h2 : n ≤ 9223372036854775807) : impl_size.f n = some (if n < 0 then -n else n) := by
  unfold impl_size.f
  by_cases h : n < 0
  · rw [if_pos h, if_pos h]
    by_cases he : n = -9223372036854775808
    · subst he; rw [u64w]; unfold wrap64; congr 1
    · rw [w64 (by omega) (by omega), u64s (by omega) (by omega)]
  · rw [if_neg h, if_neg h, u64s (by omega) (by omega)]
theorem wideOf_eq {n : Int} (h1 : -9223372036854775808 ≤ n) (h2 : n ≤ 9223372036854775807) : impl_wideOf.f n = some (decide (n < 0), 0, if n < 0 then -n else n) := by
  unfold impl_wideOf.f; rw [size_eq h1 h2]; rfl
theorem wideOf_ev {n : Int} (h1 : -9223372036854775808 ≤ n) (h2 : n ≤ 9223372036854775807) : ∃ l, impl_wideOf.f n = some (decide (n < 0), 0, l) ∧ 0 ≤ l ∧ l ≤ 9223372036854775808 ∧ sg (decide (n < 0)) l = n ∧ (l = n ∨ l = -n) := by
  refine ⟨_, wideOf_eq h1 h2, ?_⟩
  unfold sg
  by_cases h : n < 0
  · rw [if_pos h, if_pos (by simpa using h)]; omega
  · rw [if_neg h, if_neg (by simpa using h)]; omega
theorem isZero_eq (n : Bool) (h l : Int) : impl_wide_isZero.f n h l = some (decide (h = 0 ∧ l = 0)) := by
  unfold impl_wide_isZero.f
  by_cases hh : h = 0
  · rw [if_pos hh]; by_cases hl : l = 0 <;> simp [hh, hl]
  · rw [if_neg hh]; simp [hh]
theorem pow_cast (s : Nat) : (2 : Int) ^ s = ((2 ^ s : Nat) : Int) := by simp
theorem pow_pos (s : Nat) : (0 : Int) < 2 ^ s := by
  rw [pow_cast]; have := Nat.two_pow_pos s; omega
theorem pow_split {s : Nat} (h : s ≤ 64) : (2 : Int) ^ s * 2 ^ (64 - s) = 18446744073709551616 := by
  rw [← Int.pow_add, show s + (64 - s) = 64 by omega]; rfl
theorem u64_wraps (n : Int) (h₀ : 0 ≤ n) (h₁ : n < 2 ^ 64) : IntKind.u64.wrap n = n := by
  have e : (2 : Int) ^ 64 = 18446744073709551616 := rfl
  rw [e] at h₁
  exact u64s h₀ h₁
theorem u64_join (i : Nat) {x y : Int} (hx0 : 0 ≤ x) (hx : x % 2 ^ i = 0) (hx1 : x < 18446744073709551616) (hy0 : 0 ≤ y) (hy : y < 2 ^ i) (hy1 : y < 18446744073709551616) : Go.bits .or .u64 x y = x + y := by
  have e : (2 : Int) ^ 64 = 18446744073709551616 := rfl
  exact bits_join .u64 64 (by decide) u64_wraps i x y hx0 hx (by rw [e]; exact hx1) hy0 hy (by rw [e]; exact hy1)
theorem u64_join' (i : Nat) {x y : Int} (hx0 : 0 ≤ x) (hx : x < 2 ^ i) (hx1 : x < 18446744073709551616) (hy0 : 0 ≤ y) (hy : y % 2 ^ i = 0) (hy1 : y < 18446744073709551616) : Go.bits .or .u64 x y = x + y := by
  have h := u64_join i hy0 hy hy1 hx0 hx hx1
  have e : Go.bits .or .u64 x y = Go.bits .or .u64 y x := by
    show IntKind.u64.wrap _ = IntKind.u64.wrap _
    rw [BitVec.or_comm]
  rw [e, h, Int.add_comm]
theorem shl_u64 {x : Int} {s : Nat} (h : s ≤ 64) : shl .u64 x (s : Int) = (x * 2 ^ s) % 18446744073709551616 := by
  unfold shl; rw [Int.toNat_natCast, Nat.min_eq_left (by show s ≤ 64; omega), u64w]
theorem shr_u64 {x : Int} {s : Nat} (h : s ≤ 64) : shr .u64 x (s : Int) = x / 2 ^ s := by
  unfold shr; rw [Int.toNat_natCast, Nat.min_eq_left (by show s ≤ 64; omega)]
/-- To the right by less than a word. -/
theorem shiftR {n : Bool} {h l : Int} (W : Wide h l) {s : Nat} (hs0 : 0 < s) (hs : s < 64) :
    ∃ h' l', impl_wide_shift.f n h l (-(s : Int)) = some (n, h', l') ∧ Wide h' l' ∧ num h' l' = num h l / 2 ^ s := by
  obtain ⟨h0, h1, l0, l1⟩ := W
  have hp := pow_pos s
  have hq := pow_pos (64 - s)
  have hpq := pow_split (s := s) (by omega)
  have e1 : (h * 18446744073709551616 + l) / 2 ^ s = h * 2 ^ (64 - s) + l / 2 ^ s := by
    rw [← hpq, Int.mul_comm ((2 : Int) ^ s), ← Int.mul_assoc, Int.add_comm, Int.add_mul_ediv_right _ _ (by omega), Int.add_comm]
  have e2 : h * 2 ^ (64 - s) = h / 2 ^ s * 18446744073709551616 + h % 2 ^ s * 2 ^ (64 - s) := by
    have e3 := Int.mul_ediv_add_emod h (2 ^ s)
    have e4 : h * 2 ^ (64 - s) = (2 ^ s * (h / 2 ^ s) + h % 2 ^ s) * 2 ^ (64 - s) := by rw [e3]
    rw [e4, Int.add_mul, Int.mul_comm ((2 : Int) ^ s) (h / 2 ^ s), Int.mul_assoc, hpq]
  have hlp : l / 2 ^ s < 2 ^ (64 - s) := by
    apply Int.ediv_lt_of_lt_mul hp
    rw [Int.mul_comm, hpq]; exact l1
  have hlp0 : 0 ≤ l / 2 ^ s := Int.ediv_nonneg l0 (by omega)
  have hr0 : 0 ≤ h % 2 ^ s := Int.emod_nonneg _ (by omega)
  have hr1 : h % 2 ^ s < 2 ^ s := Int.emod_lt_of_pos _ hp
  have hrq0 : 0 ≤ h % 2 ^ s * 2 ^ (64 - s) := Int.mul_nonneg hr0 (by omega)
  have hrq1 : h % 2 ^ s * 2 ^ (64 - s) ≤ 18446744073709551616 - 2 ^ (64 - s) := by
    have : h % 2 ^ s * 2 ^ (64 - s) ≤ (2 ^ s - 1) * 2 ^ (64 - s) := Int.mul_le_mul_of_nonneg_right (by omega) (by omega)
    rw [Int.sub_mul, hpq, Int.one_mul] at this; exact this
  have hhb := (ediv_between (a := h) hp).1 h0
  have e5 : h * 2 ^ (64 - s) % 18446744073709551616 = h % 2 ^ s * 2 ^ (64 - s) := by
    rw [← hpq, Int.mul_comm h, Int.mul_comm ((2 : Int) ^ s) (2 ^ (64 - s)), Int.mul_emod_mul_of_pos _ _ hq, Int.mul_comm]
  refine ⟨h / 2 ^ s, l / 2 ^ s + h % 2 ^ s * 2 ^ (64 - s), ?_, ⟨by omega, by omega, by omega, by omega⟩, ?_⟩
  · unfold impl_wide_shift.f
    rw [if_neg (by omega), show - -(s : Int) = (s : Int) by omega, w64 (x := (s : Int)) (by omega) (by omega), if_neg (by omega), if_pos (by omega),
      w64 (by omega) (by omega), if_pos (by omega), show (64 : Int) - (s : Int) = ((64 - s : Nat) : Int) by omega, shr_u64 (by omega), shr_u64 (by omega), shl_u64 (by omega), e5]
    rw [u64_join' (64 - s) hlp0 hlp (by omega) hrq0 (Int.mul_emod_left _ _) (by omega)]
  · unfold num; rw [e1, e2]; omega
/-! comparing -/
theorem sg_half (n : Bool) {m : Int} (h : m % 2 = 0) : sg n m / 2 = sg n (m / 2) := by unfold sg; split <;> omega
theorem sg_mod (n : Bool) {m : Int} : sg n m % 2 = 0 ↔ m % 2 = 0 := by unfold sg; split <;> omega
theorem fit_j1 {n : Bool} {h l : Int} (W : Wide h l) {k : Nat} (hk : k < 4611686018427387904) (hodd : k = 0 ∨ num h l % 2 ≠ 0) {K : Nat} (hK : 2 ≤ K) :
    impl_wide_fit.j1 K (k : Int) n h l = some (if good (sg n (num h l)) k = true then (sg n (num h l), (k : Int), true) else (0, 0, false)) := by
  obtain ⟨K, rfl⟩ : ∃ m, K = m + 1 + 1 := ⟨K - 2, by omega⟩
  obtain ⟨h0, h1, l0, l1⟩ := W
  simp only [impl_wide_fit.j1, impl_wide_fit.j2]
  have no : ∀ x : Int × Int × Bool, ¬ (k ≤ 24 ∧ h = 0 ∧ l ≤ 1099511627776) → (if good (sg n (num h l)) k = true then x else (0, 0, false)) = (0, 0, false) := by
    intro x hx
    rw [if_neg]
    intro hg
    have := good_iff.1 hg
    unfold num sg at this
    split at this <;> omega
  by_cases c1 : (k : Int) > 24
  · rw [if_pos c1, if_pos trivial, no _ (by omega)]
  · rw [if_neg c1]
    by_cases c2 : h > 0
    · rw [if_pos c2, if_pos trivial, no _ (by omega)]
    · rw [if_neg c2]
      by_cases c3 : l > 1099511627776
      · rw [if_pos (by simpa using c3), no _ (by omega)]
      · rw [if_neg (by simpa using c3)]
        have hh : h = 0 := by omega
        subst hh
        have hnum : num 0 l = l := by unfold num; omega
        rw [hnum] at hodd ⊢
        have hg : good (sg n l) k = true := good_iff.2 (by
          refine ⟨by omega, by omega, ?_, ?_, ?_⟩
          · unfold sg; split <;> omega
          · unfold sg; split <;> omega
          · rcases hodd with h | h
            · left; omega
            · right; rw [Ne, sg_mod]; exact h)
        rw [if_pos hg]
        cases n
        · rw [if_neg (by decide), w64 (by omega) (by omega)]; rfl
        · rw [if_pos rfl, w64 (x := l) (by omega) (by omega), w64 (by omega) (by omega)]; rfl
theorem fit_l0 : ∀ (k : Nat) (n : Bool) (h l : Int), Wide h l → k < 4611686018427387904 → Ev (fun K => impl_wide_fit.l0 K (k : Int) n h l) (fin (sg n (num h l)) k) := by
  intro k
  induction k with
  | zero =>
    intro n h l W _
    refine ⟨3, fun K hK => ?_⟩
    obtain ⟨K, rfl⟩ : ∃ m, K = m + 1 := ⟨K - 1, by omega⟩
    simp only [impl_wide_fit.l0]
    rw [if_neg (by omega), fit_j1 W (by omega) (.inl rfl) (by omega), fin_zero]; rfl
  | succ k ih =>
    intro n h l W hk
    have hlm : l % 2 = num h l % 2 := by unfold num; omega
    by_cases hn : l % 2 = 0
    · obtain ⟨h', l', e, W', hv⟩ := shiftR (n := n) W (s := 1) (by decide) (by decide)
      obtain ⟨K0, h0⟩ := ih n h' l' W' (by omega)
      dsimp only at h0
      refine ⟨K0 + 1, fun K hK => ?_⟩
      obtain ⟨K, rfl⟩ : ∃ m, K = m + 1 := ⟨K - 1, by omega⟩
      simp only [impl_wide_fit.l0]
      have e' : impl_wide_shift.f n h l (-1) = some (n, h', l') := e
      rw [if_pos (by omega), if_pos (tmod_two.2 hn), e']; simp only [Option.bind_some]
      rw [w64 (by omega) (by omega), show ((k + 1 : Nat) : Int) - 1 = (k : Int) by omega, h0 K (by omega), hv]
      unfold fin
      have : redN (k + 1) (sg n (num h l)) = redN k (sg n (num h l / 2 ^ 1)) := by
        show (if sg n (num h l) % 2 = 0 then _ else _) = _
        rw [if_pos ((sg_mod n).2 (by omega)), sg_half n (by omega)]; rfl
      rw [this]
    · refine ⟨3, fun K hK => ?_⟩
      obtain ⟨K, rfl⟩ : ∃ m, K = m + 1 := ⟨K - 1, by omega⟩
      simp only [impl_wide_fit.l0]
      rw [if_pos (by omega), if_neg (fun h => hn (tmod_two.1 h)), fit_j1 W hk (.inr (by omega)) (by omega), fin_odd (fun h => hn (by rw [hlm]; exact (sg_mod n).1 h))]
theorem fit_ev {n : Bool} {h l : Int} (W : Wide h l) {k : Nat} (hk : k < 4611686018427387904) : Ev (fun K => impl_wide_fit.f K n h l (k : Int)) (mk (sg n (num h l)) k) := by
  have hz : (h = 0 ∧ l = 0) ↔ sg n (num h l) = 0 := by
    obtain ⟨h0, h1, l0, l1⟩ := W
    unfold sg num; split <;> omega
  obtain ⟨K0, h0⟩ := fit_l0 k n h l W hk
  dsimp only at h0
  refine ⟨K0, fun K hK => ?_⟩
  dsimp only
  unfold impl_wide_fit.f mk
  rw [isZero_eq]; simp only [Option.bind_some]
  by_cases c : h = 0 ∧ l = 0
  · rw [if_pos (by simpa using c), if_pos (hz.1 c)]
  · rw [if_neg (by simpa using c), if_neg (fun h => c (hz.2 h)), h0 K hK]
end Go.Proofs.Ytgaoniapddpaaaa.PD
