import Derived.Test.YtinpcalgdiigiaaQDivilsPDx1
import Derived.Test.YtinpcalgdiigiaaQDivilsMf
/- Quotients rounded down, as a whole: the program's and the reference's. -/
namespace Go.Proofs.Ytinpcalgdiigiaa.PD
open Go.RowKit Go.Proofs.YtinpcalgdiigiaaW.PrintWords Go.Proofs.YtinpcalgdiigiaaW.PrintLast Go.Proofs.YtinpcalgdiigiaaW.PrintMore
theorem div_one {N Q y R : Int} (h : N = Q * y + R) (h0 : 0 ≤ R) (h1 : R < y) : N / y = Q ∧ N % y = R :=
  (Int.ediv_emod_unique (show 0 < y by omega)).2 ⟨by rw [h, Int.mul_comm]; omega, h0, h1⟩
theorem div64_ev {hi lo y : Int} (h0 : 0 ≤ hi) (h1 : hi < y) (l0 : 0 ≤ lo) (l1 : lo < 18446744073709551616) (hy : y < 18446744073709551616) :
    Ev (fun K => bits_Div64.f K hi lo y) ((hi * 18446744073709551616 + lo) / y, (hi * 18446744073709551616 + lo) % y) := by
  by_cases z : hi = 0
  · subst z
    refine ⟨0, fun K _ => ?_⟩
    have hb := (ediv_between (a := lo) h1).1 l0
    dsimp only; unfold bits_Div64.f
    rw [if_neg (by omega), if_neg (by omega), if_pos rfl, Int.tdiv_eq_ediv_of_nonneg l0, Int.tmod_eq_emod_of_nonneg l0, u64s hb.1 (by omega), Int.zero_mul, Int.zero_add]
  · obtain ⟨s, hs, ⟨K0, hz⟩, hlen⟩ := lz_ev (x := y) (by omega) hy
    obtain ⟨len1, len2⟩ := hlen
    dsimp only at hz
    have hP := pow_pos s
    have hQ := pow_pos (64 - s)
    have hPQ := pow_split (s := s) (by omega)
    have hN : (hi * 18446744073709551616 + lo) * 2 ^ s = (hi * 2 ^ s + lo / 2 ^ (64 - s)) * 18446744073709551616 + lo * 2 ^ s % 18446744073709551616 := by
      have e2 : lo / 2 ^ (64 - s) = lo * 2 ^ s / 18446744073709551616 := by
        rw [← hPQ, Int.mul_comm ((2 : Int) ^ s) (2 ^ (64 - s)), Int.mul_ediv_mul_of_pos_left _ _ hP]
      rw [e2, Int.add_mul, Int.mul_right_comm]; omega
    have hq1 : lo / 2 ^ (64 - s) < 2 ^ s := by
      apply Int.ediv_lt_of_lt_mul hQ
      rw [hPQ]; exact l1
    have hq0 : 0 ≤ lo / 2 ^ (64 - s) := Int.ediv_nonneg l0 (by omega)
    have hyP : y * 2 ^ s < 18446744073709551616 := by
      rw [← hPQ, Int.mul_comm ((2 : Int) ^ s)]; exact Int.mul_lt_mul_of_pos_right len1 hP
    have hyP2 : 18446744073709551616 ≤ 2 * (y * 2 ^ s) := by
      rw [← hPQ, Int.mul_comm ((2 : Int) ^ s), ← Int.mul_assoc]; exact Int.mul_le_mul_of_nonneg_right len2 (by omega)
    have hhP : hi * 2 ^ s ≤ y * 2 ^ s - 2 ^ s := by
      have := Int.mul_le_mul_of_nonneg_right (show hi ≤ y - 1 by omega) (show (0 : Int) ≤ 2 ^ s by omega)
      rw [Int.sub_mul, Int.one_mul] at this; exact this
    have hhP0 : 0 ≤ hi * 2 ^ s := Int.mul_nonneg h0 (by omega)
    have hm : (hi * 2 ^ s) % 2 ^ s = 0 := Int.mul_emod_left _ _
    have hl0 : 0 ≤ lo * 2 ^ s := Int.mul_nonneg l0 (by omega)
    have hjoin : Go.bits .or .u64 (hi * 2 ^ s) (lo / 2 ^ (64 - s)) = hi * 2 ^ s + lo / 2 ^ (64 - s) := u64_join s hhP0 hm (by omega) hq0 hq1 (by omega)
    have e1 : shl .u64 y (s : Int) = y * 2 ^ s := by rw [shl_u64 (by omega), Int.emod_eq_of_lt (by omega) (by omega)]
    have e2 : shl .u64 hi (s : Int) = hi * 2 ^ s := by rw [shl_u64 (by omega), Int.emod_eq_of_lt (by omega) (by omega)]
    have e3 : shl .u64 lo (s : Int) = lo * 2 ^ s % 18446744073709551616 := shl_u64 (by omega)
    have e4 : IntKind.u64.wrap (64 - (s : Int)) = ((64 - s : Nat) : Int) := by rw [u64s (by omega) (by omega)]; omega
    have e5 : shr .u64 lo ((64 - s : Nat) : Int) = lo / 2 ^ (64 - s) := shr_u64 (by omega)
    have e6 : IntKind.u64.wrap (s : Int) = (s : Int) := u64s (by omega) (by omega)
    generalize hu10 : lo * 2 ^ s % 18446744073709551616 = un10 at *
    have hu10a : 0 ≤ un10 := by omega
    have hu10b : un10 < 18446744073709551616 := by omega
    have e7 : Go.bits .and .u64 un10 4294967295 = un10 % 4294967296 := and32 hu10a hu10b
    have e8 : Go.bits .and .u64 (y * 2 ^ s) 4294967295 = y * 2 ^ s % 4294967296 := and32 (by omega) hyP
    generalize hu32 : hi * 2 ^ s + lo / 2 ^ (64 - s) = un32 at *
    have hu32a : 0 ≤ un32 := by omega
    have hu32b : un32 < y * 2 ^ s := by omega
    generalize hy' : y * 2 ^ s = y' at *
    have y1a : 2147483648 ≤ y' / 4294967296 := by omega
    have D1 := digit_start (y1 := y' / 4294967296) (y0 := y' % 4294967296) (u := un32) (u1 := un10 / 4294967296) (by omega) (by omega) (by omega) (by omega) (by omega) (by omega) (by omega) (by omega)
    have hy1y0 : y' / 4294967296 * 4294967296 + y' % 4294967296 = y' := by omega
    obtain ⟨da, db, _, _⟩ := digit_facts D1
    have dm := Int.mul_ediv_add_emod (un32 * 4294967296 + un10 / 4294967296) (y' / 4294967296 * 4294967296 + y' % 4294967296)
    have dm0 := Int.emod_nonneg (un32 * 4294967296 + un10 / 4294967296) (show y' / 4294967296 * 4294967296 + y' % 4294967296 ≠ 0 by omega)
    have dm1 := Int.emod_lt_of_pos (un32 * 4294967296 + un10 / 4294967296) (show 0 < y' / 4294967296 * 4294967296 + y' % 4294967296 by omega)
    have hdg : dg (y' / 4294967296) (y' % 4294967296) un32 (un10 / 4294967296) = (un32 * 4294967296 + un10 / 4294967296) / (y' / 4294967296 * 4294967296 + y' % 4294967296) := rfl
    rw [← hdg] at dm
    rw [hy1y0] at dm dm0 dm1
    generalize hq : dg (y' / 4294967296) (y' % 4294967296) un32 (un10 / 4294967296) = q1 at *
    generalize hu21 : (un32 * 4294967296 + un10 / 4294967296) % y' = un21 at *
    rw [Int.mul_comm] at dm
    have f21 : IntKind.u64.wrap ((IntKind.u64.wrap ((IntKind.u64.wrap (un32 * 4294967296)) + un10 / 4294967296)) - (IntKind.u64.wrap (q1 * y'))) = un21 := by
      simp only [u64w]; omega
    have D2 := digit_start (y1 := y' / 4294967296) (y0 := y' % 4294967296) (u := un21) (u1 := un10 % 4294967296) (by omega) (by omega) (by omega) (by omega) (by omega) (by omega) (by omega) (by omega)
    obtain ⟨ea, eb, _, _⟩ := digit_facts D2
    have em := Int.mul_ediv_add_emod (un21 * 4294967296 + un10 % 4294967296) (y' / 4294967296 * 4294967296 + y' % 4294967296)
    have em0 := Int.emod_nonneg (un21 * 4294967296 + un10 % 4294967296) (show y' / 4294967296 * 4294967296 + y' % 4294967296 ≠ 0 by omega)
    have em1 := Int.emod_lt_of_pos (un21 * 4294967296 + un10 % 4294967296) (show 0 < y' / 4294967296 * 4294967296 + y' % 4294967296 by omega)
    have heg : dg (y' / 4294967296) (y' % 4294967296) un21 (un10 % 4294967296) = (un21 * 4294967296 + un10 % 4294967296) / (y' / 4294967296 * 4294967296 + y' % 4294967296) := rfl
    rw [← heg] at em
    rw [hy1y0] at em em0 em1
    have R := div_l1 y' (s : Int) (un10 % 4294967296) q1 un21 (y' / 4294967296) (y' % 4294967296) (by omega) 4294967296 (un21 / (y' / 4294967296)) (un21 % (y' / 4294967296)) (by have := D2.ra; omega) D2
    generalize hq0' : dg (y' / 4294967296) (y' % 4294967296) un21 (un10 % 4294967296) = q0 at *
    rw [Int.mul_comm] at em
    have g1 : IntKind.u64.wrap ((IntKind.u64.wrap (q1 * 4294967296)) + q0) = q1 * 4294967296 + q0 := by rw [u64s (n := q1 * 4294967296) (by omega) (by omega), u64s (by omega) (by omega)]
    have g2 : IntKind.u64.wrap ((IntKind.u64.wrap ((IntKind.u64.wrap (un21 * 4294967296)) + un10 % 4294967296)) - (IntKind.u64.wrap (q0 * y'))) = (un21 * 4294967296 + un10 % 4294967296) % y' := by
      simp only [u64w]; omega
    rw [g1, g2, shr_u64 (by omega)] at R
    generalize hR' : (un21 * 4294967296 + un10 % 4294967296) % y' = R' at *
    have fin : (hi * 18446744073709551616 + lo) * 2 ^ s = (q1 * 4294967296 + q0) * y' + R' := by
      rw [hN]
      have : (q1 * 4294967296 + q0) * y' = q1 * y' * 4294967296 + q0 * y' := by grind
      rw [this]; omega
    have fin2 : ((hi * 18446744073709551616 + lo) - (q1 * 4294967296 + q0) * y) * 2 ^ s = R' := by
      have : ((hi * 18446744073709551616 + lo) - (q1 * 4294967296 + q0) * y) * 2 ^ s = (hi * 18446744073709551616 + lo) * 2 ^ s - (q1 * 4294967296 + q0) * (y * 2 ^ s) := by grind
      rw [this, fin, hy']; omega
    have fin3 : R' / 2 ^ s = (hi * 18446744073709551616 + lo) - (q1 * 4294967296 + q0) * y := by
      rw [← fin2, Int.mul_ediv_cancel _ (by omega)]
    have fa : 0 ≤ R' / 2 ^ s := Int.ediv_nonneg em0 (by omega)
    have fb : R' / 2 ^ s < y := by
      apply Int.ediv_lt_of_lt_mul hP; rw [hy']; exact em1
    obtain ⟨r1, r2⟩ := div_one (N := hi * 18446744073709551616 + lo) (Q := q1 * 4294967296 + q0) (y := y) (R := R' / 2 ^ s) (by rw [fin3]; omega) fa fb
    rw [← r1, ← r2] at R
    obtain ⟨K1, hR1⟩ := R
    dsimp only at hR1
    have hd21 := (ediv_between (a := un21) (b := y' / 4294967296) (by omega)).1 (by omega)
    have hm21 := Int.mul_ediv_add_emod un21 (y' / 4294967296)
    have hm21a := Int.emod_nonneg un21 (show y' / 4294967296 ≠ 0 by omega)
    have hm21b := Int.emod_lt_of_pos un21 (show 0 < y' / 4294967296 by omega)
    rw [Int.mul_comm] at hm21
    have hp21 : 0 ≤ un21 / (y' / 4294967296) * (y' / 4294967296) := Int.mul_nonneg hd21.1 (by omega)
    have J2 : Ev (fun K => bits_Div64.j2 K y' (s : Int) (y' / 4294967296) (y' % 4294967296) un32 (un10 / 4294967296) (un10 % 4294967296) q1) ((hi * 18446744073709551616 + lo) / y, (hi * 18446744073709551616 + lo) % y) := by
      refine ⟨K1 + 1, fun K hK => ?_⟩
      obtain ⟨K, rfl⟩ : ∃ j, K = j + 1 := ⟨K - 1, by omega⟩
      simp only [bits_Div64.j2]
      rw [if_neg (by omega), f21, Int.tdiv_eq_ediv_of_nonneg (show 0 ≤ un21 by omega), u64s (n := un21 / (y' / 4294967296)) (by omega) (by omega), u64s (n := un21 / (y' / 4294967296) * (y' / 4294967296)) (by omega) (by omega), u64s (n := un21 - un21 / (y' / 4294967296) * (y' / 4294967296)) (by omega) (by omega),
        show un21 - un21 / (y' / 4294967296) * (y' / 4294967296) = un21 % (y' / 4294967296) by omega]
      exact hR1 K (by omega)
    rw [← hq] at J2
    obtain ⟨K2, hL⟩ := div_l0 y' (s : Int) un32 (un10 / 4294967296) (un10 % 4294967296) (y' / 4294967296) (y' % 4294967296) J2 4294967296 (un32 / (y' / 4294967296)) (un32 % (y' / 4294967296)) (by have := D1.ra; omega) D1
    dsimp only at hL
    have hd32 := (ediv_between (a := un32) (b := y' / 4294967296) (by omega)).1 (by omega)
    have hm32 := Int.mul_ediv_add_emod un32 (y' / 4294967296)
    have hm32a := Int.emod_nonneg un32 (show y' / 4294967296 ≠ 0 by omega)
    have hm32b := Int.emod_lt_of_pos un32 (show 0 < y' / 4294967296 by omega)
    rw [Int.mul_comm] at hm32
    have hp32 : 0 ≤ un32 / (y' / 4294967296) * (y' / 4294967296) := Int.mul_nonneg hd32.1 (by omega)
    refine ⟨K0 + K2, fun K hK => ?_⟩
    dsimp only; unfold bits_Div64.f
    rw [if_neg (by omega), if_neg (by omega), if_neg z, hz K (by omega)]; simp only [bs]
    rw [e6, e4, e1, e2, e3, e5, hjoin, e7, e8, if_pos (by omega), if_pos (by omega), if_neg (by omega), Int.tdiv_eq_ediv_of_nonneg hu32a, u64s (n := un32 / (y' / 4294967296)) (by omega) (by omega), u64s (n := un32 / (y' / 4294967296) * (y' / 4294967296)) (by omega) (by omega), u64s (n := un32 - un32 / (y' / 4294967296) * (y' / 4294967296)) (by omega) (by omega),
      show un32 - un32 / (y' / 4294967296) * (y' / 4294967296) = un32 % (y' / 4294967296) by omega]
    exact hL K (by omega)
end Go.Proofs.Ytinpcalgdiigiaa.PD
