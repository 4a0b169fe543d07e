import Derived.Test.YtinpcalgdiigiaaQDivilsPDx1
import Derived.Test.YtinpcalgdiigiaaQDivilsMd
/- Quotients rounded down: the program's long division and the reference's digits come to one number: lemmas on the printed functions. -/
namespace Go.Proofs.Ytinpcalgdiigiaa.PD
open Go.RowKit Go.Proofs.YtinpcalgdiigiaaW.PrintWords Go.Proofs.YtinpcalgdiigiaaW.PrintLast Go.Proofs.YtinpcalgdiigiaaW.PrintMore
/-! ### how long a word is -/
def lenTab : ByteArray := ⟨#[0, 1, 2, 2, 3, 3, 3, 3, 4, 4, 4, 4, 4, 4, 4, 4, 5, 5, 5, 5, 5, 5, 5, 5, 5, 5, 5, 5, 5, 5, 5, 5, 6, 6, 6, 6, 6, 6, 6, 6, 6, 6, 6, 6, 6, 6, 6, 6, 6, 6, 6, 6, 6, 6, 6, 6, 6, 6, 6, 6, 6, 6, 6, 6, 7, 7, 7, 7, 7, 7, 7, 7, 7, 7, 7, 7, 7, 7, 7, 7, 7, 7, 7, 7, 7, 7, 7, 7, 7, 7, 7, 7, 7, 7, 7, 7, 7, 7, 7, 7, 7, 7, 7, 7, 7, 7, 7, 7, 7, 7, 7, 7, 7, 7, 7, 7, 7, 7, 7, 7, 7, 7, 7, 7, 7, 7, 7, 7, 8, 8, 8, 8, 8, 8, 8, 8, 8, 8, 8, 8, 8, 8, 8, 8, 8, 8, 8, 8, 8, 8, 8, 8, 8, 8, 8, 8, 8, 8, 8, 8, 8, 8, 8, 8, 8, 8, 8, 8, 8, 8, 8, 8, 8, 8, 8, 8, 8, 8, 8, 8, 8, 8, 8, 8, 8, 8, 8, 8, 8, 8, 8, 8, 8, 8, 8, 8, 8, 8, 8, 8, 8, 8, 8, 8, 8, 8, 8, 8, 8, 8, 8, 8, 8, 8, 8, 8, 8, 8, 8, 8, 8, 8, 8, 8, 8, 8, 8, 8, 8, 8, 8, 8, 8, 8, 8, 8, 8, 8, 8, 8, 8, 8, 8, 8, 8, 8, 8, 8, 8, 8, 8, 8, 8, 8, 8, 8]⟩
def IsLen (x : Int) (n : Nat) : Prop := x < 2 ^ n ∧ 2 ^ n ≤ 2 * x
theorem tab_ok : ∀ i : Fin 256, 0 < i.val → ((bt lenTab i.val).toNat ≤ 8 ∧ 0 ≤ bt lenTab i.val ∧ i.val < 2 ^ (bt lenTab i.val).toNat ∧ 2 ^ (bt lenTab i.val).toNat ≤ 2 * i.val) := by decide +kernel
theorem tab_len {i : Int} (h0 : 0 < i) (h1 : i < 256) : ∃ t : Nat, bt lenTab i = t ∧ t ≤ 8 ∧ IsLen i t := by
  obtain ⟨j, rfl⟩ := Int.eq_ofNat_of_zero_le (show 0 ≤ i by omega)
  obtain ⟨a, b, c, d⟩ := tab_ok ⟨j, by omega⟩ (by show 0 < j; omega)
  dsimp only at a b c d
  refine ⟨(bt lenTab j).toNat, by omega, a, ?_⟩
  unfold IsLen; rw [pow_cast]; omega
theorem len_up {x : Int} {c n : Nat} (h : IsLen (x / 2 ^ c) n) : IsLen x (n + c) := by
  obtain ⟨h1, h2⟩ := h
  have hc := pow_pos c
  have e : (2 : Int) ^ (n + c) = 2 ^ n * 2 ^ c := Int.pow_add _ _ _
  have hd := Int.mul_ediv_add_emod x (2 ^ c)
  have hm0 := Int.emod_nonneg x (show (2 : Int) ^ c ≠ 0 by omega)
  have hm1 := Int.emod_lt_of_pos x hc
  have e1 : (x / 2 ^ c + 1) * 2 ^ c ≤ 2 ^ n * 2 ^ c := Int.mul_le_mul_of_nonneg_right (by omega) (by omega)
  have e2 : 2 ^ n * 2 ^ c ≤ 2 * (x / 2 ^ c) * 2 ^ c := Int.mul_le_mul_of_nonneg_right h2 (by omega)
  have e3 : 2 * (x / 2 ^ c) * 2 ^ c = 2 * (2 ^ c * (x / 2 ^ c)) := by rw [Int.mul_assoc, Int.mul_comm (x / 2 ^ c)]
  rw [Int.add_mul, Int.one_mul, Int.mul_comm (x / 2 ^ c)] at e1
  unfold IsLen; omega
/-- The length of half a word, behind what stood above it. -/
def lenJ (x0 x2 : Int) : Option (Int) := if x0 ≥ 65536 then (if (x0 / 65536) ≥ 256 then (if 0 ≤ (((x0 / 65536) / 256) % 256) then (if (((x0 / 65536) / 256) % 256) < 256 then (some (wrap64 ((wrap64 ((wrap64 (x2 + 16)) + 8)) + (wrap64 (bt lenTab (((x0 / 65536) / 256) % 256)))))) else (none)) else (none)) else (if 0 ≤ ((x0 / 65536) % 256) then (if ((x0 / 65536) % 256) < 256 then (some (wrap64 ((wrap64 (x2 + 16)) + (wrap64 (bt lenTab ((x0 / 65536) % 256)))))) else (none)) else (none))) else (if x0 ≥ 256 then (if 0 ≤ ((x0 / 256) % 256) then (if ((x0 / 256) % 256) < 256 then (some (wrap64 ((wrap64 (x2 + 8)) + (wrap64 (bt lenTab ((x0 / 256) % 256)))))) else (none)) else (none)) else (if 0 ≤ ((x0) % 256) then (if ((x0) % 256) < 256 then (some (wrap64 (x2 + (wrap64 (bt lenTab ((x0) % 256)))))) else (none)) else (none)))
theorem lenJ_eq (K : Nat) (x m : Int) : bits_Len64.j0 (K + 1) x m = lenJ x m := rfl
theorem len_j0 {x : Int} (h0 : 0 < x) (h1 : x < 4294967296) (m : Nat) (hm : m ≤ 32) (K : Nat) : ∃ n : Nat, bits_Len64.j0 (K + 1) x m = some ((m + n : Nat) : Int) ∧ n ≤ 32 ∧ IsLen x n := by
  rw [lenJ_eq]; unfold lenJ
  by_cases c1 : x ≥ 65536
  · rw [if_pos c1]
    by_cases c2 : x / 65536 ≥ 256
    · rw [if_pos c2, if_pos (by omega), if_pos (by omega), show x / 65536 / 256 % 256 = x / 16777216 by omega]
      obtain ⟨t, e, ht, hl⟩ := tab_len (i := x / 16777216) (by omega) (by omega)
      refine ⟨t + 24, ?_, by omega, len_up (c := 24) hl⟩
      rw [e, w64 (x := (t : Int)) (by omega) (by omega), w64 (x := (m : Int) + 16) (by omega) (by omega), w64 (x := (m : Int) + 16 + 8) (by omega) (by omega)]
      exact congrArg some ((w64 (by omega) (by omega)).trans (by omega))
    · rw [if_neg c2, if_pos (by omega), if_pos (by omega), show x / 65536 % 256 = x / 65536 by omega]
      obtain ⟨t, e, ht, hl⟩ := tab_len (i := x / 65536) (by omega) (by omega)
      refine ⟨t + 16, ?_, by omega, len_up (c := 16) hl⟩
      rw [e, w64 (x := (t : Int)) (by omega) (by omega), w64 (x := (m : Int) + 16) (by omega) (by omega)]
      exact congrArg some ((w64 (by omega) (by omega)).trans (by omega))
  · rw [if_neg c1]
    by_cases c2 : x ≥ 256
    · rw [if_pos c2, if_pos (by omega), if_pos (by omega), show x / 256 % 256 = x / 256 by omega]
      obtain ⟨t, e, ht, hl⟩ := tab_len (i := x / 256) (by omega) (by omega)
      refine ⟨t + 8, ?_, by omega, len_up (c := 8) hl⟩
      rw [e, w64 (x := (t : Int)) (by omega) (by omega), w64 (x := (m : Int) + 8) (by omega) (by omega)]
      exact congrArg some ((w64 (by omega) (by omega)).trans (by omega))
    · rw [if_neg c2, if_pos (by omega), if_pos (by omega), show x % 256 = x by omega]
      obtain ⟨t, e, ht, hl⟩ := tab_len (i := x) (by omega) (by omega)
      refine ⟨t, ?_, by omega, hl⟩
      rw [e, w64 (x := (t : Int)) (by omega) (by omega)]
      exact congrArg some ((w64 (by omega) (by omega)).trans (by omega))
theorem lz_ev {x : Int} (h0 : 0 < x) (h1 : x < 18446744073709551616) : ∃ s : Nat, s ≤ 63 ∧ Ev (fun K => bits_LeadingZeros64.f K x) (s : Int) ∧ IsLen x (64 - s) := by
  have key : ∃ n : Nat, 1 ≤ n ∧ n ≤ 64 ∧ Ev (fun K => bits_Len64.f K x) (n : Int) ∧ IsLen x n := by
    by_cases c : x ≥ 4294967296
    · obtain ⟨n, _, hn, hl⟩ := len_j0 (x := x / 4294967296) (by omega) (by omega) 32 (by omega) 0
      refine ⟨32 + n, by omega, by omega, ⟨1, fun K hK => ?_⟩, by rw [Nat.add_comm]; exact len_up (c := 32) hl⟩
      obtain ⟨K, rfl⟩ : ∃ j, K = j + 1 := ⟨K - 1, by omega⟩
      obtain ⟨n', e, _, hl'⟩ := len_j0 (x := x / 4294967296) (by omega) (by omega) 32 (by omega) K
      have : n' = n := by
        obtain ⟨a1, a2⟩ := hl
        obtain ⟨b1, b2⟩ := hl'
        rcases Nat.lt_trichotomy n n' with g | g | g
        · have := pow_le (a := n + 1) (b := n') (by omega); rw [Int.pow_succ] at this; omega
        · exact g.symm
        · have := pow_le (a := n' + 1) (b := n) (by omega); rw [Int.pow_succ] at this; omega
      subst this
      dsimp only; unfold bits_Len64.f
      rw [if_pos c]; exact e
    · obtain ⟨n, _, hn, hl⟩ := len_j0 (x := x) (by omega) (by omega) 0 (by omega) 0
      have h1n : 1 ≤ n := by
        rcases Nat.eq_zero_or_pos n with g | g
        · subst g; obtain ⟨a1, _⟩ := hl; simp at a1; omega
        · exact g
      refine ⟨n, h1n, by omega, ⟨1, fun K hK => ?_⟩, hl⟩
      obtain ⟨K, rfl⟩ : ∃ j, K = j + 1 := ⟨K - 1, by omega⟩
      obtain ⟨n', e, _, hl'⟩ := len_j0 (x := x) (by omega) (by omega) 0 (by omega) K
      have : n' = n := by
        obtain ⟨a1, a2⟩ := hl
        obtain ⟨b1, b2⟩ := hl'
        rcases Nat.lt_trichotomy n n' with g | g | g
        · have := pow_le (a := n + 1) (b := n') (by omega); rw [Int.pow_succ] at this; omega
        · exact g.symm
        · have := pow_le (a := n' + 1) (b := n) (by omega); rw [Int.pow_succ] at this; omega
      subst this
      dsimp only; unfold bits_Len64.f
      rw [if_neg c]
      have e' := e
      simp only [Nat.zero_add] at e'
      exact e'
  obtain ⟨n, hn1, hn, ⟨K0, h⟩, hl⟩ := key
  dsimp only at h
  refine ⟨64 - n, by omega, ⟨K0, fun K hK => ?_⟩, by rw [show 64 - (64 - n) = n by omega]; exact hl⟩
  dsimp only; unfold bits_LeadingZeros64.f
  rw [h K hK]; simp only [bs]
  rw [w64 (by omega) (by omega)]; congr 1; omega
/-! ### one digit of a long division -/
/-- What the search for a digit keeps: q is not too small, and r is the rest of the division of the leading words. -/
structure Dig (y1 y0 u u1 q r : Int) : Prop where
  y1a : 2147483648 ≤ y1
  y1b : y1 < 4294967296
  y0a : 0 ≤ y0
  y0b : y0 < 4294967296
  ua : 0 ≤ u
  ub : u < y1 * 4294967296 + y0
  u1a : 0 ≤ u1
  u1b : u1 < 4294967296
  qr : q * y1 + r = u
  ra : 0 ≤ r
  rb : r < 4294967296
  qa : (u * 4294967296 + u1) / (y1 * 4294967296 + y0) ≤ q
  qb : q ≤ 4294967297
theorem digit_start {y1 y0 u u1 : Int} (y1a : 2147483648 ≤ y1) (y1b : y1 < 4294967296) (y0a : 0 ≤ y0) (y0b : y0 < 4294967296) (ua : 0 ≤ u) (ub : u < y1 * 4294967296 + y0) (u1a : 0 ≤ u1) (u1b : u1 < 4294967296) :
    Dig y1 y0 u u1 (u / y1) (u % y1) := by
  have hd := Int.mul_ediv_add_emod u y1
  have hm0 := Int.emod_nonneg u (show y1 ≠ 0 by omega)
  have hm1 := Int.emod_lt_of_pos u (show 0 < y1 by omega)
  have hY : 0 < y1 * 4294967296 + y0 := by omega
  rw [Int.mul_comm] at hd
  refine ⟨y1a, y1b, y0a, y0b, ua, ub, u1a, u1b, hd, hm0, by omega, ?_, ?_⟩
  · apply Int.le_ediv_of_mul_le (by omega)
    have h1 := Int.mul_ediv_add_emod (u * 4294967296 + u1) (y1 * 4294967296 + y0)
    have h2 := Int.emod_nonneg (u * 4294967296 + u1) (show y1 * 4294967296 + y0 ≠ 0 by omega)
    have h3 : 0 ≤ (u * 4294967296 + u1) / (y1 * 4294967296 + y0) := Int.ediv_nonneg (by omega) (by omega)
    generalize (u * 4294967296 + u1) / (y1 * 4294967296 + y0) = q at *
    have h4 : (y1 * 4294967296 + y0) * q = q * y1 * 4294967296 + q * y0 := by grind
    have h5 : 0 ≤ q * y0 := Int.mul_nonneg h3 y0a
    omega
  · have : u / y1 < 4294967298 := Int.ediv_lt_of_lt_mul (by omega) (by omega)
    omega
/-- The digit. -/
def dg (y1 y0 u u1 : Int) : Int := (u * 4294967296 + u1) / (y1 * 4294967296 + y0)
theorem digit_facts {y1 y0 u u1 q r : Int} (D : Dig y1 y0 u u1 q r) : 0 ≤ dg y1 y0 u u1 ∧ dg y1 y0 u u1 < 4294967296 ∧
    q * (y1 * 4294967296 + y0) = (u - r) * 4294967296 + q * y0 ∧ (∀ x, dg y1 y0 u u1 < x ↔ u * 4294967296 + u1 < x * (y1 * 4294967296 + y0)) := by
  obtain ⟨y1a, y1b, y0a, y0b, ua, ub, u1a, u1b, qr, ra, rb, qa, qb⟩ := D
  refine ⟨Int.ediv_nonneg (by omega) (by omega), ?_, ?_, fun x => ?_⟩
  · apply Int.ediv_lt_of_lt_mul (by omega); omega
  · rw [← qr]; grind
  · exact Int.ediv_lt_iff_lt_mul (by omega)
theorem digit_stop {y1 y0 u u1 q r : Int} (D : Dig y1 y0 u u1 q r) (h2 : q * y0 ≤ 4294967296 * r + u1) : q = dg y1 y0 u u1 := by
  obtain ⟨a, b, c, d⟩ := digit_facts D
  have := D.qa
  have e := d q
  have hq : dg y1 y0 u u1 ≤ q := D.qa
  rcases Int.lt_or_eq_of_le hq with g | g
  · have := e.1 g; omega
  · exact g.symm
theorem digit_go {y1 y0 u u1 q r : Int} (D : Dig y1 y0 u u1 q r) (h : ¬ (q < 4294967296 ∧ q * y0 ≤ 4294967296 * r + u1)) : dg y1 y0 u u1 ≤ q - 1 ∧ (q - 1) * y1 + (r + y1) = u := by
  obtain ⟨a, b, c, d⟩ := digit_facts D
  have hq : dg y1 y0 u u1 ≤ q := D.qa
  have qr := D.qr
  refine ⟨?_, by grind⟩
  have : dg y1 y0 u u1 < q := by
    by_cases g : q < 4294967296
    · rw [d q, c]
      have : ¬ q * y0 ≤ 4294967296 * r + u1 := fun x => h ⟨g, x⟩
      omega
    · omega
  omega
theorem digit_end {y1 y0 u u1 q r : Int} (D : Dig y1 y0 u u1 q r) (h : ¬ (q < 4294967296 ∧ q * y0 ≤ 4294967296 * r + u1)) (hr : 4294967296 ≤ r + y1) : q - 1 = dg y1 y0 u u1 := by
  obtain ⟨g1, g2⟩ := digit_go D h
  obtain ⟨a, b, c, d⟩ := digit_facts D
  have e := d (q - 1)
  rcases Int.lt_or_eq_of_le g1 with g | g
  · have hlt := e.1 g
    have y0a := D.y0a
    have y0b := D.y0b
    have u1a := D.u1a
    have qb := D.qb
    have c' : (q - 1) * (y1 * 4294967296 + y0) = (u - (r + y1)) * 4294967296 + (q - 1) * y0 := by rw [← g2]; grind
    rw [c'] at hlt
    have : (q - 1) * y0 ≤ 4294967296 * 4294967295 := Int.mul_le_mul (by omega) (by omega) y0a (by decide)
    omega
  · exact g.symm
theorem digit_next {y1 y0 u u1 q r : Int} (D : Dig y1 y0 u u1 q r) (h : ¬ (q < 4294967296 ∧ q * y0 ≤ 4294967296 * r + u1)) (hr : r + y1 < 4294967296) : Dig y1 y0 u u1 (q - 1) (r + y1) := by
  obtain ⟨g1, g2⟩ := digit_go D h
  obtain ⟨y1a, y1b, y0a, y0b, ua, ub, u1a, u1b, qr, ra, rb, qa, qb⟩ := D
  exact ⟨y1a, y1b, y0a, y0b, ua, ub, u1a, u1b, g2, by omega, hr, g1, by omega⟩
/-- The test of the search, as the words have it. -/
theorem digit_test {y1 y0 u u1 q r : Int} (D : Dig y1 y0 u u1 q r) (hq : q < 4294967296) :
    decide (IntKind.u64.wrap (q * y0) > IntKind.u64.wrap ((IntKind.u64.wrap (4294967296 * r)) + u1)) = decide (¬ q * y0 ≤ 4294967296 * r + u1) := by
  obtain ⟨a, b, c, d⟩ := digit_facts D
  obtain ⟨y1a, y1b, y0a, y0b, ua, ub, u1a, u1b, qr, ra, rb, qa, qb⟩ := D
  have q0 : 0 ≤ q := by unfold dg at a; omega
  have h1 : 0 ≤ q * y0 := Int.mul_nonneg q0 y0a
  have h2 : q * y0 ≤ 4294967295 * 4294967295 := Int.mul_le_mul (by omega) (by omega) y0a (by decide)
  rw [u64s h1 (by omega), u64s (n := 4294967296 * r) (by omega) (by omega), u64s (by omega) (by omega)]
  exact decide_eq_decide.2 (by omega)
theorem div_l0 (x2 x8 x11 x13 x14 y1 y0 : Int) {R : Int × Int} (hR : Ev (fun K => bits_Div64.j2 K x2 x8 y1 y0 x11 x13 x14 (dg y1 y0 x11 x13)) R) : ∀ (d : Nat) (q r : Int), 4294967296 - r ≤ d → Dig y1 y0 x11 x13 q r → Ev (fun K => bits_Div64.l0 K x2 x8 y1 y0 x11 x13 x14 q r) R := by
  obtain ⟨K0, h0⟩ := hR
  dsimp only at h0
  intro d
  induction d with
  | zero => intro q r hd D; have := D.rb; omega
  | succ d ih =>
    intro q r hd D
    have hj : ∀ K, bits_Div64.l0 (K + 1) x2 x8 y1 y0 x11 x13 x14 q r = bits_Div64.j1 K x2 x8 y1 y0 x11 x13 x14 q r (decide (¬ (q < 4294967296 ∧ q * y0 ≤ 4294967296 * r + x13))) := by
      intro K
      simp only [bits_Div64.l0]
      by_cases c : q ≥ 4294967296
      · rw [if_pos c, decide_eq_true (p := ¬ (q < 4294967296 ∧ q * y0 ≤ 4294967296 * r + x13)) (by omega)]
      · rw [if_neg c, digit_test D (by omega)]
        congr 1; exact decide_eq_decide.2 (by omega)
    have ra := D.ra
    have rb := D.rb
    have y1a := D.y1a
    have y1b := D.y1b
    have qa := D.qa
    have qb := D.qb
    have f := (digit_facts D).1
    have hq0 : dg y1 y0 x11 x13 ≤ q := qa
    by_cases c : q < 4294967296 ∧ q * y0 ≤ 4294967296 * r + x13
    · refine ⟨K0 + 2, fun K hK => ?_⟩
      obtain ⟨K, rfl⟩ : ∃ j, K = j + 1 + 1 := ⟨K - 2, by omega⟩
      dsimp only; rw [hj, decide_eq_false (by omega)]
      simp only [bits_Div64.j1, Bool.false_eq_true, if_false]
      rw [digit_stop D c.2]; exact h0 K (by omega)
    · have g := digit_go D c
      by_cases e : r + y1 < 4294967296
      · obtain ⟨K1, h1⟩ := ih (q - 1) (r + y1) (by omega) (digit_next D c e)
        dsimp only at h1
        refine ⟨K1 + 2, fun K hK => ?_⟩
        obtain ⟨K, rfl⟩ : ∃ j, K = j + 1 + 1 := ⟨K - 2, by omega⟩
        dsimp only; rw [hj, decide_eq_true c]
        simp only [bits_Div64.j1, if_true]
        rw [u64s (n := r + y1) (by omega) (by omega), if_neg (by omega), u64s (n := q - 1) (by omega) (by omega)]; exact h1 K (by omega)
      · refine ⟨K0 + 2, fun K hK => ?_⟩
        obtain ⟨K, rfl⟩ : ∃ j, K = j + 1 + 1 := ⟨K - 2, by omega⟩
        dsimp only; rw [hj, decide_eq_true c]
        simp only [bits_Div64.j1, if_true]
        rw [u64s (n := r + y1) (by omega) (by omega), if_pos (by omega), u64s (n := q - 1) (by omega) (by omega), digit_end D c (by omega)]; exact h0 K (by omega)
theorem div_l1 (x2 x8 x14 x15 x17 y1 y0 : Int) (h8 : 0 ≤ x8) : ∀ (d : Nat) (q r : Int), 4294967296 - r ≤ d → Dig y1 y0 x17 x14 q r →
    Ev (fun K => bits_Div64.l1 K x2 x8 y1 y0 x14 x15 r x17 q) (IntKind.u64.wrap ((IntKind.u64.wrap (x15 * 4294967296)) + dg y1 y0 x17 x14), shr .u64 (IntKind.u64.wrap ((IntKind.u64.wrap ((IntKind.u64.wrap (x17 * 4294967296)) + x14)) - (IntKind.u64.wrap (dg y1 y0 x17 x14 * x2)))) x8) := by
  intro d
  induction d with
  | zero => intro q r hd D; have := D.rb; omega
  | succ d ih =>
    intro q r hd D
    have hj : ∀ K, bits_Div64.l1 (K + 1) x2 x8 y1 y0 x14 x15 r x17 q = bits_Div64.j4 K x2 x8 y1 y0 x14 x15 r x17 q (decide (¬ (q < 4294967296 ∧ q * y0 ≤ 4294967296 * r + x14))) := by
      intro K
      simp only [bits_Div64.l1]
      by_cases c : q ≥ 4294967296
      · rw [if_pos c, decide_eq_true (p := ¬ (q < 4294967296 ∧ q * y0 ≤ 4294967296 * r + x14)) (by omega)]
      · rw [if_neg c, digit_test D (by omega)]
        congr 1; exact decide_eq_decide.2 (by omega)
    have ra := D.ra
    have rb := D.rb
    have y1a := D.y1a
    have y1b := D.y1b
    have qa := D.qa
    have qb := D.qb
    have f := (digit_facts D).1
    have hq0 : dg y1 y0 x17 x14 ≤ q := qa
    by_cases c : q < 4294967296 ∧ q * y0 ≤ 4294967296 * r + x14
    · refine ⟨2, fun K hK => ?_⟩
      obtain ⟨K, rfl⟩ : ∃ j, K = j + 1 + 1 := ⟨K - 2, by omega⟩
      dsimp only; rw [hj, decide_eq_false (by omega)]
      simp only [bits_Div64.j4, Bool.false_eq_true, if_false]
      rw [if_pos h8, ← digit_stop D c.2]
    · have g := digit_go D c
      by_cases e : r + y1 < 4294967296
      · obtain ⟨K1, h1⟩ := ih (q - 1) (r + y1) (by omega) (digit_next D c e)
        dsimp only at h1
        refine ⟨K1 + 2, fun K hK => ?_⟩
        obtain ⟨K, rfl⟩ : ∃ j, K = j + 1 + 1 := ⟨K - 2, by omega⟩
        dsimp only; rw [hj, decide_eq_true c]
        simp only [bits_Div64.j4, if_true]
        rw [u64s (n := r + y1) (by omega) (by omega), if_neg (by omega), u64s (n := q - 1) (by omega) (by omega)]; exact h1 K (by omega)
      · refine ⟨2, fun K hK => ?_⟩
        obtain ⟨K, rfl⟩ : ∃ j, K = j + 1 + 1 := ⟨K - 2, by omega⟩
        dsimp only; rw [hj, decide_eq_true c]
        simp only [bits_Div64.j4, if_true]
        rw [u64s (n := r + y1) (by omega) (by omega), if_pos (by omega), if_pos h8, u64s (n := q - 1) (by omega) (by omega), digit_end D c (by omega)]
end Go.Proofs.Ytinpcalgdiigiaa.PD
