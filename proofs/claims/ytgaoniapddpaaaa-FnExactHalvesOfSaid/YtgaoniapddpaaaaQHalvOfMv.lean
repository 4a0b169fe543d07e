import Derived.Test.YtgaoniapddpaaaaQHalvOfPDx1
import Derived.Test.YtgaoniapddpaaaaQHalvOfMu
import Derived.Test.YtgaoniapddpaaaaQHalvOfMs
/- Two boxes' rows over one power of two, and boxes made of them: plain lemmas on the printed functions. -/
namespace Go.Proofs.Ytgaoniapddpaaaa.PD
open Go.RowKit Go.Proofs.YtgaoniapddpaaaaW.PrintWords Go.Proofs.YtgaoniapddpaaaaW.PrintLast Go.Proofs.YtgaoniapddpaaaaW.PrintMore
def tms (p : Int) (x : Int) : Int := x * p
theorem pow_le8 {d : Nat} (h : d ≤ 8) : (1 : Int) ≤ 2 ^ d ∧ (2 : Int) ^ d ≤ 256 := by
  have := pow8 (k := (d : Int)) (by omega) (by omega)
  rw [Int.toNat_natCast] at this; exact this
theorem mul_bound {x p : Int} (hx : -2048 ≤ x ∧ x ≤ 2048) (hp : 1 ≤ p ∧ p ≤ 256) : -524288 ≤ x * p ∧ x * p ≤ 524288 := by
  have h1 : x * p ≤ 2048 * p := Int.mul_le_mul_of_nonneg_right hx.2 (by omega)
  have h2 : -2048 * p ≤ x * p := Int.mul_le_mul_of_nonneg_right hx.1 (by omega)
  omega
theorem scaled_ev {l : List Int} (hl : l.length ≤ 3) (hb : ∀ j, j < l.length → -2048 ≤ l.getD j 0 ∧ l.getD j 0 ≤ 2048) {d : Nat} (hd : d ≤ 8) : Ev (fun K => impl_scaled.f K l (d : Int)) (l.map (tms (2 ^ d))) := by
  have hp := pow_le8 hd
  have key : ∀ (e i K : Nat), i + e = l.length → e < K → impl_scaled.l0 K (d : Int) ((l.take i).map (tms (2 ^ d))) l (l.length : Int) (i : Int) = some (l.map (tms (2 ^ d))) := by
    intro e
    induction e with
    | zero =>
      intro i K hi hK
      obtain ⟨K, rfl⟩ : ∃ j, K = j + 1 := ⟨K - 1, by omega⟩
      simp only [impl_scaled.l0]
      rw [if_neg (by omega), List.take_of_length_le (by omega)]
    | succ e ih =>
      intro i K hi hK
      obtain ⟨K, rfl⟩ : ∃ j, K = j + 1 := ⟨K - 1, by omega⟩
      have hil : i < l.length := by omega
      have hx := mul_bound (hb i hil) hp
      have ih' := ih (i + 1) K (by omega) (by omega)
      rw [List.take_succ_eq_append_getElem hil, List.map_append, List.map_singleton] at ih'
      have he : l[i] = l.getD i 0 := by rw [List.getD_eq_getElem?_getD, List.getElem?_eq_getElem hil]; rfl
      rw [he] at ih'
      have hs : shl .i64 (l.getD i 0) (d : Int) = tms (2 ^ d) (l.getD i 0) := by
        unfold shl tms
        rw [Int.toNat_natCast, Nat.min_eq_left (by show d ≤ 64; omega), i64_w, w64 (by omega) (by omega)]
      simp only [impl_scaled.l0]
      rw [if_pos (by omega), if_pos (by omega), if_pos (by omega), if_pos (by omega), if_pos (by rw [List.length_map, List.length_take]; omega), rd_at, hs, w64 (by omega) (by omega), show (i : Int) + 1 = ((i + 1 : Nat) : Int) by omega]
      exact ih'
  refine ⟨l.length + 1, fun K hK => ?_⟩
  dsimp only; unfold impl_scaled.f
  exact key l.length 0 K (by omega) (by omega)
theorem tms_rng {L : List Int} (hb : ∀ j, j < L.length → -2048 ≤ L.getD j 0 ∧ L.getD j 0 ≤ 2048) {d : Nat} (hd : d ≤ 8) : Rng (L.map (tms (2 ^ d))) := by
  intro x hx
  obtain ⟨y, hy, rfl⟩ := List.mem_map.1 hx
  obtain ⟨j, hj, he⟩ := List.mem_iff_getElem.1 hy
  have h := hb j hj
  rw [List.getD_eq_getElem?_getD, List.getElem?_eq_getElem hj] at h
  have h2 : -2048 ≤ y ∧ y ≤ 2048 := by rw [← he]; exact h
  have := mul_bound h2 (pow_le8 hd)
  unfold tms; omega
end Go.Proofs.Ytgaoniapddpaaaa.PD
