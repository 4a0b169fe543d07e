import Derived.Test.YthanmlojikidbaaQExchnsPDx1
import Derived.Test.YthanmlojikidbaaQExchnsMa
/- Boxes: what the law lays and looks at, and when a box is valid: plain lemmas on the printed functions. -/
namespace Go.Proofs.Ythanmlojikidbaa.PD
open Go.RowKit Go.Proofs.YthanmlojikidbaaW.PrintWords Go.Proofs.YthanmlojikidbaaW.PrintLast Go.Proofs.YthanmlojikidbaaW.PrintMore
/-- As Option.bind_some, but no rfl lemma: the kernel is not asked to unfold the callee. -/
theorem bs' {α β : Type} (a : α) (f : α → Option β) : (some a).bind f = f a := id (Option.bind_some a f)
theorem room_le (n : Nat) : room n ≤ n + 1 := by unfold room; split <;> (try split) <;> omega
theorem room_at (n : Nat) : laws_roomBehind.f (n : Int) = some (room n : Int) := by
  unfold laws_roomBehind.f room
  rw [Int.tmod_eq_emod_of_nonneg (by omega), Int.tmod_eq_emod_of_nonneg (by omega)]
  by_cases h : n % 6 = 5
  · rw [if_pos (by omega), if_pos h]; rfl
  · rw [if_neg (by omega), if_neg h]
    by_cases h2 : n % 3 = 0
    · rw [if_pos (by omega), if_pos h2]; rfl
    · rw [if_neg (by omega), if_neg h2]
theorem rd_at {l : List Int} {i : Nat} : rd l (i : Int) = l.getD i 0 := by unfold rd; rw [Int.toNat_natCast]
theorem toIntS_l1 {l x : List Int} (hx : x.length ≤ 35184372088832) (hl : l.length ≤ x.length) : ∀ (d i K : Nat) (y : List Int), i + d = x.length → l.length ≤ i → y.length = x.length → y.take l.length = l → d < K → laws_toIntS.l1 K l y (i : Int) = some l := by
  intro d
  induction d with
  | zero =>
    intro i K y hi hli hy ht hK
    obtain ⟨K, rfl⟩ : ∃ j, K = j + 1 := ⟨K - 1, by omega⟩
    simp only [laws_toIntS.l1]
    rw [if_neg (by omega), if_pos (by omega), if_pos (by omega), Int.toNat_natCast, ht]
  | succ d ih =>
    intro i K y hi hli hy ht hK
    obtain ⟨K, rfl⟩ : ∃ j, K = j + 1 := ⟨K - 1, by omega⟩
    simp only [laws_toIntS.l1]
    rw [if_pos (by omega), if_pos (by omega), w64 (by omega) (by omega), show (i : Int) + 1 = ((i + 1 : Nat) : Int) by omega, Int.toNat_natCast]
    refine ih (i + 1) K _ (by omega) (by omega) (by rw [List.length_set]; omega) ?_ (by omega)
    rw [List.take_set_of_le (by omega), ht]
theorem toIntS_l0 {l : List Int} (hl : l.length ≤ 1000000) : ∀ (d i K : Nat) (x : List Int), i + d = l.length → x.length = l.length + room l.length → x.take i = l.take i → d + room l.length + 1 < K → laws_toIntS.l0 K l x (i : Int) = some l := by
  have hr := room_le l.length
  intro d
  induction d with
  | zero =>
    intro i K x hi hx ht hK
    obtain ⟨K, rfl⟩ : ∃ j, K = j + 1 := ⟨K - 1, by omega⟩
    simp only [laws_toIntS.l0]
    rw [if_neg (by omega)]
    have hil : i = l.length := by omega
    subst hil
    exact toIntS_l1 (by omega) (by omega) (room l.length) l.length K x (by omega) (by omega) rfl (by rw [ht, List.take_length]) (by omega)
  | succ d ih =>
    intro i K x hi hx ht hK
    obtain ⟨K, rfl⟩ : ∃ j, K = j + 1 := ⟨K - 1, by omega⟩
    have hil : i < l.length := by omega
    simp only [laws_toIntS.l0]
    rw [if_pos (by omega), if_pos (by omega), if_pos (by omega), w64 (by omega) (by omega), show (i : Int) + 1 = ((i + 1 : Nat) : Int) by omega, Int.toNat_natCast, rd_at]
    refine ih (i + 1) K _ (by omega) (by rw [List.length_set]; omega) ?_ (by omega)
    rw [List.take_succ_eq_append_getElem (by rw [List.length_set]; omega), List.take_succ_eq_append_getElem hil, List.take_set_of_le (Nat.le_refl _), ht]
    simp [List.getD_eq_getElem?_getD, List.getElem?_eq_getElem hil]
theorem toIntS_ev {l : List Int} (hl : l.length ≤ 1000000) (b : Bool) : Ev (fun K => laws_toIntS.f K l b) l := by
  have hr := room_le l.length
  refine ⟨l.length + room l.length + 4, fun K hK => ?_⟩
  obtain ⟨K, rfl⟩ : ∃ j, K = j + 1 := ⟨K - 1, by omega⟩
  have j0 : ∀ z : Bool, (z = true → l = []) → laws_toIntS.j0 (K + 1) l z = some l := by
    intro z hz
    simp only [laws_toIntS.j0]
    by_cases h : z = true
    · rw [if_pos h, hz h]
    · rw [if_neg h, room_at]; simp only [bs']
      rw [w64 (by omega) (by omega), if_pos (by omega), if_pos (by omega)]
      exact toIntS_l0 hl l.length 0 K _ (by omega) (by rw [List.length_replicate]; omega) (by simp) (by omega)
  dsimp only; unfold laws_toIntS.f
  by_cases hb : b = true
  · rw [if_pos hb]
    refine j0 _ (fun h => ?_)
    have : l.length = 0 := by have := beq_iff_eq.1 h; omega
    exact List.length_eq_zero_iff.1 this
  · rw [if_neg hb]
    exact j0 false (fun h => by cases h)
end Go.Proofs.Ythanmlojikidbaa.PD
