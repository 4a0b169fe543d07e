import Derived.Test.YtlmpdahiekflcaaDoorQParsicPDx1
import Derived.Test.YtlmpdahiekflcaaDoorQParsicMc
/- The text of a number: the reference's digits are the library's: plain lemmas on the printed functions. -/
namespace Go.Proofs.YtlmpdahiekflcaaDoor.PD
open Go.RowKit Go.Proofs.YtlmpdahiekflcaaDoorW.PrintWords Go.Proofs.YtlmpdahiekflcaaDoorW.PrintLast Go.Proofs.YtlmpdahiekflcaaDoorW.PrintMore
theorem bs2 {α β : Type} (a : α) (f : α → Option β) : (some a).bind f = f a := id (Option.bind_some a f)
/-- A number's decimal text. -/
def A (n : Int) : ByteArray := ⟨(Lib.itoa n).toArray⟩
theorem dec_len (u : Nat) : (Lib.decDigits u).length ≤ u + 1 := by
  induction u using Nat.strongRecOn with
  | ind u ih =>
    rw [Lib.decDigits]
    split
    · simp
    · next h =>
      have := ih (u / 10) (by omega)
      rw [List.length_append, List.length_singleton]; omega
theorem A_size (n : Int) : (A n).size ≤ n.natAbs + 2 := by
  have h1 := dec_len n.natAbs
  have h2 := dec_len n.toNat
  unfold A Lib.itoa
  show (List.toArray _).size ≤ _
  rw [List.size_toArray]
  split
  · rw [List.length_cons]; omega
  · omega
theorem bytes_append (a b : List UInt8) : (⟨a.toArray⟩ : ByteArray) ++ (⟨b.toArray⟩ : ByteArray) = ⟨(a ++ b).toArray⟩ := by
  apply ByteArray.ext
  simp [ByteArray.data_append]
theorem digit_one {u : Nat} (h : u < 10) : strOfNums [(wrap64 (48 + (u : Int))) % 256] = ⟨([UInt8.ofNat (48 + u)] : List UInt8).toArray⟩ := by
  rw [w64 (by omega) (by omega), Int.emod_eq_of_lt (by omega) (by omega)]
  unfold strOfNums
  rw [List.map_singleton, show (48 + (u : Int)).toNat = 48 + u by omega]
theorem l1Num_ev : ∀ u : Nat, u ≤ 1099511627776 → Ev (fun K => spec_l1Num.f K (u : Int)) (⟨(Lib.decDigits u).toArray⟩ : ByteArray) := by
  intro u
  induction u using Nat.strongRecOn with
  | ind u ih =>
    intro hu
    by_cases h : u < 10
    · refine ⟨1, fun K hK => ?_⟩
      obtain ⟨K, rfl⟩ : ∃ j, K = j + 1 := ⟨K - 1, by omega⟩
      simp only [spec_l1Num.f]
      rw [if_pos (by omega), digit_one h, Lib.decDigits, dif_pos h]
    · obtain ⟨K1, e1⟩ := ih (u / 10) (by omega) (by omega)
      dsimp only at e1
      refine ⟨K1 + 1, fun K hK => ?_⟩
      obtain ⟨K, rfl⟩ : ∃ j, K = j + 1 := ⟨K - 1, by omega⟩
      have hl := dec_len (u / 10)
      have hd : Int.tdiv (u : Int) 10 = ((u / 10 : Nat) : Int) := by rw [Int.tdiv_eq_ediv_of_nonneg (by omega)]; omega
      have hm : Int.tmod (u : Int) 10 = ((u % 10 : Nat) : Int) := by rw [Int.tmod_eq_emod_of_nonneg (by omega)]; omega
      simp only [spec_l1Num.f]
      rw [if_neg (by omega), hd, hm, w64 (by omega) (by omega), e1 K (by omega)]; simp only [bs2]
      rw [digit_one (by omega), if_pos (by show (List.toArray _).size + (List.toArray _).size ≤ _; rw [List.size_toArray, List.size_toArray, List.length_singleton]; omega), bytes_append]
      conv => rhs; rw [Lib.decDigits, dif_neg h]
theorem l1Int_ev {n : Int} (h : Small n) : Ev (fun K => spec_l1Int.f K n) (A n) := by
  obtain ⟨K1, e1⟩ := l1Num_ev n.natAbs (by have := h.1; have := h.2; omega)
  dsimp only at e1
  refine ⟨K1, fun K hK => ?_⟩
  have h1 := h.1
  have h2 := h.2
  have hl := dec_len n.natAbs
  dsimp only; unfold spec_l1Int.f A Lib.itoa
  by_cases c : n < 0
  · rw [if_pos c, if_pos c, w64 (by omega) (by omega), show -n = ((n.natAbs : Nat) : Int) by omega, e1 K hK]; simp only [bs2]
    rw [if_pos (by show 1 + (List.toArray _).size ≤ _; rw [List.size_toArray]; omega)]
    exact congrArg some (bytes_append [45] _)
  · rw [if_neg c, if_neg c]
    have e2 := e1 K hK
    rw [show ((n.natAbs : Nat) : Int) = n by omega] at e2
    rw [e2]; simp only [bs2]
    rw [show n.natAbs = n.toNat by omega]
theorem itoa_eq {n : Int} (h : Small n) : strconv_Itoa_22.f n = some (A n) := by
  unfold strconv_Itoa_22.f
  rw [if_pos ⟨by have := h.1; omega, by have := h.2; omega⟩]; rfl
/-- A dyadic number's text. -/
def txt (n k : Int) : ByteArray := if k = 0 then A n else (A n ++ (⟨#[47, 50, 94]⟩ : ByteArray)) ++ A k
theorem lit_size (a b c : UInt8) : (⟨#[a, b, c]⟩ : ByteArray).size = 3 := rfl
theorem dyadicText_eq {n k : Int} (h : good n k = true) : impl_dyadicText.f n k = some (txt n k) := by
  have h1 := good_iff.1 h
  have hn : Small n := good_small h
  have hk : Small k := ⟨by omega, by omega⟩
  have s1 := A_size n
  have s2 := A_size k
  unfold impl_dyadicText.f txt
  by_cases c : k = 0
  · rw [if_pos c, if_pos c, itoa_eq hn]; simp only [bs2]
  · rw [if_neg c, if_neg c, itoa_eq hn]; simp only [bs2]
    rw [if_pos (by omega), itoa_eq hk]; simp only [bs2]
    rw [if_pos (by rw [ByteArray.size_append, lit_size]; omega)]
theorem dyText_ev {n k : Int} (h : good n k = true) : Ev (fun K => spec_dyText.f K n k) (txt n k) := by
  have h1 := good_iff.1 h
  have hn : Small n := good_small h
  have s1 := A_size n
  have s2 := A_size k
  obtain ⟨K1, e1⟩ := l1Int_ev hn
  obtain ⟨j, rfl⟩ := Int.eq_ofNat_of_zero_le h1.1
  obtain ⟨K2, e2⟩ := l1Num_ev j (by omega)
  have ej : (⟨(Lib.decDigits j).toArray⟩ : ByteArray) = A (j : Int) := by
    unfold A Lib.itoa
    rw [if_neg (by omega), Int.toNat_natCast]
  rw [ej] at e2
  dsimp only at e1 e2
  refine ⟨K1 + K2, fun K hK => ?_⟩
  dsimp only; unfold spec_dyText.f txt
  by_cases c : (j : Int) = 0
  · rw [if_pos c, if_pos c, e1 _ (by omega)]; simp only [bs2]
  · rw [if_neg c, if_neg c, e1 _ (by omega)]; simp only [bs2]
    rw [if_pos (by omega), e2 _ (by omega)]; simp only [bs2]
    rw [if_pos (by rw [ByteArray.size_append, lit_size]; omega)]
end Go.Proofs.YtlmpdahiekflcaaDoor.PD
