import Derived.Test.YtemjjknnelngcaaDoorQSystxtPDx1
import Derived.Test.YtemjjknnelngcaaDoorQSystxtMy
import Derived.Test.YtemjjknnelngcaaDoorQSystxtNa
/- The text of a system: plain lemmas on the printed functions. -/
namespace Go.Proofs.YtemjjknnelngcaaDoor.PD
open Go.RowKit Go.Proofs.YtemjjknnelngcaaDoorW.PrintWords Go.Proofs.YtemjjknnelngcaaDoorW.PrintLast Go.Proofs.YtemjjknnelngcaaDoorW.PrintMore
theorem sysText_l0 {l : List (List S38)} (hl : l.length ≤ 3) (hg : ∀ j, j < l.length → goodT (l.getD j []) = true) : ∀ (d i : Nat) (s : ByteArray), i + d = l.length → s.size ≤ 200000 * i → ∃ r : ByteArray, Ev (fun K => spec_txSystemText.l0 K s l (l.length : Int) (i : Int)) r ∧ Ev (fun K => impl_SystemText.l0 K s l (l.length : Int) (i : Int)) (r, true) := by
  intro d
  induction d with
  | zero =>
    intro i s hi hs
    refine ⟨s, ⟨1, fun K hK => ?_⟩, ⟨1, fun K hK => ?_⟩⟩
    · obtain ⟨K, rfl⟩ : ∃ j, K = j + 1 := ⟨K - 1, by omega⟩
      simp only [spec_txSystemText.l0]; rw [if_neg (by omega)]
    · obtain ⟨K, rfl⟩ : ∃ j, K = j + 1 := ⟨K - 1, by omega⟩
      simp only [impl_SystemText.l0]; rw [if_neg (by omega)]
  | succ d ih =>
    intro i s hi hs
    obtain ⟨t, ⟨K1, t1⟩, ⟨K2, t2⟩, t3⟩ := polyText_both3 (hg i (by omega))
    dsimp only at t1 t2
    have hz : (t ++ (⟨#[59]⟩ : ByteArray)).size = t.size + 1 := by rw [ByteArray.size_append]; rfl
    obtain ⟨r, ⟨K3, r1⟩, ⟨K4, r2⟩⟩ := ih (i + 1) (s ++ (t ++ (⟨#[59]⟩ : ByteArray))) (by omega) (by rw [ByteArray.size_append, hz]; omega)
    dsimp only at r1 r2
    have er : rd_L4 l (i : Int) = l.getD i [] := by unfold rd_L4; rw [Int.toNat_natCast]
    have hw : wrap64 ((i : Int) + 1) = ((i + 1 : Nat) : Int) := by rw [w64 (by omega) (by omega)]; omega
    refine ⟨r, ⟨K1 + K3 + 1, fun K hK => ?_⟩, ⟨K2 + K4 + 1, fun K hK => ?_⟩⟩
    · obtain ⟨K, rfl⟩ : ∃ j, K = j + 1 := ⟨K - 1, by omega⟩
      simp only [spec_txSystemText.l0]
      rw [if_pos (by omega), if_pos (by omega), if_pos (by omega), er, t1 K (by omega)]; simp only [bs2]
      rw [if_pos (by omega), if_pos (by omega), hw]; exact r1 K (by omega)
    · obtain ⟨K, rfl⟩ : ∃ j, K = j + 1 := ⟨K - 1, by omega⟩
      simp only [impl_SystemText.l0]
      rw [if_pos (by omega), if_pos (by omega), if_pos (by omega), er, t2 K (by omega)]; simp only [bs2]
      rw [if_pos (by omega), if_pos (by omega), hw]; exact r2 K (by omega)
theorem sysText_both {l : List (List S38)} (h : sysB l = true) : ∃ r : ByteArray, Ev (fun K => spec_txSystemText.f K l) r ∧ Ev (fun K => impl_SystemText.l0 K (⟨#[]⟩ : ByteArray) l (l.length : Int) 0) (r, true) := by
  obtain ⟨h1, h2⟩ := sysRun_ok l.length 0 (by omega) h
  exact sysText_l0 h1 (fun j hj => h2 j (by omega) hj) l.length 0 _ (by omega) (by decide)
end Go.Proofs.YtemjjknnelngcaaDoor.PD
