import Derived.Test.YtemjjknnelngcaaDoorQSystxtPDx1
import Derived.Test.YtemjjknnelngcaaDoorQSystxtMx
/- The text of a polynomial: plain lemmas on the printed functions. -/
namespace Go.Proofs.YtemjjknnelngcaaDoor.PD
open Go.RowKit Go.Proofs.YtemjjknnelngcaaDoorW.PrintWords Go.Proofs.YtemjjknnelngcaaDoorW.PrintLast Go.Proofs.YtemjjknnelngcaaDoorW.PrintMore
theorem lit1_size (a : UInt8) : (⟨#[a]⟩ : ByteArray).size = 1 := rfl
theorem okT_text {t : S38} (h : okT t = true) : impl_termText.f t.f0 t.f1 t.f2 t.f3 = some (tt t.f0 t.f1 t.f2 t.f3) ∧ Ev (fun K => spec_txTerm.f K t.f0 t.f1 t.f2 t.f3) (tt t.f0 t.f1 t.f2 t.f3) ∧ 0 < (tt t.f0 t.f1 t.f2 t.f3).size ∧ (tt t.f0 t.f1 t.f2 t.f3).size ≤ 1100 := by
  obtain ⟨g1, g2, g3, g4, g5, g6, g7, g8, g9, g10⟩ := okT_iff.1 h
  exact ⟨termText_eq g1 g2 g4 g5 g6 g7 g8 g9, txTerm_ev g1 g2 g4 g5 g6 g7 g8 g9, tt_size _ _ _ g1 g2⟩
theorem polyText_l0 {l : List S38} (hl : l.length ≤ 20) (ho : ∀ j, j < l.length → okT (l.getD j z38) = true) : ∀ (i : Nat) (s : ByteArray), i ≤ l.length → s.size + 1101 * i ≤ 100000 → ∃ r : ByteArray, Ev (fun K => spec_txText.l0 K l s ((i : Int) - 1)) r ∧ Ev (fun K => impl_polyText.l0 K l s ((i : Int) - 1)) r ∧ r.size ≤ 100000 := by
  intro i
  induction i with
  | zero =>
    intro s _ hs0
    refine ⟨s, ⟨1, fun K hK => ?_⟩, ⟨1, fun K hK => ?_⟩, by omega⟩
    · obtain ⟨K, rfl⟩ : ∃ j, K = j + 1 := ⟨K - 1, by omega⟩
      simp only [spec_txText.l0]; rw [if_neg (by omega)]
    · obtain ⟨K, rfl⟩ : ∃ j, K = j + 1 := ⟨K - 1, by omega⟩
      simp only [impl_polyText.l0]; rw [if_neg (by omega)]
  | succ i ih =>
    intro s hi hs
    obtain ⟨t1, ⟨K1, t2⟩, t3, t4⟩ := okT_text (ho i (by omega))
    dsimp only at t2
    have hc : (((i + 1 : Nat) : Int) - 1) = (i : Int) := by omega
    have hw : wrap64 ((i : Int) - 1) = (i : Int) - 1 := w64 (by omega) (by omega)
    rw [hc]
    generalize htt : tt (l.getD i z38).f0 (l.getD i z38).f1 (l.getD i z38).f2 (l.getD i z38).f3 = t at *
    have key : ∀ (r : ByteArray) (q : ByteArray) (_ : q = if s.toList = ([] : List UInt8) then s ++ t else if bt t 0 = 45 then s ++ t else (s ++ (⟨#[43]⟩ : ByteArray)) ++ t), Ev (fun K => spec_txText.l0 K l q ((i : Int) - 1)) r → Ev (fun K => impl_polyText.l0 K l q ((i : Int) - 1)) r → Ev (fun K => spec_txText.l0 K l s (i : Int)) r ∧ Ev (fun K => impl_polyText.l0 K l s (i : Int)) r := by
      intro r q hq ⟨K2, e2⟩ ⟨K3, e3⟩
      dsimp only at e2 e3
      constructor
      · refine ⟨K1 + K2 + 1, fun K hK => ?_⟩
        obtain ⟨K, rfl⟩ : ∃ j, K = j + 1 := ⟨K - 1, by omega⟩
        simp only [spec_txText.l0]
        rw [if_pos (by omega), if_pos (by omega), if_pos (by omega), rdT_at, t2 _ (by omega)]; simp only [bs2]
        rw [hw]
        have e := e2 K (by omega)
        rw [hq] at e
        by_cases c1 : s.toList = ([] : List UInt8)
        · rw [if_pos c1] at e ⊢; rw [if_pos (by omega)]; exact e
        · rw [if_neg c1] at e ⊢
          rw [if_pos (by omega)]
          by_cases c2 : bt t 0 = 45
          · rw [if_pos c2] at e ⊢; rw [if_pos (by omega)]; exact e
          · rw [if_neg c2] at e ⊢; rw [if_pos (by omega), if_pos (by rw [ByteArray.size_append, lit1_size]; omega)]; exact e
      · refine ⟨K1 + K3 + 1, fun K hK => ?_⟩
        obtain ⟨K, rfl⟩ : ∃ j, K = j + 1 := ⟨K - 1, by omega⟩
        simp only [impl_polyText.l0]
        rw [if_pos (by omega), if_pos (by omega), if_pos (by omega), rdT_at, t1]; simp only [bs2]
        rw [hw]
        have e := e3 K (by omega)
        rw [hq] at e
        by_cases c1 : s.toList = ([] : List UInt8)
        · rw [if_pos c1] at e ⊢; rw [if_pos (by omega)]; exact e
        · rw [if_neg c1] at e ⊢
          rw [if_pos (by omega)]
          by_cases c2 : bt t 0 = 45
          · rw [if_pos c2] at e ⊢; rw [if_pos (by omega)]; exact e
          · rw [if_neg c2] at e ⊢; rw [if_pos (by omega), if_pos (by rw [ByteArray.size_append, lit1_size]; omega)]; exact e
    have hq : ∀ q : ByteArray, (q = if s.toList = ([] : List UInt8) then s ++ t else if bt t 0 = 45 then s ++ t else (s ++ (⟨#[43]⟩ : ByteArray)) ++ t) → q.size + 1101 * i ≤ 100000 := by
      intro q h
      subst h
      split
      · rw [ByteArray.size_append]; omega
      · split
        · rw [ByteArray.size_append]; omega
        · rw [ByteArray.size_append, ByteArray.size_append, lit1_size]; omega
    obtain ⟨r, r1, r2, r3⟩ := ih _ (by omega) (hq _ rfl)
    obtain ⟨k1, k2⟩ := key r _ rfl r1 r2
    exact ⟨r, k1, k2, r3⟩
/-- The reference's text of a valid polynomial is the program's. -/
theorem polyText_both3 {l : List S38} (h : goodT l = true) : ∃ r : ByteArray, Ev (fun K => spec_txText.f K l) r ∧ Ev (fun K => impl_polyText.f K l) r ∧ r.size ≤ 100000 := by
  obtain ⟨h1, h2, _⟩ := goodT_ok h
  by_cases c : (l.length : Int) = 0
  · refine ⟨(⟨#[48]⟩ : ByteArray), ⟨0, fun K _ => ?_⟩, ⟨0, fun K _ => ?_⟩, by decide⟩
    · dsimp only; unfold spec_txText.f; rw [if_pos c]
    · dsimp only; unfold impl_polyText.f; rw [if_pos c]
  · obtain ⟨r, ⟨K1, r1⟩, ⟨K2, r2⟩, r3⟩ := polyText_l0 h1 h2 l.length (⟨#[]⟩ : ByteArray) (Nat.le_refl _) (by show 0 + _ ≤ _; omega)
    have hw : wrap64 ((l.length : Int) - 1) = (l.length : Int) - 1 := w64 (by omega) (by omega)
    refine ⟨r, ⟨K1, fun K hK => ?_⟩, ⟨K2, fun K hK => ?_⟩, r3⟩
    · dsimp only; unfold spec_txText.f; rw [if_neg c, hw]; exact r1 K hK
    · dsimp only; unfold impl_polyText.f; rw [if_neg c, hw]; exact r2 K hK
end Go.Proofs.YtemjjknnelngcaaDoor.PD
