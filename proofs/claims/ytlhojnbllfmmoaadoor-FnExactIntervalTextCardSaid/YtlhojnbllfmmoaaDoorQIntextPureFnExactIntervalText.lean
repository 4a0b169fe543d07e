import Derived.Test.YtlhojnbllfmmoaaDoorQIntextPDx1
import Derived.Test.YtlhojnbllfmmoaaDoorQIntextMw
import Derived.Test.YtlhojnbllfmmoaaDoorQIntextMg
/- FnExactIntervalText, told over numbers and texts alone: the law's printed function answers true. -/
namespace Go.Proofs.YtlhojnbllfmmoaaDoor.Pure
open Go.RowKit Go.Proofs.YtlhojnbllfmmoaaDoor.PD Go.Proofs.YtlhojnbllfmmoaaDoorW.PrintWords Go.Proofs.YtlhojnbllfmmoaaDoorW.PrintLast Go.Proofs.YtlhojnbllfmmoaaDoorW.PrintMore
theorem one_size (a : UInt8) : (⟨#[a]⟩ : ByteArray).size = 1 := rfl
/-- An interval's text. -/
def itxt (a j b k : Int) : ByteArray := (((((⟨#[91]⟩ : ByteArray) ++ txt a j) ++ (⟨#[44]⟩ : ByteArray)) ++ txt b k) ++ (⟨#[93]⟩ : ByteArray))
theorem intervalText_eq {a j b k : Int} (g1 : good a j = true) (g2 : good b k = true) : impl_intervalText.f a j b k = some (itxt a j b k) := by
  have s1 := txt_size g1
  have s2 := txt_size g2
  unfold impl_intervalText.f itxt
  rw [dyadicText_eq g1]; simp only [bs2]
  rw [if_pos (by omega), if_pos (by rw [ByteArray.size_append, one_size]; omega), dyadicText_eq g2]; simp only [bs2]
  rw [if_pos (by rw [ByteArray.size_append, ByteArray.size_append, one_size, one_size]; omega), if_pos (by rw [ByteArray.size_append, ByteArray.size_append, ByteArray.size_append, one_size, one_size]; omega)]
theorem ivText_ev {a j b k : Int} (g1 : good a j = true) (g2 : good b k = true) : Ev (fun K => spec_ivText.f K a j b k) (itxt a j b k) := by
  have s1 := txt_size g1
  have s2 := txt_size g2
  obtain ⟨K1, e1⟩ := dyText_ev g1
  obtain ⟨K2, e2⟩ := dyText_ev g2
  dsimp only at e1 e2
  refine ⟨K1 + K2, fun K hK => ?_⟩
  dsimp only; unfold spec_ivText.f itxt
  rw [e1 _ (by omega)]; simp only [bs2]
  rw [if_pos (by omega), if_pos (by rw [ByteArray.size_append, one_size]; omega), e2 _ (by omega)]; simp only [bs2]
  rw [if_pos (by rw [ByteArray.size_append, ByteArray.size_append, one_size, one_size]; omega), if_pos (by rw [ByteArray.size_append, ByteArray.size_append, ByteArray.size_append, one_size, one_size]; omega)]
theorem FnExactIntervalText (a0_0 a0_1 a0_2 a0_3 : Int) (_w0 : (Lit.int .i64 a0_0).wf = true) (_w1 : (Lit.int .i64 a0_1).wf = true) (_w2 : (Lit.int .i64 a0_2).wf = true) (_w3 : (Lit.int .i64 a0_3).wf = true) : ∃ k, laws_FnExactIntervalText.f k a0_0 a0_1 a0_2 a0_3 = some true := by
  obtain ⟨K1, e1⟩ := ivGood_ev a0_0 a0_1 a0_2 a0_3
  obtain ⟨K2, e2⟩ := isInterval_ev a0_0 a0_1 a0_2 a0_3
  dsimp only at e1 e2
  by_cases g : goodI a0_0 a0_1 a0_2 a0_3 = true
  · have hg : good a0_0 a0_1 = true ∧ good a0_2 a0_3 = true := ⟨(goodI_iff.1 g).1, (goodI_iff.1 g).2.1⟩
    obtain ⟨K3, e3⟩ := ivText_ev hg.1 hg.2
    dsimp only at e3
    refine ⟨K1 + K2 + K3, ?_⟩
    unfold laws_FnExactIntervalText.f laws_toInterval.f laws_toDyadic.f spec_IntervalText.f impl_IntervalText.f
    simp only [bs2]
    rw [e1 _ (by omega), g]; simp only [bs2, if_true]
    rw [e3 _ (by omega)]; simp only [bs2]
    rw [e2 _ (by omega), g]; simp only [bs2, if_true]
    rw [intervalText_eq hg.1 hg.2]; simp only [bs2]
    rw [if_pos trivial, if_neg (by simp)]
  · refine ⟨K1 + K2, ?_⟩
    unfold laws_FnExactIntervalText.f laws_toInterval.f laws_toDyadic.f spec_IntervalText.f impl_IntervalText.f
    simp only [bs2]
    rw [e1 _ (by omega)]; simp only [bs2]
    rw [if_neg g]; simp only [bs2]
    rw [e2 _ (by omega)]; simp only [bs2]
    rw [if_neg g]; simp only [bs2]
    rw [if_pos trivial, if_neg (by simp)]
end Go.Proofs.YtlhojnbllfmmoaaDoor.Pure
