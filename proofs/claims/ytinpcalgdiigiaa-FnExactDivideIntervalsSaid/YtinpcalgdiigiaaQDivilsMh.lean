import Derived.Test.YtinpcalgdiigiaaQDivilsPDx1
import Derived.Test.YtinpcalgdiigiaaQDivilsMg
/- The least and the greatest of some numbers: lemmas on the printed functions. -/
namespace Go.Proofs.Ytinpcalgdiigiaa.PD
open Go.RowKit Go.Proofs.YtinpcalgdiigiaaW.PrintWords Go.Proofs.YtinpcalgdiigiaaW.PrintLast Go.Proofs.YtinpcalgdiigiaaW.PrintMore
def pr (x : S27) : Int × Int := (x.f0, x.f1)
def lo (p : Int × Int) (l : List S27) : Int × Int := l.foldl (fun a x => mn2 a (pr x)) p
def hi (p : Int × Int) (l : List S27) : Int × Int := l.foldl (fun a x => mx2 a (pr x)) p
theorem ivEnds_l0 (l : List S27) (hl : l.length < 4611686018427387904) (hg : ∀ x ∈ l, G (pr x)) : ∀ (d i : Nat) (p q : Int × Int), i + d = l.length → G p → G q →
    Ev (fun K => spec_ivEnds.l0 K l (l.length : Int) (i : Int) p.1 p.2 q.1 q.2) ((lo p (l.drop i)).1, (lo p (l.drop i)).2, (hi q (l.drop i)).1, (hi q (l.drop i)).2) := by
  intro d
  induction d with
  | zero =>
    intro i p q hi _ _
    refine ⟨1, fun K hK => ?_⟩
    obtain ⟨K, rfl⟩ : ∃ j, K = j + 1 := ⟨K - 1, by omega⟩
    rw [List.drop_of_length_le (by omega)]
    simp only [spec_ivEnds.l0]
    rw [if_neg (by omega)]; rfl
  | succ d ih =>
    intro i p q hi' hp hq
    have hlt : i < l.length := by omega
    have hgx := hg _ (List.getElem_mem hlt)
    obtain ⟨K0, h0⟩ := spec_cmp hgx hp
    obtain ⟨K1, h1⟩ := spec_cmp hq hgx
    obtain ⟨K2, h2⟩ := ih (i + 1) (mn2 p (pr l[i])) (mx2 q (pr l[i])) (by omega) (G_mn2 hp hgx) (G_mx2 hq hgx)
    dsimp only at h0 h1 h2
    refine ⟨K0 + K1 + K2 + 1, fun K hK => ?_⟩
    obtain ⟨K, rfl⟩ : ∃ j, K = j + 1 := ⟨K - 1, by omega⟩
    have hrd : rd_T27 l (i : Int) = l[i] := by unfold rd_T27; rw [Int.toNat_natCast, List.getD_eq_getElem?_getD, List.getElem?_eq_getElem hlt]; rfl
    have hd : l.drop i = l[i] :: l.drop (i + 1) := List.drop_eq_getElem_cons hlt
    have hw : wrap64 ((i : Int) + 1) = ((i + 1 : Nat) : Int) := by rw [w64 (by omega) (by omega)]; omega
    rw [hd]
    have e1 : lo p (l[i] :: l.drop (i + 1)) = lo (mn2 p (pr l[i])) (l.drop (i + 1)) := rfl
    have e2 : hi q (l[i] :: l.drop (i + 1)) = hi (mx2 q (pr l[i])) (l.drop (i + 1)) := rfl
    rw [e1, e2, ← h2 K (by omega)]
    simp only [spec_ivEnds.l0]
    rw [if_pos (by omega), if_pos (by omega), if_pos (by omega), hrd, hw]
    have g0 := h0 K (by omega)
    have g1 := h1 K (by omega)
    simp only [pr] at g0 g1
    rw [g0]; simp only [bs, cmpI_lt, g1]
    unfold mn2 mx2 pr
    split <;> split <;> rfl
theorem ivEnds_ev (x : S27) (l : List S27) (hl : (x :: l).length < 4611686018427387904) (hg : ∀ y ∈ x :: l, G (pr y)) :
    Ev (fun K => spec_ivEnds.f K (x :: l)) ((lo (pr x) l).1, (lo (pr x) l).2, (hi (pr x) l).1, (hi (pr x) l).2) := by
  obtain ⟨K0, h0⟩ := ivEnds_l0 (x :: l) hl hg (l.length + 1) 0 (pr x) (pr x) (by simp) (hg x (by simp)) (hg x (by simp))
  dsimp only at h0
  refine ⟨K0, fun K hK => ?_⟩
  dsimp only; unfold spec_ivEnds.f
  have hrd : rd_T27 (x :: l) 0 = x := rfl
  rw [if_pos (by simp only [List.length_cons]; omega), hrd]
  have := h0 K hK
  simp only [List.drop_zero] at this
  have e1 : lo (pr x) (x :: l) = lo (pr x) l := by
    show lo (mn2 (pr x) (pr x)) l = _
    rw [show mn2 (pr x) (pr x) = pr x by unfold mn2; rw [if_neg (by omega)]]
  have e2 : hi (pr x) (x :: l) = hi (pr x) l := by
    show hi (mx2 (pr x) (pr x)) l = _
    rw [show mx2 (pr x) (pr x) = pr x by unfold mx2; rw [if_neg (by omega)]]
  rw [e1, e2] at this
  exact this
end Go.Proofs.Ytinpcalgdiigiaa.PD
