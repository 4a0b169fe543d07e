-- By wip/mk/drv.py
import Derived.Test.YthanmlojikidbaaQExchnsPDx0
import Derived.Test.YthanmlojikidbaaQExchnsPDx1
import Derived.Test.YthanmlojikidbaaQExchnsPDx2
import Derived.Test.YthanmlojikidbaaQExchnsPDx27
namespace Go.Proofs.Ythanmlojikidbaa.PD
open Go.RowKit Go.Proofs.YthanmlojikidbaaW.PrintWords Go.Proofs.YthanmlojikidbaaW.PrintLast Go.Proofs.YthanmlojikidbaaW.PrintMore
attribute [local go_sem] max2_int min2_int max_two min_two max_three min_three max_four min_four
set_option linter.unusedVariables false
set_option linter.unusedSimpArgs false
/-! ### laws_intactTermS: function 11 -/
-- PROOF
theorem laws_eqTermS.self (F : List S51) (hF : F.length ≤ 9223372036854775807) : ∃ k, laws_eqTermS.f k F F = some true := by
 have key : ∀ (d i K : Nat), i + d = F.length → d < K → laws_eqTermS.l0 K F F (i : Int) = some true := by
  intro d
  induction d with
  | zero =>
   intro i K hi hK
   obtain ⟨K, rfl⟩ : ∃ j, K = j + 1 := ⟨K - 1, by omega⟩
   simp only [laws_eqTermS.l0]
   rw [if_neg (by omega)]
  | succ d ih =>
   intro i K hi hK
   obtain ⟨K, rfl⟩ : ∃ j, K = j + 1 := ⟨K - 1, by omega⟩
   simp only [laws_eqTermS.l0]
   have hw : wrap64 ((i : Int) + 1) = ((i + 1 : Nat) : Int) := by unfold wrap64; omega
   have he : ∀ x : S51, laws_eqTerm.f x.f0 x.f1 x.f2 x.f3 x.f0 x.f1 x.f2 x.f3 = some true := fun x => by unfold laws_eqTerm.f; simp
   rw [if_pos (by omega), if_pos (by omega), if_pos (by omega), he]; simp only [Option.bind_some, if_true]
   rw [hw]
   exact ih (i + 1) K (by omega) (by omega)
 refine ⟨F.length + 1, ?_⟩
 unfold laws_eqTermS.f
 rw [if_pos rfl]
 exact key F.length 0 _ (by omega) (by omega)
set_option maxHeartbeats 8000000 in
set_option maxRecDepth 100000 in
theorem laws_intactTermS.calls (A0 : Option Addr) (c0 : Nat) (l0 : List S51) (A1 : Option Addr) (c1 : Nat) (l1 : List S51) (r : Bool) (w : World) (hr0 : Kd.C k51 w A0 l0.length l0) (hc0 : l0.length ≤ c0) (hr1 : Kd.C k51 w A1 l1.length l1) (hc1 : l1.length ≤ c1) (h : laws_intactTermS.f l0 l1 = some r)
  (hF0 : Kd.C k51 w A0 (flb filk51 false l0).length (flb filk51 false l0)) (hG0 : (flb filk51 false l0).length ≤ c0) (hF1 : Kd.C k51 w A1 (flb filk51 false l1).length (flb filk51 false l1)) (hG1 : (flb filk51 false l1).length ≤ c1) :
  Calls Try.prog 11 #[.slice A0 l0.length c0, .slice A1 l1.length c1] w fun e w' => e = .returned (.bool r) ∧ Below w.heap.size w w' := by
 unfold laws_intactTermS.f at h
 by_cases hl : l0 = l1
 ·
  rw [if_pos hl] at h
  obtain rfl := Option.some.inj h
  subst hl
  obtain ⟨k, hs⟩ := laws_eqTermS.self (flb filk51 false l0) hF0.2.1
  have hsum : (flb filk51 false l0).length = l0.length + room l0.length := flb_len _ _
  have hbig := hF0.2.1
  have A3 := Aside0.mk (laws_roomBehind.at_ l0.length)
  have A10 := Aside0.mk hs
  clear h hs
  have HC0 := Aside0.mk hG0
  have HC1 := Aside0.mk hG1
  have HR146 := Aside0.mk hF0
  have HR147 := Aside0.mk hF1
  clear hr0 hc0 hr1 hc1
  have HB := Aside0.mk (Below.refl w.heap.size w)
  have c4b0 : ((l0.length : Int) == (l0.length : Int)) = true := by simp
  have c4b2 : (l0.length == l0.length) = true := by simp
  obtain ⟨ji5, hji5, hj0⟩ : ∃ j_ : Int, wrap64 ((l0.length : Int) + (room l0.length : Int)) = j_ ∧ j_ = ((flb filk51 false l0).length : Int) := ⟨_, rfl, by rw [hsum]; unfold wrap64; omega⟩
  have hji5w : (IntKind.i64.wrap ((l0.length : Int) + (room l0.length : Int))) = ji5 := (i64_w _).trans hji5
  have HJ := Aside0.mk hj0
  clear hsum hbig hF0 hF1 hG0 hG1
  have c6b0 := eq_true (show 0 ≤ ji5 by rw [HJ.out]; omega)
  have c6b1 : decide (0 ≤ ji5) = true := decide_eq_true (by rw [HJ.out]; omega)
  have hcut11 : ∀ W : World, (Instr.slice 25 (.slice A0 l0.length c0) none (some (.int .i64 ji5)) none).run Try.prog W = .ok (.slice A0 (flb filk51 false l0).length c0) W := by
   obtain ⟨i0, hi0, _, hsz, _⟩ := info_parts info51
   exact cut_cap 25 51 .i64 Try.underlying25 hi0 A0 l0.length c0 ji5 _ HJ.out HC0.out
  have hcut12 : ∀ W : World, (Instr.slice 25 (.slice A1 l0.length c1) none (some (.int .i64 ji5)) none).run Try.prog W = .ok (.slice A1 (flb filk51 false l0).length c1) W := by
   obtain ⟨i0, hi0, _, hsz, _⟩ := info_parts info51
   exact cut_cap 25 51 .i64 Try.underlying25 hi0 A1 l0.length c1 ji5 _ HJ.out HC1.out
  clear hj0
  obtain ⟨F, hF⟩ : ∃ F, F = flb filk51 false l0 := ⟨_, rfl⟩
  rw [← hF] at hcut11 hcut12 HR146 HR147 A10 HC0 HC1
  clear hF HJ
  go_enter Try.func11, Try.ntmps11
  go_wp2_with (first | ((with_reducible refine gate_callee (f := 37) rfl ?_); refine goesL_ _ rfl rfl Try.func37 (by kernel_rfl) rfl #[.int .i64 (l0.length : Int)] rfl zq6 ?_; (with_reducible refine (laws_roomBehind.calls (l0.length : Int) (room l0.length : Int) _ A3.out).mono ?_); rintro e w' ⟨rfl, ⟨nd, rfl⟩⟩; refine ⟨_, rfl, ?_⟩))
  refine start_ (n := 15) (S := fun _ => True) (ds := []) #[false, false, false, false, false, false, false, false, false, false, false, false, false, false, false] (by kernel_rfl) rfl rfl trivial (fun hHeld => ?_)
  refine zp (i := 0) (N := some 12) #[true, false, false, false, false, false, false, false, false, false, false, false, false, false, false] (by kernel_rfl) ?_
  refine zp (i := 1) (N := some 13) #[true, true, false, false, false, false, false, false, false, false, false, false, false, false, false] (by kernel_rfl) ?_
  refine zp (i := 2) (N := some 14) #[true, true, true, false, false, false, false, false, false, false, false, false, false, false, false] (by kernel_rfl) ?_
  refine zp (i := 3) (N := some 15) #[true, true, true, true, false, false, false, false, false, false, false, false, false, false, false] (by kernel_rfl) ?_
  refine zp (i := 4) (N := some 16) #[true, true, true, true, true, false, false, false, false, false, false, false, false, false, false] (by kernel_rfl) ?_
  refine zp (i := 5) (N := some 17) #[true, true, true, true, true, true, false, false, false, false, false, false, false, false, false] (by kernel_rfl) ?_
  refine zp (i := 6) (N := some 18) #[true, true, true, true, true, true, true, false, false, false, false, false, false, false, false] (by kernel_rfl) ?_
  refine zp (i := 7) (N := some 19) #[true, true, true, true, true, true, true, true, false, false, false, false, false, false, false] (by kernel_rfl) ?_
  refine zp (i := 8) (N := some 20) #[true, true, true, true, true, true, true, true, true, false, false, false, false, false, false] (by kernel_rfl) ?_
  refine zp (i := 9) (N := some 21) #[true, true, true, true, true, true, true, true, true, true, false, false, false, false, false] (by kernel_rfl) ?_
  refine zp (i := 10) (N := some 22) #[true, true, true, true, true, true, true, true, true, true, true, false, false, false, false] (by kernel_rfl) ?_
  refine zp (i := 11) (N := some 23) #[true, true, true, true, true, true, true, true, true, true, true, true, false, false, false] (by kernel_rfl) ?_
  refine one_ (i := 12) (N := some 24) #[true, true, true, true, true, true, true, true, true, true, true, true, true, false, false] rfl rfl (by kernel_rfl) (by decide) (fun K hK => ?_)
  refine goes_ Try.func10 (by kernel_rfl) rfl #[.slice A0 F.length c0, .slice A1 F.length c1] (by rfl) rfl rfl zq6 ?_
  refine (laws_eqTermS.calls k _ _ F _ _ F true _ ?side1 ?side2 ?side3 ?side4 A10.out).mono ?_
  (case side1 => repeat (first | exact HR146.out | (with_reducible refine Kd.C_alloc ?_ _) | (with_reducible refine Kd.C_drewN ?_ _) | (with_reducible refine Kd.C_drew ?_)))
  case side2 => exact HC0.out
  (case side3 => repeat (first | exact HR147.out | (with_reducible refine Kd.C_alloc ?_ _) | (with_reducible refine Kd.C_drewN ?_ _) | (with_reducible refine Kd.C_drew ?_)))
  case side4 => exact HC1.out
  rintro e w10 ⟨rfl, hb⟩
  refine ⟨_, rfl, ?_⟩
  replace HB := Aside0.mk (below_step (zb0 HB) hb)
  clear hb
  refine hK.out _ _ trivial (fun hHeld => ?_)
  clear hK K
  refine norm_ (a' := ?_) ?_ ?_
  rotate_left
  ·
   show Act.put _ (some 24) _ = _
   simp only [Act.put, List.setIfInBounds_toArray, List.set_cons_zero, List.set_cons_succ, i64_w, i32_w]; rfl
  refine zp (i := 13) (N := some 25) #[true, true, true, true, true, true, true, true, true, true, true, true, true, true, false] (by kernel_rfl) ?_
  refine zp (i := 14) (N := some 4) #[true, true, true, true, true, true, true, true, true, true, true, true, true, true, true] (by kernel_rfl) ?_
  refine done_ (by kernel_rfl) ?_
  try go_wp2
  go_ret
  exact ⟨by first | rfl | (simp; done) | (simp [*]; done), (zb0 HB)⟩
 ·
  rw [if_neg hl] at h
  cases h
end Go.Proofs.Ythanmlojikidbaa.PD
