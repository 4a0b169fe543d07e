-- By wip/mk/drv.py
import Derived.Test.YtfnmppeoleicbaaQDegrOfPDx0
import Derived.Test.YtfnmppeoleicbaaQDegrOfPDx1
import Derived.Test.YtfnmppeoleicbaaQDegrOfPDx2
import Derived.Test.YtfnmppeoleicbaaQDegrOfPDx6
import Derived.Test.YtfnmppeoleicbaaQDegrOfPDx11
import Derived.Test.YtfnmppeoleicbaaQDegrOfPDx13
import Derived.Test.YtfnmppeoleicbaaQDegrOfPDx14
namespace Go.Proofs.Ytfnmppeoleicbaa.PD
open Go.RowKit Go.Proofs.YtfnmppeoleicbaaW.PrintWords Go.Proofs.YtfnmppeoleicbaaW.PrintLast Go.Proofs.YtfnmppeoleicbaaW.PrintMore
attribute [local go_sem] max2_int min2_int max_two min_two max_three min_three max_four min_four
set_option linter.unusedVariables false
set_option linter.unusedSimpArgs false
/-! ### laws_FnExactDegreeOf: function 4 -/
set_option maxHeartbeats 8000000 in
set_option maxRecDepth 100000 in
theorem laws_FnExactDegreeOf.calls (k : Nat) (A0 : Option Addr) (c0 : Nat) (l0 : List (S57)) (r : Bool) (w : World) (hr0 : Kd.C k57 w A0 l0.length l0) (hc0 : l0.length ≤ c0) (h : laws_FnExactDegreeOf.f k l0 = some r) :
  Calls Try.prog 4 #[.slice A0 l0.length c0] w fun e w' => e = .returned (.bool r) ∧ Below w.heap.size w w' := by
 have HR0 := Aside0.mk hr0
 have HC0 := Aside0.mk hc0
 clear hr0 hc0
 have HB := Aside0.mk (Below.refl w.heap.size w)
 have H : ((laws_szTermS.f l0 1000000).bind fun t196 => (if t196 < 0 then (some true) else ((laws_toTermS.f k l0 false).bind fun t197 => ((spec_DegreeOf.f k t197).bind fun bt200 => ((laws_toTermS.f k l0 false).bind fun t202 => ((impl_DegreeOf.f k t202).bind fun bt205 => (if bt205.1 = bt200.1 then (if (bt205.2 != bt200.2) = true then (none) else ((laws_toTermS.f k l0 false).bind fun t207 => ((laws_intactTermS.f t202 t207).bind fun t210 => (if t210 = true then ((laws_toTermS.f k l0 true).bind fun t211 => ((impl_DegreeOf.f k t211).bind fun bt214 => (if bt214.1 = bt200.1 then (if (bt214.2 != bt200.2) = true then (none) else (some true)) else (none)))) else (none))))) else (none)))))))) = some r := h
 clear h
 replace H := Option.bind_eq_some_iff.mp H
 obtain ⟨t196, A20, H⟩ := H
 replace H : (if t196 < 0 then (some true) else ((laws_toTermS.f k l0 false).bind fun t197 => ((spec_DegreeOf.f k t197).bind fun bt200 => ((laws_toTermS.f k l0 false).bind fun t202 => ((impl_DegreeOf.f k t202).bind fun bt205 => (if bt205.1 = bt200.1 then (if (bt205.2 != bt200.2) = true then (none) else ((laws_toTermS.f k l0 false).bind fun t207 => ((laws_intactTermS.f t202 t207).bind fun t210 => (if t210 = true then ((laws_toTermS.f k l0 true).bind fun t211 => ((impl_DegreeOf.f k t211).bind fun bt214 => (if bt214.1 = bt200.1 then (if (bt214.2 != bt200.2) = true then (none) else (some true)) else (none)))) else (none))))) else (none))))))) = some r := H
 have A2 := Aside0.mk A20
 clear A20
 by_cases c3 : t196 < 0
 ·
  rw [if_pos c3] at H
  have c3b0 : decide (t196 < 0) = true := decide_eq_true c3
  clear c3
  obtain rfl := Option.some.inj H
  go_enter Try.func4, Try.ntmps4
  go_wp2_with (first | ((with_reducible refine gate_callee (f := 15) rfl ?_); refine goesL_ (some 13) rfl rfl Try.func15 (by kernel_rfl) rfl #[.slice A0 l0.length c0, .int .i64 1000000] rfl zq6 ?_; (with_reducible refine (laws_szTermS.calls _ _ l0 1000000 t196 _ ?side1 ?side2 A2.out).mono ?_); (case side1 => repeat (first | exact HR0.out | (with_reducible refine Kd.C_alloc ?_ _) | (with_reducible refine Kd.C_drewN ?_ _) | (with_reducible refine Kd.C_drew ?_))); (case side2 => exact HC0.out); rintro e w' ⟨rfl, ⟨nd, rfl⟩⟩; refine ⟨_, rfl, ?_⟩))
  go_ret
  exact ⟨by first | rfl | (simp [errW_none, errW_some] <;> rfl) | (simp [*, errW_none, errW_some] <;> rfl), (zb0 HB)⟩
 ·
  rw [if_neg c3] at H
  have c3b0 : decide (t196 < 0) = false := decide_eq_false c3
  clear c3
  replace H := Option.bind_eq_some_iff.mp H
  obtain ⟨t197, A40, H⟩ := H
  replace H : ((spec_DegreeOf.f k t197).bind fun bt200 => ((laws_toTermS.f k l0 false).bind fun t202 => ((impl_DegreeOf.f k t202).bind fun bt205 => (if bt205.1 = bt200.1 then (if (bt205.2 != bt200.2) = true then (none) else ((laws_toTermS.f k l0 false).bind fun t207 => ((laws_intactTermS.f t202 t207).bind fun t210 => (if t210 = true then ((laws_toTermS.f k l0 true).bind fun t211 => ((impl_DegreeOf.f k t211).bind fun bt214 => (if bt214.1 = bt200.1 then (if (bt214.2 != bt200.2) = true then (none) else (some true)) else (none)))) else (none))))) else (none))))) = some r := H
  have A4 := Aside0.mk A40
  clear A40
  replace H := Option.bind_eq_some_iff.mp H
  obtain ⟨⟨t200, t201⟩, A50, H⟩ := H
  replace H : ((laws_toTermS.f k l0 false).bind fun t202 => ((impl_DegreeOf.f k t202).bind fun bt205 => (if bt205.1 = t200 then (if (bt205.2 != t201) = true then (none) else ((laws_toTermS.f k l0 false).bind fun t207 => ((laws_intactTermS.f t202 t207).bind fun t210 => (if t210 = true then ((laws_toTermS.f k l0 true).bind fun t211 => ((impl_DegreeOf.f k t211).bind fun bt214 => (if bt214.1 = t200 then (if (bt214.2 != t201) = true then (none) else (some true)) else (none)))) else (none))))) else (none)))) = some r := H
  have A5 := Aside0.mk A50
  clear A50
  replace H := Option.bind_eq_some_iff.mp H
  obtain ⟨t202, A60, H⟩ := H
  replace H : ((impl_DegreeOf.f k t202).bind fun bt205 => (if bt205.1 = t200 then (if (bt205.2 != t201) = true then (none) else ((laws_toTermS.f k l0 false).bind fun t207 => ((laws_intactTermS.f t202 t207).bind fun t210 => (if t210 = true then ((laws_toTermS.f k l0 true).bind fun t211 => ((impl_DegreeOf.f k t211).bind fun bt214 => (if bt214.1 = t200 then (if (bt214.2 != t201) = true then (none) else (some true)) else (none)))) else (none))))) else (none))) = some r := H
  have A6 := Aside0.mk A60
  clear A60
  replace H := Option.bind_eq_some_iff.mp H
  obtain ⟨⟨t205, t206⟩, A70, H⟩ := H
  replace H : (if t205 = t200 then (if (t206 != t201) = true then (none) else ((laws_toTermS.f k l0 false).bind fun t207 => ((laws_intactTermS.f t202 t207).bind fun t210 => (if t210 = true then ((laws_toTermS.f k l0 true).bind fun t211 => ((impl_DegreeOf.f k t211).bind fun bt214 => (if bt214.1 = t200 then (if (bt214.2 != t201) = true then (none) else (some true)) else (none)))) else (none))))) else (none)) = some r := H
  have A7 := Aside0.mk A70
  clear A70
  by_cases c8 : t205 = t200
  ·
   rw [if_pos c8] at H
   have c8b0 : (t205 == t200) = true := beq_iff_eq.mpr c8
   have c8b1 : (t205 != t200) = false := bne_eq_false_iff_eq.mpr c8
   clear c8
   by_cases c9 : (t206 != t201) = true
   ·
    rw [if_pos c9] at H
    exact absurd H (by simp)
   ·
    rw [if_neg c9] at H
    have c9b0 : (t206 != t201) = false := by simpa using c9
    (try (have c9b1 : decide (t206 = t201) = true := by simpa using c9))
    (try (have c9b2 : (t206 == t201) = true := by simpa using c9))
    clear c9
    replace H := Option.bind_eq_some_iff.mp H
    obtain ⟨t207, A100, H⟩ := H
    replace H : ((laws_intactTermS.f t202 t207).bind fun t210 => (if t210 = true then ((laws_toTermS.f k l0 true).bind fun t211 => ((impl_DegreeOf.f k t211).bind fun bt214 => (if bt214.1 = t200 then (if (bt214.2 != t201) = true then (none) else (some true)) else (none)))) else (none))) = some r := H
    have A10 := Aside0.mk A100
    clear A100
    replace H := Option.bind_eq_some_iff.mp H
    obtain ⟨t210, A110, H⟩ := H
    replace H : (if t210 = true then ((laws_toTermS.f k l0 true).bind fun t211 => ((impl_DegreeOf.f k t211).bind fun bt214 => (if bt214.1 = t200 then (if (bt214.2 != t201) = true then (none) else (some true)) else (none)))) else (none)) = some r := H
    have A11 := Aside0.mk A110
    clear A110
    by_cases c12 : t210 = true
    ·
     subst c12
     have H1 : ((laws_toTermS.f k l0 true).bind fun t211 => ((impl_DegreeOf.f k t211).bind fun bt214 => (if bt214.1 = t200 then (if (bt214.2 != t201) = true then (none) else (some true)) else (none)))) = some r := by rw [if_pos rfl] at H; exact H
     clear H
     have H := H1
     clear H1
     replace H := Option.bind_eq_some_iff.mp H
     obtain ⟨t211, A130, H⟩ := H
     replace H : ((impl_DegreeOf.f k t211).bind fun bt214 => (if bt214.1 = t200 then (if (bt214.2 != t201) = true then (none) else (some true)) else (none))) = some r := H
     have A13 := Aside0.mk A130
     clear A130
     replace H := Option.bind_eq_some_iff.mp H
     obtain ⟨⟨t214, t215⟩, A140, H⟩ := H
     replace H : (if t214 = t200 then (if (t215 != t201) = true then (none) else (some true)) else (none)) = some r := H
     have A14 := Aside0.mk A140
     clear A140
     by_cases c15 : t214 = t200
     ·
      rw [if_pos c15] at H
      have c15b0 : (t214 == t200) = true := beq_iff_eq.mpr c15
      have c15b1 : (t214 != t200) = false := bne_eq_false_iff_eq.mpr c15
      clear c15
      by_cases c16 : (t215 != t201) = true
      ·
       rw [if_pos c16] at H
       exact absurd H (by simp)
      ·
       rw [if_neg c16] at H
       have c16b0 : (t215 != t201) = false := by simpa using c16
       (try (have c16b1 : decide (t215 = t201) = true := by simpa using c16))
       (try (have c16b2 : (t215 == t201) = true := by simpa using c16))
       clear c16
       obtain rfl := Option.some.inj H
       go_enter Try.func4, Try.ntmps4
       go_wp2_with (first | ((with_reducible refine gate_callee (f := 15) rfl ?_); refine goesL_ (some 13) rfl rfl Try.func15 (by kernel_rfl) rfl #[.slice A0 l0.length c0, .int .i64 1000000] rfl zq6 ?_; (with_reducible refine (laws_szTermS.calls _ _ l0 1000000 t196 _ ?side1 ?side2 A2.out).mono ?_); (case side1 => repeat (first | exact HR0.out | (with_reducible refine Kd.C_alloc ?_ _) | (with_reducible refine Kd.C_drewN ?_ _) | (with_reducible refine Kd.C_drew ?_))); (case side2 => exact HC0.out); rintro e w' ⟨rfl, ⟨nd, rfl⟩⟩; refine ⟨_, rfl, ?_⟩) | ((with_reducible refine gate_callee (f := 17) rfl ?_); refine goesL_ (some 18) rfl rfl Try.func17 (by kernel_rfl) rfl #[.slice A0 l0.length c0, .bool false] rfl zq6 ?_; (with_reducible refine (laws_toTermS.calls k _ _ l0 false t197 _ ?side1 ?side2 A4.out).mono ?_); (case side1 => repeat (first | exact HR0.out | (with_reducible refine Kd.C_alloc ?_ _) | (with_reducible refine Kd.C_drewN ?_ _) | (with_reducible refine Kd.C_drew ?_))); (case side2 => exact HC0.out); rintro e w17 ⟨v198, rfl, ho0, hb, ho0F⟩; refine ⟨_, rfl, ?_⟩; have n0_ := Aside0.mk (Kd.R_lower ho0 (below_size (zb0 HB))); have n0F_ := Aside0.mk (Kd.R_lower ho0F (below_size (zb0 HB))); have n1_ := Aside0.mk (below_step (zb0 HB) hb); clear HB; have HO199 := n0_; have HO199F := n0F_; have HB := n1_; clear n0_ n1_ n0F_; (try clear hb); (try clear hb2); (try clear hk); (try clear hi); (try clear ho0); (try clear ho0F); obtain ⟨Ao18, co18, eo18⟩ := Kd.R_slice HO199.out; subst eo18) | ((with_reducible refine gate_callee (f := 20) rfl ?_); refine goesL_ (some 19) rfl rfl Try.func20 (by kernel_rfl) rfl #[.slice Ao18 t197.length co18] rfl zq6 ?_; (with_reducible refine (spec_DegreeOf.calls k _ _ t197 t200 t201 _ ?side1 ?side2 A5.out).mono ?_); (case side1 => repeat (first | exact (Kd.R_reads' HO199.out).2.2 | (with_reducible refine Kd.C_alloc ?_ _) | (with_reducible refine Kd.C_drewN ?_ _) | (with_reducible refine Kd.C_drew ?_))); (case side2 => exact (Kd.R_reads' HO199.out).2.1); rintro e w19 ⟨rfl, hb⟩; refine ⟨_, rfl, ?_⟩; have n0_ := Aside0.mk (Kd.R_below (zq3 HO199) hb); have n0F_ := Aside0.mk (Kd.R_below (zq3 HO199F) hb); have n1_ := Aside0.mk (below_step (zb0 HB) hb); clear HO199 HO199F; clear HB; have HO199 := n0_; have HO199F := n0F_; have HB := n1_; clear n0_ n1_ n0F_; (try clear hb); (try clear hb2); (try clear hk); (try clear hi)) | ((with_reducible refine gate_callee (f := 17) rfl ?_); refine goesL_ (some 23) rfl rfl Try.func17 (by kernel_rfl) rfl #[.slice A0 l0.length c0, .bool false] rfl zq6 ?_; (with_reducible refine (laws_toTermS.calls k _ _ l0 false t202 _ ?side1 ?side2 A6.out).mono ?_); (case side1 => repeat (first | exact (Kd.C_below HR0.out HB.out) | (with_reducible refine Kd.C_alloc ?_ _) | (with_reducible refine Kd.C_drewN ?_ _) | (with_reducible refine Kd.C_drew ?_))); (case side2 => exact HC0.out); rintro e w20 ⟨v203, rfl, ho0, hb, ho0F⟩; refine ⟨_, rfl, ?_⟩; have n0_ := Aside0.mk (Kd.R_elder' (zq3 HO199) (Kd.R_base ho0) hb); have n0F_ := Aside0.mk (Kd.R_elder' (zq3 HO199F) (Kd.R_base ho0) hb); have n1_ := Aside0.mk (Kd.R_lower (Kd.R_new' ho0 (Kd.R_lt (zq3 HO199))) (below_size (zb0 HB))); have n1F_ := Aside0.mk (Kd.R_lower (Kd.R_new' ho0F (Kd.R_lt (zq3 HO199))) (below_size (zb0 HB))); have n2_ := Aside0.mk (below_step (zb0 HB) hb); clear HO199 HO199F; clear HB; have HO199 := n0_; have HO199F := n0F_; have HO204 := n1_; have HO204F := n1F_; have HB := n2_; clear n0_ n1_ n2_ n0F_ n1F_; (try clear hb); (try clear hb2); (try clear hk); (try clear hi); (try clear ho0); (try clear ho0F); obtain ⟨Ao21, co21, eo21⟩ := Kd.R_slice HO204.out; subst eo21) | ((with_reducible refine gate_callee (f := 21) rfl ?_); refine goesL_ (some 26) rfl rfl Try.func21 (by kernel_rfl) rfl #[.slice Ao21 t202.length co21] rfl zq6 ?_; (with_reducible refine (impl_DegreeOf.calls k _ _ t202 t205 t206 _ ?side1 ?side2 A7.out).mono ?_); (case side1 => repeat (first | exact (Kd.R_reads' HO204.out).2.2 | (with_reducible refine Kd.C_alloc ?_ _) | (with_reducible refine Kd.C_drewN ?_ _) | (with_reducible refine Kd.C_drew ?_))); (case side2 => exact (Kd.R_reads' HO204.out).2.1); rintro e w22 ⟨rfl, hb⟩; refine ⟨_, rfl, ?_⟩; have n0_ := Aside0.mk (Kd.R_below (zq3 HO199) hb); have n0F_ := Aside0.mk (Kd.R_below (zq3 HO199F) hb); have n1_ := Aside0.mk (Kd.R_below (zq3 HO204) hb); have n1F_ := Aside0.mk (Kd.R_below (zq3 HO204F) hb); have n2_ := Aside0.mk (below_step (zb0 HB) hb); clear HO199 HO199F; clear HO204 HO204F; clear HB; have HO199 := n0_; have HO199F := n0F_; have HO204 := n1_; have HO204F := n1F_; have HB := n2_; clear n0_ n1_ n2_ n0F_ n1F_; (try clear hb); (try clear hb2); (try clear hk); (try clear hi)) | ((with_reducible refine gate_callee (f := 17) rfl ?_); refine goesL_ (some 39) rfl rfl Try.func17 (by kernel_rfl) rfl #[.slice A0 l0.length c0, .bool false] rfl zq6 ?_; (with_reducible refine (laws_toTermS.calls k _ _ l0 false t207 _ ?side1 ?side2 A10.out).mono ?_); (case side1 => repeat (first | exact (Kd.C_below HR0.out HB.out) | (with_reducible refine Kd.C_alloc ?_ _) | (with_reducible refine Kd.C_drewN ?_ _) | (with_reducible refine Kd.C_drew ?_))); (case side2 => exact HC0.out); rintro e w23 ⟨v208, rfl, ho0, hb, ho0F⟩; refine ⟨_, rfl, ?_⟩; have n0_ := Aside0.mk (Kd.R_elder' (zq3 HO199) (Kd.R_base ho0) hb); have n0F_ := Aside0.mk (Kd.R_elder' (zq3 HO199F) (Kd.R_base ho0) hb); have n1_ := Aside0.mk (Kd.R_elder' (zq3 HO204) (Kd.R_base ho0) hb); have n1F_ := Aside0.mk (Kd.R_elder' (zq3 HO204F) (Kd.R_base ho0) hb); have n2_ := Aside0.mk (Kd.R_lower (Kd.R_new' (Kd.R_new' ho0 (Kd.R_lt (zq3 HO199))) (Kd.R_lt (zq3 HO204))) (below_size (zb0 HB))); have n2F_ := Aside0.mk (Kd.R_lower (Kd.R_new' (Kd.R_new' ho0F (Kd.R_lt (zq3 HO199))) (Kd.R_lt (zq3 HO204))) (below_size (zb0 HB))); have n3_ := Aside0.mk (below_step (zb0 HB) hb); clear HO199 HO199F; clear HO204 HO204F; clear HB; have HO199 := n0_; have HO199F := n0F_; have HO204 := n1_; have HO204F := n1F_; have HO209 := n2_; have HO209F := n2F_; have HB := n3_; clear n0_ n1_ n2_ n3_ n0F_ n1F_ n2F_; (try clear hb); (try clear hb2); (try clear hk); (try clear hi); (try clear ho0); (try clear ho0F); obtain ⟨Ao24, co24, eo24⟩ := Kd.R_slice HO209.out; subst eo24) | ((with_reducible refine gate_callee (f := 19) rfl ?_); refine goesL_ (some 40) rfl rfl Try.func19 (by kernel_rfl) rfl #[.slice Ao21 t202.length co21, .slice Ao24 t207.length co24] rfl zq6 ?_; (with_reducible refine (laws_intactTermS.calls _ _ t202 _ _ t207 true _ ?side1 ?side2 ?side3 ?side4 A11.out ?sideF1 ?sideF2 ?sideF3 ?sideF4).mono ?_); (case side1 => repeat (first | exact (Kd.R_reads' HO204.out).2.2 | (with_reducible refine Kd.C_alloc ?_ _) | (with_reducible refine Kd.C_drewN ?_ _) | (with_reducible refine Kd.C_drew ?_))); (case side2 => exact (Kd.R_reads' HO204.out).2.1); (case side3 => repeat (first | exact (Kd.R_reads' HO209.out).2.2 | (with_reducible refine Kd.C_alloc ?_ _) | (with_reducible refine Kd.C_drewN ?_ _) | (with_reducible refine Kd.C_drew ?_))); (case side4 => exact (Kd.R_reads' HO209.out).2.1); (case sideF1 => repeat (first | exact (Kd.R_reads' HO204F.out).2.2 | (with_reducible refine Kd.C_alloc ?_ _) | (with_reducible refine Kd.C_drewN ?_ _) | (with_reducible refine Kd.C_drew ?_))); (case sideF2 => exact (Kd.R_reads' HO204F.out).2.1); (case sideF3 => repeat (first | exact (Kd.R_reads' HO209F.out).2.2 | (with_reducible refine Kd.C_alloc ?_ _) | (with_reducible refine Kd.C_drewN ?_ _) | (with_reducible refine Kd.C_drew ?_))); (case sideF4 => exact (Kd.R_reads' HO209F.out).2.1); rintro e w25 ⟨rfl, hb⟩; refine ⟨_, rfl, ?_⟩; have n0_ := Aside0.mk (Kd.R_below (zq3 HO199) hb); have n0F_ := Aside0.mk (Kd.R_below (zq3 HO199F) hb); have n1_ := Aside0.mk (Kd.R_below (zq3 HO204) hb); have n1F_ := Aside0.mk (Kd.R_below (zq3 HO204F) hb); have n2_ := Aside0.mk (Kd.R_below (zq3 HO209) hb); have n2F_ := Aside0.mk (Kd.R_below (zq3 HO209F) hb); have n3_ := Aside0.mk (below_step (zb0 HB) hb); clear HO199 HO199F; clear HO204 HO204F; clear HO209 HO209F; clear HB; have HO199 := n0_; have HO199F := n0F_; have HO204 := n1_; have HO204F := n1F_; have HO209 := n2_; have HO209F := n2F_; have HB := n3_; clear n0_ n1_ n2_ n3_ n0F_ n1F_ n2F_; (try clear hb); (try clear hb2); (try clear hk); (try clear hi)) | ((with_reducible refine gate_callee (f := 17) rfl ?_); refine goesL_ (some 44) rfl rfl Try.func17 (by kernel_rfl) rfl #[.slice A0 l0.length c0, .bool true] rfl zq6 ?_; (with_reducible refine (laws_toTermS.calls k _ _ l0 true t211 _ ?side1 ?side2 A13.out).mono ?_); (case side1 => repeat (first | exact (Kd.C_below HR0.out HB.out) | (with_reducible refine Kd.C_alloc ?_ _) | (with_reducible refine Kd.C_drewN ?_ _) | (with_reducible refine Kd.C_drew ?_))); (case side2 => exact HC0.out); rintro e w26 ⟨v212, rfl, ho0, hb, ho0F⟩; refine ⟨_, rfl, ?_⟩; have n0_ := Aside0.mk (Kd.R_elder' (zq3 HO199) (Kd.R_base ho0) hb); have n0F_ := Aside0.mk (Kd.R_elder' (zq3 HO199F) (Kd.R_base ho0) hb); have n1_ := Aside0.mk (Kd.R_elder' (zq3 HO204) (Kd.R_base ho0) hb); have n1F_ := Aside0.mk (Kd.R_elder' (zq3 HO204F) (Kd.R_base ho0) hb); have n2_ := Aside0.mk (Kd.R_elder' (zq3 HO209) (Kd.R_base ho0) hb); have n2F_ := Aside0.mk (Kd.R_elder' (zq3 HO209F) (Kd.R_base ho0) hb); have n3_ := Aside0.mk (Kd.R_lower (Kd.R_new' (Kd.R_new' (Kd.R_new' ho0 (Kd.R_lt (zq3 HO199))) (Kd.R_lt (zq3 HO204))) (Kd.R_lt (zq3 HO209))) (below_size (zb0 HB))); have n3F_ := Aside0.mk (Kd.R_lower (Kd.R_new' (Kd.R_new' (Kd.R_new' ho0F (Kd.R_lt (zq3 HO199))) (Kd.R_lt (zq3 HO204))) (Kd.R_lt (zq3 HO209))) (below_size (zb0 HB))); have n4_ := Aside0.mk (below_step (zb0 HB) hb); clear HO199 HO199F; clear HO204 HO204F; clear HO209 HO209F; clear HB; have HO199 := n0_; have HO199F := n0F_; have HO204 := n1_; have HO204F := n1F_; have HO209 := n2_; have HO209F := n2F_; have HO213 := n3_; have HO213F := n3F_; have HB := n4_; clear n0_ n1_ n2_ n3_ n4_ n0F_ n1F_ n2F_ n3F_; (try clear hb); (try clear hb2); (try clear hk); (try clear hi); (try clear ho0); (try clear ho0F); obtain ⟨Ao27, co27, eo27⟩ := Kd.R_slice HO213.out; subst eo27) | ((with_reducible refine gate_callee (f := 21) rfl ?_); refine goesL_ (some 45) rfl rfl Try.func21 (by kernel_rfl) rfl #[.slice Ao27 t211.length co27] rfl zq6 ?_; (with_reducible refine (impl_DegreeOf.calls k _ _ t211 t214 t215 _ ?side1 ?side2 A14.out).mono ?_); (case side1 => repeat (first | exact (Kd.R_reads' HO213.out).2.2 | (with_reducible refine Kd.C_alloc ?_ _) | (with_reducible refine Kd.C_drewN ?_ _) | (with_reducible refine Kd.C_drew ?_))); (case side2 => exact (Kd.R_reads' HO213.out).2.1); rintro e w28 ⟨rfl, hb⟩; refine ⟨_, rfl, ?_⟩; have n0_ := Aside0.mk (Kd.R_below (zq3 HO199) hb); have n0F_ := Aside0.mk (Kd.R_below (zq3 HO199F) hb); have n1_ := Aside0.mk (Kd.R_below (zq3 HO204) hb); have n1F_ := Aside0.mk (Kd.R_below (zq3 HO204F) hb); have n2_ := Aside0.mk (Kd.R_below (zq3 HO209) hb); have n2F_ := Aside0.mk (Kd.R_below (zq3 HO209F) hb); have n3_ := Aside0.mk (Kd.R_below (zq3 HO213) hb); have n3F_ := Aside0.mk (Kd.R_below (zq3 HO213F) hb); have n4_ := Aside0.mk (below_step (zb0 HB) hb); clear HO199 HO199F; clear HO204 HO204F; clear HO209 HO209F; clear HO213 HO213F; clear HB; have HO199 := n0_; have HO199F := n0F_; have HO204 := n1_; have HO204F := n1F_; have HO209 := n2_; have HO209F := n2F_; have HO213 := n3_; have HO213F := n3F_; have HB := n4_; clear n0_ n1_ n2_ n3_ n4_ n0F_ n1F_ n2F_ n3F_; (try clear hb); (try clear hb2); (try clear hk); (try clear hi)))
       go_ret
       exact ⟨by first | rfl | (simp [errW_none, errW_some] <;> rfl) | (simp [*, errW_none, errW_some] <;> rfl), (zb0 HB)⟩
     ·
      rw [if_neg c15] at H
      exact absurd H (by simp)
    ·
     replace c12 := Bool.eq_false_iff.mpr c12
     subst c12
     have H1 : (none) = some r := by rw [if_neg (show ¬ (false = true) by decide)] at H; exact H
     clear H
     have H := H1
     clear H1
     exact absurd H (by simp)
  ·
   rw [if_neg c8] at H
   exact absurd H (by simp)
end Go.Proofs.Ytfnmppeoleicbaa.PD
