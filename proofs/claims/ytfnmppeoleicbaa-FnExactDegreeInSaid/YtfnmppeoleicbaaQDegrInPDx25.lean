-- By wip/mk/drv.py
import Derived.Test.YtfnmppeoleicbaaQDegrInPDx0
import Derived.Test.YtfnmppeoleicbaaQDegrInPDx1
import Derived.Test.YtfnmppeoleicbaaQDegrInPDx2
import Derived.Test.YtfnmppeoleicbaaQDegrInPDx7
import Derived.Test.YtfnmppeoleicbaaQDegrInPDx12
import Derived.Test.YtfnmppeoleicbaaQDegrInPDx23
import Derived.Test.YtfnmppeoleicbaaQDegrInPDx24
namespace Go.Proofs.Ytfnmppeoleicbaa.PD
open Go.RowKit Go.Proofs.YtfnmppeoleicbaaW.PrintWords Go.Proofs.YtfnmppeoleicbaaW.PrintLast Go.Proofs.YtfnmppeoleicbaaW.PrintMore
attribute [local go_sem] max2_int min2_int max_two min_two max_three min_three max_four min_four
set_option linter.unusedVariables false
set_option linter.unusedSimpArgs false
/-! ### laws_FnExactDegreeIn: function 5 -/
set_option maxHeartbeats 8000000 in
set_option maxRecDepth 100000 in
theorem laws_FnExactDegreeIn.calls (k : Nat) (A0 : Option Addr) (c0 : Nat) (l0 : List (S57)) (a1 : Int) (r : Bool) (w : World) (hr0 : Kd.C k57 w A0 l0.length l0) (hc0 : l0.length ≤ c0) (h : laws_FnExactDegreeIn.f k l0 a1 = some r) :
  Calls Try.prog 5 #[.slice A0 l0.length c0, .int .i64 a1] w fun e w' => e = .returned (.bool r) ∧ Below w.heap.size w w' := by
 have HR0 := Aside0.mk hr0
 have HC0 := Aside0.mk hc0
 clear hr0 hc0
 have HB := Aside0.mk (Below.refl w.heap.size w)
 have H : ((laws_szTermS.f l0 1000000).bind fun t300 => (if t300 < 0 then (some true) else ((laws_toTermS.f k l0 false).bind fun t301 => ((spec_DegreeIn.f k t301 a1).bind fun bt304 => ((laws_toTermS.f k l0 false).bind fun t306 => ((impl_DegreeIn.f k t306 a1).bind fun bt309 => (if bt309.1 = bt304.1 then (if (bt309.2 != bt304.2) = true then (none) else ((laws_toTermS.f k l0 false).bind fun t311 => ((laws_intactTermS.f t306 t311).bind fun t314 => (if t314 = true then ((laws_toTermS.f k l0 true).bind fun t315 => ((impl_DegreeIn.f k t315 a1).bind fun bt318 => (if bt318.1 = bt304.1 then (if (bt318.2 != bt304.2) = true then (none) else (some true)) else (none)))) else (none))))) else (none)))))))) = some r := h
 clear h
 replace H := Option.bind_eq_some_iff.mp H
 obtain ⟨t300, A30, H⟩ := H
 replace H : (if t300 < 0 then (some true) else ((laws_toTermS.f k l0 false).bind fun t301 => ((spec_DegreeIn.f k t301 a1).bind fun bt304 => ((laws_toTermS.f k l0 false).bind fun t306 => ((impl_DegreeIn.f k t306 a1).bind fun bt309 => (if bt309.1 = bt304.1 then (if (bt309.2 != bt304.2) = true then (none) else ((laws_toTermS.f k l0 false).bind fun t311 => ((laws_intactTermS.f t306 t311).bind fun t314 => (if t314 = true then ((laws_toTermS.f k l0 true).bind fun t315 => ((impl_DegreeIn.f k t315 a1).bind fun bt318 => (if bt318.1 = bt304.1 then (if (bt318.2 != bt304.2) = true then (none) else (some true)) else (none)))) else (none))))) else (none))))))) = some r := H
 have A3 := Aside0.mk A30
 clear A30
 by_cases c4 : t300 < 0
 ·
  rw [if_pos c4] at H
  have c4b0 : decide (t300 < 0) = true := decide_eq_true c4
  clear c4
  obtain rfl := Option.some.inj H
  go_enter Try.func5, Try.ntmps5
  go_wp2_with (first | ((with_reducible refine gate_callee (f := 15) rfl ?_); refine goesL_ (some 15) rfl rfl Try.func15 (by kernel_rfl) rfl #[.slice A0 l0.length c0, .int .i64 1000000] rfl zq6 ?_; (with_reducible refine (laws_szTermS.calls _ _ l0 1000000 t300 _ ?side1 ?side2 A3.out).mono ?_); (case side1 => repeat (first | exact HR0.out | (with_reducible refine Kd.C_alloc ?_ _) | (with_reducible refine Kd.C_drewN ?_ _) | (with_reducible refine Kd.C_drew ?_))); (case side2 => exact HC0.out); rintro e w' ⟨rfl, ⟨nd, rfl⟩⟩; refine ⟨_, rfl, ?_⟩))
  go_ret
  exact ⟨by first | rfl | (simp [errW_none, errW_some] <;> rfl) | (simp [*, errW_none, errW_some] <;> rfl), (zb0 HB)⟩
 ·
  rw [if_neg c4] at H
  have c4b0 : decide (t300 < 0) = false := decide_eq_false c4
  clear c4
  replace H := Option.bind_eq_some_iff.mp H
  obtain ⟨t301, A50, H⟩ := H
  replace H : ((spec_DegreeIn.f k t301 a1).bind fun bt304 => ((laws_toTermS.f k l0 false).bind fun t306 => ((impl_DegreeIn.f k t306 a1).bind fun bt309 => (if bt309.1 = bt304.1 then (if (bt309.2 != bt304.2) = true then (none) else ((laws_toTermS.f k l0 false).bind fun t311 => ((laws_intactTermS.f t306 t311).bind fun t314 => (if t314 = true then ((laws_toTermS.f k l0 true).bind fun t315 => ((impl_DegreeIn.f k t315 a1).bind fun bt318 => (if bt318.1 = bt304.1 then (if (bt318.2 != bt304.2) = true then (none) else (some true)) else (none)))) else (none))))) else (none))))) = some r := H
  have A5 := Aside0.mk A50
  clear A50
  replace H := Option.bind_eq_some_iff.mp H
  obtain ⟨⟨t304, t305⟩, A60, H⟩ := H
  replace H : ((laws_toTermS.f k l0 false).bind fun t306 => ((impl_DegreeIn.f k t306 a1).bind fun bt309 => (if bt309.1 = t304 then (if (bt309.2 != t305) = true then (none) else ((laws_toTermS.f k l0 false).bind fun t311 => ((laws_intactTermS.f t306 t311).bind fun t314 => (if t314 = true then ((laws_toTermS.f k l0 true).bind fun t315 => ((impl_DegreeIn.f k t315 a1).bind fun bt318 => (if bt318.1 = t304 then (if (bt318.2 != t305) = true then (none) else (some true)) else (none)))) else (none))))) else (none)))) = some r := H
  have A6 := Aside0.mk A60
  clear A60
  replace H := Option.bind_eq_some_iff.mp H
  obtain ⟨t306, A70, H⟩ := H
  replace H : ((impl_DegreeIn.f k t306 a1).bind fun bt309 => (if bt309.1 = t304 then (if (bt309.2 != t305) = true then (none) else ((laws_toTermS.f k l0 false).bind fun t311 => ((laws_intactTermS.f t306 t311).bind fun t314 => (if t314 = true then ((laws_toTermS.f k l0 true).bind fun t315 => ((impl_DegreeIn.f k t315 a1).bind fun bt318 => (if bt318.1 = t304 then (if (bt318.2 != t305) = true then (none) else (some true)) else (none)))) else (none))))) else (none))) = some r := H
  have A7 := Aside0.mk A70
  clear A70
  replace H := Option.bind_eq_some_iff.mp H
  obtain ⟨⟨t309, t310⟩, A80, H⟩ := H
  replace H : (if t309 = t304 then (if (t310 != t305) = true then (none) else ((laws_toTermS.f k l0 false).bind fun t311 => ((laws_intactTermS.f t306 t311).bind fun t314 => (if t314 = true then ((laws_toTermS.f k l0 true).bind fun t315 => ((impl_DegreeIn.f k t315 a1).bind fun bt318 => (if bt318.1 = t304 then (if (bt318.2 != t305) = true then (none) else (some true)) else (none)))) else (none))))) else (none)) = some r := H
  have A8 := Aside0.mk A80
  clear A80
  by_cases c9 : t309 = t304
  ·
   rw [if_pos c9] at H
   have c9b0 : (t309 == t304) = true := beq_iff_eq.mpr c9
   have c9b1 : (t309 != t304) = false := bne_eq_false_iff_eq.mpr c9
   clear c9
   by_cases c10 : (t310 != t305) = true
   ·
    rw [if_pos c10] at H
    exact absurd H (by simp)
   ·
    rw [if_neg c10] at H
    have c10b0 : (t310 != t305) = false := by simpa using c10
    (try (have c10b1 : decide (t310 = t305) = true := by simpa using c10))
    (try (have c10b2 : (t310 == t305) = true := by simpa using c10))
    clear c10
    replace H := Option.bind_eq_some_iff.mp H
    obtain ⟨t311, A110, H⟩ := H
    replace H : ((laws_intactTermS.f t306 t311).bind fun t314 => (if t314 = true then ((laws_toTermS.f k l0 true).bind fun t315 => ((impl_DegreeIn.f k t315 a1).bind fun bt318 => (if bt318.1 = t304 then (if (bt318.2 != t305) = true then (none) else (some true)) else (none)))) else (none))) = some r := H
    have A11 := Aside0.mk A110
    clear A110
    replace H := Option.bind_eq_some_iff.mp H
    obtain ⟨t314, A120, H⟩ := H
    replace H : (if t314 = true then ((laws_toTermS.f k l0 true).bind fun t315 => ((impl_DegreeIn.f k t315 a1).bind fun bt318 => (if bt318.1 = t304 then (if (bt318.2 != t305) = true then (none) else (some true)) else (none)))) else (none)) = some r := H
    have A12 := Aside0.mk A120
    clear A120
    by_cases c13 : t314 = true
    ·
     subst c13
     have H1 : ((laws_toTermS.f k l0 true).bind fun t315 => ((impl_DegreeIn.f k t315 a1).bind fun bt318 => (if bt318.1 = t304 then (if (bt318.2 != t305) = true then (none) else (some true)) else (none)))) = some r := by rw [if_pos rfl] at H; exact H
     clear H
     have H := H1
     clear H1
     replace H := Option.bind_eq_some_iff.mp H
     obtain ⟨t315, A140, H⟩ := H
     replace H : ((impl_DegreeIn.f k t315 a1).bind fun bt318 => (if bt318.1 = t304 then (if (bt318.2 != t305) = true then (none) else (some true)) else (none))) = some r := H
     have A14 := Aside0.mk A140
     clear A140
     replace H := Option.bind_eq_some_iff.mp H
     obtain ⟨⟨t318, t319⟩, A150, H⟩ := H
     replace H : (if t318 = t304 then (if (t319 != t305) = true then (none) else (some true)) else (none)) = some r := H
     have A15 := Aside0.mk A150
     clear A150
     by_cases c16 : t318 = t304
     ·
      rw [if_pos c16] at H
      have c16b0 : (t318 == t304) = true := beq_iff_eq.mpr c16
      have c16b1 : (t318 != t304) = false := bne_eq_false_iff_eq.mpr c16
      clear c16
      by_cases c17 : (t319 != t305) = true
      ·
       rw [if_pos c17] at H
       exact absurd H (by simp)
      ·
       rw [if_neg c17] at H
       have c17b0 : (t319 != t305) = false := by simpa using c17
       (try (have c17b1 : decide (t319 = t305) = true := by simpa using c17))
       (try (have c17b2 : (t319 == t305) = true := by simpa using c17))
       clear c17
       obtain rfl := Option.some.inj H
       go_enter Try.func5, Try.ntmps5
       go_wp2_with (first | ((with_reducible refine gate_callee (f := 15) rfl ?_); refine goesL_ (some 15) rfl rfl Try.func15 (by kernel_rfl) rfl #[.slice A0 l0.length c0, .int .i64 1000000] rfl zq6 ?_; (with_reducible refine (laws_szTermS.calls _ _ l0 1000000 t300 _ ?side1 ?side2 A3.out).mono ?_); (case side1 => repeat (first | exact HR0.out | (with_reducible refine Kd.C_alloc ?_ _) | (with_reducible refine Kd.C_drewN ?_ _) | (with_reducible refine Kd.C_drew ?_))); (case side2 => exact HC0.out); rintro e w' ⟨rfl, ⟨nd, rfl⟩⟩; refine ⟨_, rfl, ?_⟩) | ((with_reducible refine gate_callee (f := 17) rfl ?_); refine goesL_ (some 20) rfl rfl Try.func17 (by kernel_rfl) rfl #[.slice A0 l0.length c0, .bool false] rfl zq6 ?_; (with_reducible refine (laws_toTermS.calls k _ _ l0 false t301 _ ?side1 ?side2 A5.out).mono ?_); (case side1 => repeat (first | exact HR0.out | (with_reducible refine Kd.C_alloc ?_ _) | (with_reducible refine Kd.C_drewN ?_ _) | (with_reducible refine Kd.C_drew ?_))); (case side2 => exact HC0.out); rintro e w18 ⟨v302, rfl, ho0, hb, ho0F⟩; refine ⟨_, rfl, ?_⟩; have n0_ := Aside0.mk (Kd.R_lower ho0 (below_size (zb0 HB))); have n0F_ := Aside0.mk (Kd.R_lower ho0F (below_size (zb0 HB))); have n1_ := Aside0.mk (below_step (zb0 HB) hb); clear HB; have HO303 := n0_; have HO303F := n0F_; have HB := n1_; clear n0_ n1_ n0F_; (try clear hb); (try clear hb2); (try clear hk); (try clear hi); (try clear ho0); (try clear ho0F); obtain ⟨Ao19, co19, eo19⟩ := Kd.R_slice HO303.out; subst eo19) | ((with_reducible refine gate_callee (f := 22) rfl ?_); refine goesL_ (some 22) rfl rfl Try.func22 (by kernel_rfl) rfl #[.slice Ao19 t301.length co19, .int .i64 a1] rfl zq6 ?_; (with_reducible refine (spec_DegreeIn.calls k _ _ t301 a1 t304 t305 _ ?side1 ?side2 A6.out).mono ?_); (case side1 => repeat (first | exact (Kd.R_reads' HO303.out).2.2 | (with_reducible refine Kd.C_alloc ?_ _) | (with_reducible refine Kd.C_drewN ?_ _) | (with_reducible refine Kd.C_drew ?_))); (case side2 => exact (Kd.R_reads' HO303.out).2.1); rintro e w20 ⟨rfl, hb⟩; refine ⟨_, rfl, ?_⟩; have n0_ := Aside0.mk (Kd.R_below (zq3 HO303) hb); have n0F_ := Aside0.mk (Kd.R_below (zq3 HO303F) hb); have n1_ := Aside0.mk (below_step (zb0 HB) hb); clear HO303 HO303F; clear HB; have HO303 := n0_; have HO303F := n0F_; have HB := n1_; clear n0_ n1_ n0F_; (try clear hb); (try clear hb2); (try clear hk); (try clear hi)) | ((with_reducible refine gate_callee (f := 17) rfl ?_); refine goesL_ (some 26) rfl rfl Try.func17 (by kernel_rfl) rfl #[.slice A0 l0.length c0, .bool false] rfl zq6 ?_; (with_reducible refine (laws_toTermS.calls k _ _ l0 false t306 _ ?side1 ?side2 A7.out).mono ?_); (case side1 => repeat (first | exact (Kd.C_below HR0.out HB.out) | (with_reducible refine Kd.C_alloc ?_ _) | (with_reducible refine Kd.C_drewN ?_ _) | (with_reducible refine Kd.C_drew ?_))); (case side2 => exact HC0.out); rintro e w21 ⟨v307, rfl, ho0, hb, ho0F⟩; refine ⟨_, rfl, ?_⟩; have n0_ := Aside0.mk (Kd.R_elder' (zq3 HO303) (Kd.R_base ho0) hb); have n0F_ := Aside0.mk (Kd.R_elder' (zq3 HO303F) (Kd.R_base ho0) hb); have n1_ := Aside0.mk (Kd.R_lower (Kd.R_new' ho0 (Kd.R_lt (zq3 HO303))) (below_size (zb0 HB))); have n1F_ := Aside0.mk (Kd.R_lower (Kd.R_new' ho0F (Kd.R_lt (zq3 HO303))) (below_size (zb0 HB))); have n2_ := Aside0.mk (below_step (zb0 HB) hb); clear HO303 HO303F; clear HB; have HO303 := n0_; have HO303F := n0F_; have HO308 := n1_; have HO308F := n1F_; have HB := n2_; clear n0_ n1_ n2_ n0F_ n1F_; (try clear hb); (try clear hb2); (try clear hk); (try clear hi); (try clear ho0); (try clear ho0F); obtain ⟨Ao22, co22, eo22⟩ := Kd.R_slice HO308.out; subst eo22) | ((with_reducible refine gate_callee (f := 23) rfl ?_); refine goesL_ (some 30) rfl rfl Try.func23 (by kernel_rfl) rfl #[.slice Ao22 t306.length co22, .int .i64 a1] rfl zq6 ?_; (with_reducible refine (impl_DegreeIn.calls k _ _ t306 a1 t309 t310 _ ?side1 ?side2 A8.out).mono ?_); (case side1 => repeat (first | exact (Kd.R_reads' HO308.out).2.2 | (with_reducible refine Kd.C_alloc ?_ _) | (with_reducible refine Kd.C_drewN ?_ _) | (with_reducible refine Kd.C_drew ?_))); (case side2 => exact (Kd.R_reads' HO308.out).2.1); rintro e w23 ⟨rfl, hb⟩; refine ⟨_, rfl, ?_⟩; have n0_ := Aside0.mk (Kd.R_below (zq3 HO303) hb); have n0F_ := Aside0.mk (Kd.R_below (zq3 HO303F) hb); have n1_ := Aside0.mk (Kd.R_below (zq3 HO308) hb); have n1F_ := Aside0.mk (Kd.R_below (zq3 HO308F) hb); have n2_ := Aside0.mk (below_step (zb0 HB) hb); clear HO303 HO303F; clear HO308 HO308F; clear HB; have HO303 := n0_; have HO303F := n0F_; have HO308 := n1_; have HO308F := n1F_; have HB := n2_; clear n0_ n1_ n2_ n0F_ n1F_; (try clear hb); (try clear hb2); (try clear hk); (try clear hi)) | ((with_reducible refine gate_callee (f := 17) rfl ?_); refine goesL_ (some 43) rfl rfl Try.func17 (by kernel_rfl) rfl #[.slice A0 l0.length c0, .bool false] rfl zq6 ?_; (with_reducible refine (laws_toTermS.calls k _ _ l0 false t311 _ ?side1 ?side2 A11.out).mono ?_); (case side1 => repeat (first | exact (Kd.C_below HR0.out HB.out) | (with_reducible refine Kd.C_alloc ?_ _) | (with_reducible refine Kd.C_drewN ?_ _) | (with_reducible refine Kd.C_drew ?_))); (case side2 => exact HC0.out); rintro e w24 ⟨v312, rfl, ho0, hb, ho0F⟩; refine ⟨_, rfl, ?_⟩; have n0_ := Aside0.mk (Kd.R_elder' (zq3 HO303) (Kd.R_base ho0) hb); have n0F_ := Aside0.mk (Kd.R_elder' (zq3 HO303F) (Kd.R_base ho0) hb); have n1_ := Aside0.mk (Kd.R_elder' (zq3 HO308) (Kd.R_base ho0) hb); have n1F_ := Aside0.mk (Kd.R_elder' (zq3 HO308F) (Kd.R_base ho0) hb); have n2_ := Aside0.mk (Kd.R_lower (Kd.R_new' (Kd.R_new' ho0 (Kd.R_lt (zq3 HO303))) (Kd.R_lt (zq3 HO308))) (below_size (zb0 HB))); have n2F_ := Aside0.mk (Kd.R_lower (Kd.R_new' (Kd.R_new' ho0F (Kd.R_lt (zq3 HO303))) (Kd.R_lt (zq3 HO308))) (below_size (zb0 HB))); have n3_ := Aside0.mk (below_step (zb0 HB) hb); clear HO303 HO303F; clear HO308 HO308F; clear HB; have HO303 := n0_; have HO303F := n0F_; have HO308 := n1_; have HO308F := n1F_; have HO313 := n2_; have HO313F := n2F_; have HB := n3_; clear n0_ n1_ n2_ n3_ n0F_ n1F_ n2F_; (try clear hb); (try clear hb2); (try clear hk); (try clear hi); (try clear ho0); (try clear ho0F); obtain ⟨Ao25, co25, eo25⟩ := Kd.R_slice HO313.out; subst eo25) | ((with_reducible refine gate_callee (f := 19) rfl ?_); refine goesL_ (some 44) rfl rfl Try.func19 (by kernel_rfl) rfl #[.slice Ao22 t306.length co22, .slice Ao25 t311.length co25] rfl zq6 ?_; (with_reducible refine (laws_intactTermS.calls _ _ t306 _ _ t311 true _ ?side1 ?side2 ?side3 ?side4 A12.out ?sideF1 ?sideF2 ?sideF3 ?sideF4).mono ?_); (case side1 => repeat (first | exact (Kd.R_reads' HO308.out).2.2 | (with_reducible refine Kd.C_alloc ?_ _) | (with_reducible refine Kd.C_drewN ?_ _) | (with_reducible refine Kd.C_drew ?_))); (case side2 => exact (Kd.R_reads' HO308.out).2.1); (case side3 => repeat (first | exact (Kd.R_reads' HO313.out).2.2 | (with_reducible refine Kd.C_alloc ?_ _) | (with_reducible refine Kd.C_drewN ?_ _) | (with_reducible refine Kd.C_drew ?_))); (case side4 => exact (Kd.R_reads' HO313.out).2.1); (case sideF1 => repeat (first | exact (Kd.R_reads' HO308F.out).2.2 | (with_reducible refine Kd.C_alloc ?_ _) | (with_reducible refine Kd.C_drewN ?_ _) | (with_reducible refine Kd.C_drew ?_))); (case sideF2 => exact (Kd.R_reads' HO308F.out).2.1); (case sideF3 => repeat (first | exact (Kd.R_reads' HO313F.out).2.2 | (with_reducible refine Kd.C_alloc ?_ _) | (with_reducible refine Kd.C_drewN ?_ _) | (with_reducible refine Kd.C_drew ?_))); (case sideF4 => exact (Kd.R_reads' HO313F.out).2.1); rintro e w26 ⟨rfl, hb⟩; refine ⟨_, rfl, ?_⟩; have n0_ := Aside0.mk (Kd.R_below (zq3 HO303) hb); have n0F_ := Aside0.mk (Kd.R_below (zq3 HO303F) hb); have n1_ := Aside0.mk (Kd.R_below (zq3 HO308) hb); have n1F_ := Aside0.mk (Kd.R_below (zq3 HO308F) hb); have n2_ := Aside0.mk (Kd.R_below (zq3 HO313) hb); have n2F_ := Aside0.mk (Kd.R_below (zq3 HO313F) hb); have n3_ := Aside0.mk (below_step (zb0 HB) hb); clear HO303 HO303F; clear HO308 HO308F; clear HO313 HO313F; clear HB; have HO303 := n0_; have HO303F := n0F_; have HO308 := n1_; have HO308F := n1F_; have HO313 := n2_; have HO313F := n2F_; have HB := n3_; clear n0_ n1_ n2_ n3_ n0F_ n1F_ n2F_; (try clear hb); (try clear hb2); (try clear hk); (try clear hi)) | ((with_reducible refine gate_callee (f := 17) rfl ?_); refine goesL_ (some 48) rfl rfl Try.func17 (by kernel_rfl) rfl #[.slice A0 l0.length c0, .bool true] rfl zq6 ?_; (with_reducible refine (laws_toTermS.calls k _ _ l0 true t315 _ ?side1 ?side2 A14.out).mono ?_); (case side1 => repeat (first | exact (Kd.C_below HR0.out HB.out) | (with_reducible refine Kd.C_alloc ?_ _) | (with_reducible refine Kd.C_drewN ?_ _) | (with_reducible refine Kd.C_drew ?_))); (case side2 => exact HC0.out); rintro e w27 ⟨v316, rfl, ho0, hb, ho0F⟩; refine ⟨_, rfl, ?_⟩; have n0_ := Aside0.mk (Kd.R_elder' (zq3 HO303) (Kd.R_base ho0) hb); have n0F_ := Aside0.mk (Kd.R_elder' (zq3 HO303F) (Kd.R_base ho0) hb); have n1_ := Aside0.mk (Kd.R_elder' (zq3 HO308) (Kd.R_base ho0) hb); have n1F_ := Aside0.mk (Kd.R_elder' (zq3 HO308F) (Kd.R_base ho0) hb); have n2_ := Aside0.mk (Kd.R_elder' (zq3 HO313) (Kd.R_base ho0) hb); have n2F_ := Aside0.mk (Kd.R_elder' (zq3 HO313F) (Kd.R_base ho0) hb); have n3_ := Aside0.mk (Kd.R_lower (Kd.R_new' (Kd.R_new' (Kd.R_new' ho0 (Kd.R_lt (zq3 HO303))) (Kd.R_lt (zq3 HO308))) (Kd.R_lt (zq3 HO313))) (below_size (zb0 HB))); have n3F_ := Aside0.mk (Kd.R_lower (Kd.R_new' (Kd.R_new' (Kd.R_new' ho0F (Kd.R_lt (zq3 HO303))) (Kd.R_lt (zq3 HO308))) (Kd.R_lt (zq3 HO313))) (below_size (zb0 HB))); have n4_ := Aside0.mk (below_step (zb0 HB) hb); clear HO303 HO303F; clear HO308 HO308F; clear HO313 HO313F; clear HB; have HO303 := n0_; have HO303F := n0F_; have HO308 := n1_; have HO308F := n1F_; have HO313 := n2_; have HO313F := n2F_; have HO317 := n3_; have HO317F := n3F_; have HB := n4_; clear n0_ n1_ n2_ n3_ n4_ n0F_ n1F_ n2F_ n3F_; (try clear hb); (try clear hb2); (try clear hk); (try clear hi); (try clear ho0); (try clear ho0F); obtain ⟨Ao28, co28, eo28⟩ := Kd.R_slice HO317.out; subst eo28) | ((with_reducible refine gate_callee (f := 23) rfl ?_); refine goesL_ (some 50) rfl rfl Try.func23 (by kernel_rfl) rfl #[.slice Ao28 t315.length co28, .int .i64 a1] rfl zq6 ?_; (with_reducible refine (impl_DegreeIn.calls k _ _ t315 a1 t318 t319 _ ?side1 ?side2 A15.out).mono ?_); (case side1 => repeat (first | exact (Kd.R_reads' HO317.out).2.2 | (with_reducible refine Kd.C_alloc ?_ _) | (with_reducible refine Kd.C_drewN ?_ _) | (with_reducible refine Kd.C_drew ?_))); (case side2 => exact (Kd.R_reads' HO317.out).2.1); rintro e w29 ⟨rfl, hb⟩; refine ⟨_, rfl, ?_⟩; have n0_ := Aside0.mk (Kd.R_below (zq3 HO303) hb); have n0F_ := Aside0.mk (Kd.R_below (zq3 HO303F) hb); have n1_ := Aside0.mk (Kd.R_below (zq3 HO308) hb); have n1F_ := Aside0.mk (Kd.R_below (zq3 HO308F) hb); have n2_ := Aside0.mk (Kd.R_below (zq3 HO313) hb); have n2F_ := Aside0.mk (Kd.R_below (zq3 HO313F) hb); have n3_ := Aside0.mk (Kd.R_below (zq3 HO317) hb); have n3F_ := Aside0.mk (Kd.R_below (zq3 HO317F) hb); have n4_ := Aside0.mk (below_step (zb0 HB) hb); clear HO303 HO303F; clear HO308 HO308F; clear HO313 HO313F; clear HO317 HO317F; clear HB; have HO303 := n0_; have HO303F := n0F_; have HO308 := n1_; have HO308F := n1F_; have HO313 := n2_; have HO313F := n2F_; have HO317 := n3_; have HO317F := n3F_; have HB := n4_; clear n0_ n1_ n2_ n3_ n4_ n0F_ n1F_ n2F_ n3F_; (try clear hb); (try clear hb2); (try clear hk); (try clear hi)))
       go_ret
       exact ⟨by first | rfl | (simp [errW_none, errW_some] <;> rfl) | (simp [*, errW_none, errW_some] <;> rfl), (zb0 HB)⟩
     ·
      rw [if_neg c16] at H
      exact absurd H (by simp)
    ·
     replace c13 := Bool.eq_false_iff.mpr c13
     subst c13
     have H1 : (none) = some r := by rw [if_neg (show ¬ (false = true) by decide)] at H; exact H
     clear H
     have H := H1
     clear H1
     exact absurd H (by simp)
  ·
   rw [if_neg c9] at H
   exact absurd H (by simp)
end Go.Proofs.Ytfnmppeoleicbaa.PD
