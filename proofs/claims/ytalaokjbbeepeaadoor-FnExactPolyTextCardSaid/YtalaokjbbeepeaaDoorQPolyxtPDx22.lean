-- By wip/mk/drv.py
import Derived.Test.YtalaokjbbeepeaaDoorQPolyxtPDx0
import Derived.Test.YtalaokjbbeepeaaDoorQPolyxtPDx1
import Derived.Test.YtalaokjbbeepeaaDoorQPolyxtPDx2
import Derived.Test.YtalaokjbbeepeaaDoorQPolyxtPDx16
import Derived.Test.YtalaokjbbeepeaaDoorQPolyxtPDx17
import Derived.Test.YtalaokjbbeepeaaDoorQPolyxtPDx19
import Derived.Test.YtalaokjbbeepeaaDoorQPolyxtPDx21
namespace Go.Proofs.YtalaokjbbeepeaaDoor.PD
open Go.RowKit Go.Proofs.YtalaokjbbeepeaaDoorW.PrintWords Go.Proofs.YtalaokjbbeepeaaDoorW.PrintLast Go.Proofs.YtalaokjbbeepeaaDoorW.PrintMore
attribute [local go_sem] max2_int min2_int max_two min_two max_three min_three max_four min_four
set_option linter.unusedVariables false
set_option linter.unusedSimpArgs false
/-! ### laws_FnExactPolyText: function 4 -/
set_option maxHeartbeats 8000000 in
set_option maxRecDepth 100000 in
theorem laws_FnExactPolyText.calls (k : Nat) (A0 : Option Addr) (c0 : Nat) (l0 : List (S23)) (r : Bool) (w : World) (ht : Tab w) (hr0 : Kd.C k23 w A0 l0.length l0) (hc0 : l0.length ≤ c0) (h : laws_FnExactPolyText.f k l0 = some r) :
  Calls Tryd.prog 4 #[.slice A0 l0.length c0] w fun e w' => e = .returned (.bool r) ∧ Below w.heap.size w w' := by
 have HTAB := Aside0.mk ht
 clear ht
 have HR0 := Aside0.mk hr0
 have HC0 := Aside0.mk hc0
 clear hr0 hc0
 have HB := Aside0.mk (Below.refl w.heap.size w)
 have H : ((laws_szTermS.f l0 1000000).bind fun t233 => (if t233 < 0 then (some true) else ((laws_toTermS.f k l0 false).bind fun t234 => ((spec_PolyText.f k t234).bind fun bt237 => ((laws_toTermS.f k l0 false).bind fun t239 => ((impl_PolyText.f k t239).bind fun bt242 => (if bt242.1.toList = bt237.1.toList then (if (bt242.2 != bt237.2) = true then (none) else ((laws_toTermS.f k l0 false).bind fun t244 => ((laws_intactTermS.f t239 t244).bind fun t247 => (if t247 = true then ((laws_toTermS.f k l0 true).bind fun t248 => ((impl_PolyText.f k t248).bind fun bt251 => (if bt251.1.toList = bt237.1.toList then (if (bt251.2 != bt237.2) = true then (none) else (some true)) else (none)))) else (none))))) else (none)))))))) = some r := h
 clear h
 replace H := Option.bind_eq_some_iff.mp H
 obtain ⟨t233, A20, H⟩ := H
 replace H : (if t233 < 0 then (some true) else ((laws_toTermS.f k l0 false).bind fun t234 => ((spec_PolyText.f k t234).bind fun bt237 => ((laws_toTermS.f k l0 false).bind fun t239 => ((impl_PolyText.f k t239).bind fun bt242 => (if bt242.1.toList = bt237.1.toList then (if (bt242.2 != bt237.2) = true then (none) else ((laws_toTermS.f k l0 false).bind fun t244 => ((laws_intactTermS.f t239 t244).bind fun t247 => (if t247 = true then ((laws_toTermS.f k l0 true).bind fun t248 => ((impl_PolyText.f k t248).bind fun bt251 => (if bt251.1.toList = bt237.1.toList then (if (bt251.2 != bt237.2) = true then (none) else (some true)) else (none)))) else (none))))) else (none))))))) = some r := H
 have A2 := Aside0.mk A20
 clear A20
 by_cases c3 : t233 < 0
 ·
  rw [if_pos c3] at H
  have c3b0 : decide (t233 < 0) = true := decide_eq_true c3
  clear c3
  obtain rfl := Option.some.inj H
  go_enter Tryd.func4, Tryd.ntmps4
  go_wp2_with (first | ((with_reducible refine gate_callee (f := 8) rfl ?_); refine goesL_ (some 13) rfl rfl Tryd.func8 (by kernel_rfl) rfl #[.slice A0 l0.length c0, .int .i64 1000000] rfl zq6 ?_; (with_reducible refine (laws_szTermS.calls _ _ l0 1000000 t233 _ ?side1 ?side2 A2.out).mono ?_); (case side1 => repeat (first | exact HR0.out | (with_reducible refine Kd.C_alloc ?_ _) | (with_reducible refine Kd.C_drewN ?_ _) | (with_reducible refine Kd.C_drew ?_))); (case side2 => exact HC0.out); rintro e w' ⟨rfl, ⟨nd, rfl⟩⟩; refine ⟨_, rfl, ?_⟩))
  go_ret
  exact ⟨by first | rfl | (simp [errW_none, errW_some] <;> rfl) | (simp [*, errW_none, errW_some] <;> rfl), (zb0 HB)⟩
 ·
  rw [if_neg c3] at H
  have c3b0 : decide (t233 < 0) = false := decide_eq_false c3
  clear c3
  replace H := Option.bind_eq_some_iff.mp H
  obtain ⟨t234, A40, H⟩ := H
  replace H : ((spec_PolyText.f k t234).bind fun bt237 => ((laws_toTermS.f k l0 false).bind fun t239 => ((impl_PolyText.f k t239).bind fun bt242 => (if bt242.1.toList = bt237.1.toList then (if (bt242.2 != bt237.2) = true then (none) else ((laws_toTermS.f k l0 false).bind fun t244 => ((laws_intactTermS.f t239 t244).bind fun t247 => (if t247 = true then ((laws_toTermS.f k l0 true).bind fun t248 => ((impl_PolyText.f k t248).bind fun bt251 => (if bt251.1.toList = bt237.1.toList then (if (bt251.2 != bt237.2) = true then (none) else (some true)) else (none)))) else (none))))) else (none))))) = some r := H
  have A4 := Aside0.mk A40
  clear A40
  replace H := Option.bind_eq_some_iff.mp H
  obtain ⟨⟨t237, t238⟩, A50, H⟩ := H
  replace H : ((laws_toTermS.f k l0 false).bind fun t239 => ((impl_PolyText.f k t239).bind fun bt242 => (if bt242.1.toList = t237.toList then (if (bt242.2 != t238) = true then (none) else ((laws_toTermS.f k l0 false).bind fun t244 => ((laws_intactTermS.f t239 t244).bind fun t247 => (if t247 = true then ((laws_toTermS.f k l0 true).bind fun t248 => ((impl_PolyText.f k t248).bind fun bt251 => (if bt251.1.toList = t237.toList then (if (bt251.2 != t238) = true then (none) else (some true)) else (none)))) else (none))))) else (none)))) = some r := H
  have A5 := Aside0.mk A50
  clear A50
  replace H := Option.bind_eq_some_iff.mp H
  obtain ⟨t239, A60, H⟩ := H
  replace H : ((impl_PolyText.f k t239).bind fun bt242 => (if bt242.1.toList = t237.toList then (if (bt242.2 != t238) = true then (none) else ((laws_toTermS.f k l0 false).bind fun t244 => ((laws_intactTermS.f t239 t244).bind fun t247 => (if t247 = true then ((laws_toTermS.f k l0 true).bind fun t248 => ((impl_PolyText.f k t248).bind fun bt251 => (if bt251.1.toList = t237.toList then (if (bt251.2 != t238) = true then (none) else (some true)) else (none)))) else (none))))) else (none))) = some r := H
  have A6 := Aside0.mk A60
  clear A60
  replace H := Option.bind_eq_some_iff.mp H
  obtain ⟨⟨t242, t243⟩, A70, H⟩ := H
  replace H : (if t242.toList = t237.toList then (if (t243 != t238) = true then (none) else ((laws_toTermS.f k l0 false).bind fun t244 => ((laws_intactTermS.f t239 t244).bind fun t247 => (if t247 = true then ((laws_toTermS.f k l0 true).bind fun t248 => ((impl_PolyText.f k t248).bind fun bt251 => (if bt251.1.toList = t237.toList then (if (bt251.2 != t238) = true then (none) else (some true)) else (none)))) else (none))))) else (none)) = some r := H
  have A7 := Aside0.mk A70
  clear A70
  by_cases c8 : t242.toList = t237.toList
  ·
   rw [if_pos c8] at H
   have c8b0 : (t242.toList == t237.toList) = true := beq_iff_eq.mpr c8
   have c8b1 : (t242.toList != t237.toList) = false := bne_eq_false_iff_eq.mpr c8
   clear c8
   by_cases c9 : (t243 != t238) = true
   ·
    rw [if_pos c9] at H
    exact absurd H (by simp)
   ·
    rw [if_neg c9] at H
    have c9b0 : (t243 != t238) = false := by simpa using c9
    (try (have c9b1 : decide (t243 = t238) = true := by simpa using c9))
    (try (have c9b2 : (t243 == t238) = true := by simpa using c9))
    clear c9
    replace H := Option.bind_eq_some_iff.mp H
    obtain ⟨t244, A100, H⟩ := H
    replace H : ((laws_intactTermS.f t239 t244).bind fun t247 => (if t247 = true then ((laws_toTermS.f k l0 true).bind fun t248 => ((impl_PolyText.f k t248).bind fun bt251 => (if bt251.1.toList = t237.toList then (if (bt251.2 != t238) = true then (none) else (some true)) else (none)))) else (none))) = some r := H
    have A10 := Aside0.mk A100
    clear A100
    replace H := Option.bind_eq_some_iff.mp H
    obtain ⟨t247, A110, H⟩ := H
    replace H : (if t247 = true then ((laws_toTermS.f k l0 true).bind fun t248 => ((impl_PolyText.f k t248).bind fun bt251 => (if bt251.1.toList = t237.toList then (if (bt251.2 != t238) = true then (none) else (some true)) else (none)))) else (none)) = some r := H
    have A11 := Aside0.mk A110
    clear A110
    by_cases c12 : t247 = true
    ·
     subst c12
     have H1 : ((laws_toTermS.f k l0 true).bind fun t248 => ((impl_PolyText.f k t248).bind fun bt251 => (if bt251.1.toList = t237.toList then (if (bt251.2 != t238) = true then (none) else (some true)) else (none)))) = some r := by rw [if_pos rfl] at H; exact H
     clear H
     have H := H1
     clear H1
     replace H := Option.bind_eq_some_iff.mp H
     obtain ⟨t248, A130, H⟩ := H
     replace H : ((impl_PolyText.f k t248).bind fun bt251 => (if bt251.1.toList = t237.toList then (if (bt251.2 != t238) = true then (none) else (some true)) else (none))) = some r := H
     have A13 := Aside0.mk A130
     clear A130
     replace H := Option.bind_eq_some_iff.mp H
     obtain ⟨⟨t251, t252⟩, A140, H⟩ := H
     replace H : (if t251.toList = t237.toList then (if (t252 != t238) = true then (none) else (some true)) else (none)) = some r := H
     have A14 := Aside0.mk A140
     clear A140
     by_cases c15 : t251.toList = t237.toList
     ·
      rw [if_pos c15] at H
      have c15b0 : (t251.toList == t237.toList) = true := beq_iff_eq.mpr c15
      have c15b1 : (t251.toList != t237.toList) = false := bne_eq_false_iff_eq.mpr c15
      clear c15
      by_cases c16 : (t252 != t238) = true
      ·
       rw [if_pos c16] at H
       exact absurd H (by simp)
      ·
       rw [if_neg c16] at H
       have c16b0 : (t252 != t238) = false := by simpa using c16
       (try (have c16b1 : decide (t252 = t238) = true := by simpa using c16))
       (try (have c16b2 : (t252 == t238) = true := by simpa using c16))
       clear c16
       obtain rfl := Option.some.inj H
       go_enter Tryd.func4, Tryd.ntmps4
       go_wp2_with (first | ((with_reducible refine gate_callee (f := 8) rfl ?_); refine goesL_ (some 13) rfl rfl Tryd.func8 (by kernel_rfl) rfl #[.slice A0 l0.length c0, .int .i64 1000000] rfl zq6 ?_; (with_reducible refine (laws_szTermS.calls _ _ l0 1000000 t233 _ ?side1 ?side2 A2.out).mono ?_); (case side1 => repeat (first | exact HR0.out | (with_reducible refine Kd.C_alloc ?_ _) | (with_reducible refine Kd.C_drewN ?_ _) | (with_reducible refine Kd.C_drew ?_))); (case side2 => exact HC0.out); rintro e w' ⟨rfl, ⟨nd, rfl⟩⟩; refine ⟨_, rfl, ?_⟩) | ((with_reducible refine gate_callee (f := 10) rfl ?_); refine goesL_ (some 18) rfl rfl Tryd.func10 (by kernel_rfl) rfl #[.slice A0 l0.length c0, .bool false] rfl zq6 ?_; (with_reducible refine (laws_toTermS.calls k _ _ l0 false t234 _ ?side1 ?side2 A4.out).mono ?_); (case side1 => repeat (first | exact HR0.out | (with_reducible refine Kd.C_alloc ?_ _) | (with_reducible refine Kd.C_drewN ?_ _) | (with_reducible refine Kd.C_drew ?_))); (case side2 => exact HC0.out); rintro e w17 ⟨v235, rfl, ho0, hb, ho0F⟩; refine ⟨_, rfl, ?_⟩; have n0_ := Aside0.mk (Kd.R_lower ho0 (below_size (zb0 HB))); have n0F_ := Aside0.mk (Kd.R_lower ho0F (below_size (zb0 HB))); have n1_ := Aside0.mk (below_step (zb0 HB) hb); clear HB; have HO236 := n0_; have HO236F := n0F_; have HB := n1_; clear n0_ n1_ n0F_; (try clear hb); (try clear hb2); (try clear hk); (try clear hi); (try clear ho0); (try clear ho0F); obtain ⟨Ao18, co18, eo18⟩ := Kd.R_slice HO236.out; subst eo18) | ((with_reducible refine gate_callee (f := 9) rfl ?_); refine goesL_ (some 19) rfl rfl Tryd.func9 (by kernel_rfl) rfl #[.slice Ao18 t234.length co18] rfl zq6 ?_; (with_reducible refine (spec_PolyText.calls k _ _ t234 t237 t238 _ ?side1 ?side2 A5.out).mono ?_); (case side1 => repeat (first | exact (Kd.R_reads' HO236.out).2.2 | (with_reducible refine Kd.C_alloc ?_ _) | (with_reducible refine Kd.C_drewN ?_ _) | (with_reducible refine Kd.C_drew ?_))); (case side2 => exact (Kd.R_reads' HO236.out).2.1); rintro e w19 ⟨rfl, hb⟩; refine ⟨_, rfl, ?_⟩; have n0_ := Aside0.mk (Kd.R_below (zq3 HO236) hb); have n0F_ := Aside0.mk (Kd.R_below (zq3 HO236F) hb); have n1_ := Aside0.mk (below_step (zb0 HB) hb); clear HO236 HO236F; clear HB; have HO236 := n0_; have HO236F := n0F_; have HB := n1_; clear n0_ n1_ n0F_; (try clear hb); (try clear hb2); (try clear hk); (try clear hi)) | ((with_reducible refine gate_callee (f := 10) rfl ?_); refine goesL_ (some 23) rfl rfl Tryd.func10 (by kernel_rfl) rfl #[.slice A0 l0.length c0, .bool false] rfl zq6 ?_; (with_reducible refine (laws_toTermS.calls k _ _ l0 false t239 _ ?side1 ?side2 A6.out).mono ?_); (case side1 => repeat (first | exact (Kd.C_below HR0.out HB.out) | (with_reducible refine Kd.C_alloc ?_ _) | (with_reducible refine Kd.C_drewN ?_ _) | (with_reducible refine Kd.C_drew ?_))); (case side2 => exact HC0.out); rintro e w20 ⟨v240, rfl, ho0, hb, ho0F⟩; refine ⟨_, rfl, ?_⟩; have n0_ := Aside0.mk (Kd.R_lower ho0 (below_size (zb0 HB))); have n0F_ := Aside0.mk (Kd.R_lower ho0F (below_size (zb0 HB))); have n1_ := Aside0.mk (below_step (zb0 HB) hb); clear HB; have HO241 := n0_; have HO241F := n0F_; have HB := n1_; clear n0_ n1_ n0F_; (try clear hb); (try clear hb2); (try clear hk); (try clear hi); (try clear ho0); (try clear ho0F); obtain ⟨Ao21, co21, eo21⟩ := Kd.R_slice HO241.out; subst eo21) | ((with_reducible refine gate_callee (f := 11) rfl ?_); refine goesL_ (some 26) rfl rfl Tryd.func11 (by kernel_rfl) rfl #[.slice Ao21 t239.length co21] rfl zq6 ?_; (with_reducible refine (impl_PolyText.calls k _ _ t239 t242 t243 _ (ztab HTAB (zb1 HB)) ?side1 ?side2 A7.out).mono ?_); (case side1 => repeat (first | exact (Kd.R_reads' HO241.out).2.2 | (with_reducible refine Kd.C_alloc ?_ _) | (with_reducible refine Kd.C_drewN ?_ _) | (with_reducible refine Kd.C_drew ?_))); (case side2 => exact (Kd.R_reads' HO241.out).2.1); rintro e w22 ⟨rfl, hb⟩; refine ⟨_, rfl, ?_⟩; have n0_ := Aside0.mk (Kd.R_below (zq3 HO241) hb); have n0F_ := Aside0.mk (Kd.R_below (zq3 HO241F) hb); have n1_ := Aside0.mk (below_step (zb0 HB) hb); clear HO241 HO241F; clear HB; have HO241 := n0_; have HO241F := n0F_; have HB := n1_; clear n0_ n1_ n0F_; (try clear hb); (try clear hb2); (try clear hk); (try clear hi)) | ((with_reducible refine gate_callee (f := 10) rfl ?_); refine goesL_ (some 39) rfl rfl Tryd.func10 (by kernel_rfl) rfl #[.slice A0 l0.length c0, .bool false] rfl zq6 ?_; (with_reducible refine (laws_toTermS.calls k _ _ l0 false t244 _ ?side1 ?side2 A10.out).mono ?_); (case side1 => repeat (first | exact (Kd.C_below HR0.out HB.out) | (with_reducible refine Kd.C_alloc ?_ _) | (with_reducible refine Kd.C_drewN ?_ _) | (with_reducible refine Kd.C_drew ?_))); (case side2 => exact HC0.out); rintro e w23 ⟨v245, rfl, ho0, hb, ho0F⟩; refine ⟨_, rfl, ?_⟩; have n0_ := Aside0.mk (Kd.R_elder' (zq3 HO241) (Kd.R_base ho0) hb); have n0F_ := Aside0.mk (Kd.R_elder' (zq3 HO241F) (Kd.R_base ho0) hb); have n1_ := Aside0.mk (Kd.R_lower (Kd.R_new' ho0 (Kd.R_lt (zq3 HO241))) (below_size (zb0 HB))); have n1F_ := Aside0.mk (Kd.R_lower (Kd.R_new' ho0F (Kd.R_lt (zq3 HO241))) (below_size (zb0 HB))); have n2_ := Aside0.mk (below_step (zb0 HB) hb); clear HO241 HO241F; clear HB; have HO241 := n0_; have HO241F := n0F_; have HO246 := n1_; have HO246F := n1F_; have HB := n2_; clear n0_ n1_ n2_ n0F_ n1F_; (try clear hb); (try clear hb2); (try clear hk); (try clear hi); (try clear ho0); (try clear ho0F); obtain ⟨Ao24, co24, eo24⟩ := Kd.R_slice HO246.out; subst eo24) | ((with_reducible refine gate_callee (f := 12) rfl ?_); refine goesL_ (some 40) rfl rfl Tryd.func12 (by kernel_rfl) rfl #[.slice Ao21 t239.length co21, .slice Ao24 t244.length co24] rfl zq6 ?_; (with_reducible refine (laws_intactTermS.calls _ _ t239 _ _ t244 true _ ?side1 ?side2 ?side3 ?side4 A11.out ?sideF1 ?sideF2 ?sideF3 ?sideF4).mono ?_); (case side1 => repeat (first | exact (Kd.R_reads' HO241.out).2.2 | (with_reducible refine Kd.C_alloc ?_ _) | (with_reducible refine Kd.C_drewN ?_ _) | (with_reducible refine Kd.C_drew ?_))); (case side2 => exact (Kd.R_reads' HO241.out).2.1); (case side3 => repeat (first | exact (Kd.R_reads' HO246.out).2.2 | (with_reducible refine Kd.C_alloc ?_ _) | (with_reducible refine Kd.C_drewN ?_ _) | (with_reducible refine Kd.C_drew ?_))); (case side4 => exact (Kd.R_reads' HO246.out).2.1); (case sideF1 => repeat (first | exact (Kd.R_reads' HO241F.out).2.2 | (with_reducible refine Kd.C_alloc ?_ _) | (with_reducible refine Kd.C_drewN ?_ _) | (with_reducible refine Kd.C_drew ?_))); (case sideF2 => exact (Kd.R_reads' HO241F.out).2.1); (case sideF3 => repeat (first | exact (Kd.R_reads' HO246F.out).2.2 | (with_reducible refine Kd.C_alloc ?_ _) | (with_reducible refine Kd.C_drewN ?_ _) | (with_reducible refine Kd.C_drew ?_))); (case sideF4 => exact (Kd.R_reads' HO246F.out).2.1); rintro e w25 ⟨rfl, hb⟩; refine ⟨_, rfl, ?_⟩; have n0_ := Aside0.mk (Kd.R_below (zq3 HO241) hb); have n0F_ := Aside0.mk (Kd.R_below (zq3 HO241F) hb); have n1_ := Aside0.mk (Kd.R_below (zq3 HO246) hb); have n1F_ := Aside0.mk (Kd.R_below (zq3 HO246F) hb); have n2_ := Aside0.mk (below_step (zb0 HB) hb); clear HO241 HO241F; clear HO246 HO246F; clear HB; have HO241 := n0_; have HO241F := n0F_; have HO246 := n1_; have HO246F := n1F_; have HB := n2_; clear n0_ n1_ n2_ n0F_ n1F_; (try clear hb); (try clear hb2); (try clear hk); (try clear hi)) | ((with_reducible refine gate_callee (f := 10) rfl ?_); refine goesL_ (some 44) rfl rfl Tryd.func10 (by kernel_rfl) rfl #[.slice A0 l0.length c0, .bool true] rfl zq6 ?_; (with_reducible refine (laws_toTermS.calls k _ _ l0 true t248 _ ?side1 ?side2 A13.out).mono ?_); (case side1 => repeat (first | exact (Kd.C_below HR0.out HB.out) | (with_reducible refine Kd.C_alloc ?_ _) | (with_reducible refine Kd.C_drewN ?_ _) | (with_reducible refine Kd.C_drew ?_))); (case side2 => exact HC0.out); rintro e w26 ⟨v249, rfl, ho0, hb, ho0F⟩; refine ⟨_, rfl, ?_⟩; have n0_ := Aside0.mk (Kd.R_lower ho0 (below_size (zb0 HB))); have n0F_ := Aside0.mk (Kd.R_lower ho0F (below_size (zb0 HB))); have n1_ := Aside0.mk (below_step (zb0 HB) hb); clear HB; have HO250 := n0_; have HO250F := n0F_; have HB := n1_; clear n0_ n1_ n0F_; (try clear hb); (try clear hb2); (try clear hk); (try clear hi); (try clear ho0); (try clear ho0F); obtain ⟨Ao27, co27, eo27⟩ := Kd.R_slice HO250.out; subst eo27) | ((with_reducible refine gate_callee (f := 11) rfl ?_); refine goesL_ (some 45) rfl rfl Tryd.func11 (by kernel_rfl) rfl #[.slice Ao27 t248.length co27] rfl zq6 ?_; (with_reducible refine (impl_PolyText.calls k _ _ t248 t251 t252 _ (ztab HTAB (zb1 HB)) ?side1 ?side2 A14.out).mono ?_); (case side1 => repeat (first | exact (Kd.R_reads' HO250.out).2.2 | (with_reducible refine Kd.C_alloc ?_ _) | (with_reducible refine Kd.C_drewN ?_ _) | (with_reducible refine Kd.C_drew ?_))); (case side2 => exact (Kd.R_reads' HO250.out).2.1); rintro e w28 ⟨rfl, hb⟩; refine ⟨_, rfl, ?_⟩; have n0_ := Aside0.mk (Kd.R_below (zq3 HO250) hb); have n0F_ := Aside0.mk (Kd.R_below (zq3 HO250F) hb); have n1_ := Aside0.mk (below_step (zb0 HB) hb); clear HO250 HO250F; clear HB; have HO250 := n0_; have HO250F := n0F_; have HB := n1_; clear n0_ n1_ n0F_; (try clear hb); (try clear hb2); (try clear hk); (try clear hi)))
       go_ret
       exact ⟨by first | rfl | (simp [errW_none, errW_some] <;> rfl) | (simp [*, errW_none, errW_some] <;> rfl), (zb0 HB)⟩
     ·
      rw [if_neg c15] at H
      exact absurd H (by simp)
    ·
     replace c12 := Bool.eq_false_iff.mpr c12
     subst c12
     have H1 : (none) = some r := by rw [if_neg (show ¬ (false = true) by decide)] at H; exact H
     clear H
     have H := H1
     clear H1
     exact absurd H (by simp)
  ·
   rw [if_neg c8] at H
   exact absurd H (by simp)
end Go.Proofs.YtalaokjbbeepeaaDoor.PD
