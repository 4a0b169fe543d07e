-- By wip/mk/drv.py
import Derived.Test.YtfnmppeoleicbaaQIsPolyPDx0
import Derived.Test.YtfnmppeoleicbaaQIsPolyPDx1
import Derived.Test.YtfnmppeoleicbaaQIsPolyPDx2
import Derived.Test.YtfnmppeoleicbaaQIsPolyPDx5
import Derived.Test.YtfnmppeoleicbaaQIsPolyPDx6
import Derived.Test.YtfnmppeoleicbaaQIsPolyPDx9
import Derived.Test.YtfnmppeoleicbaaQIsPolyPDx11
namespace Go.Proofs.Ytfnmppeoleicbaa.PD
open Go.RowKit Go.Proofs.YtfnmppeoleicbaaW.PrintWords Go.Proofs.YtfnmppeoleicbaaW.PrintLast Go.Proofs.YtfnmppeoleicbaaW.PrintMore
attribute [local go_sem] max2_int min2_int max_two min_two max_three min_three max_four min_four
set_option linter.unusedVariables false
set_option linter.unusedSimpArgs false
/-! ### laws_FnExactIsPoly: function 3 -/
set_option maxHeartbeats 8000000 in
set_option maxRecDepth 100000 in
theorem laws_FnExactIsPoly.calls (k : Nat) (A0 : Option Addr) (c0 : Nat) (l0 : List (S57)) (r : Bool) (w : World) (hr0 : Kd.C k57 w A0 l0.length l0) (hc0 : l0.length ≤ c0) (h : laws_FnExactIsPoly.f k l0 = some r) :
  Calls Try.prog 3 #[.slice A0 l0.length c0] w fun e w' => e = .returned (.bool r) ∧ Below w.heap.size w w' := by
 have HR0 := Aside0.mk hr0
 have HC0 := Aside0.mk hc0
 clear hr0 hc0
 have HB := Aside0.mk (Below.refl w.heap.size w)
 have H : ((laws_szTermS.f l0 1000000).bind fun t169 => (if t169 < 0 then (some true) else ((laws_toTermS.f k l0 false).bind fun t170 => ((spec_IsPoly.f k t170).bind fun t173 => ((laws_toTermS.f k l0 false).bind fun t174 => ((impl_IsPoly.f k t174).bind fun t177 => (if (t177 != t173) = true then (none) else ((laws_toTermS.f k l0 false).bind fun t178 => ((laws_intactTermS.f t174 t178).bind fun t181 => (if t181 = true then ((laws_toTermS.f k l0 true).bind fun t182 => ((impl_IsPoly.f k t182).bind fun t185 => (if (t185 != t173) = true then (none) else (some true)))) else (none))))))))))) = some r := h
 clear h
 replace H := Option.bind_eq_some_iff.mp H
 obtain ⟨t169, A20, H⟩ := H
 replace H : (if t169 < 0 then (some true) else ((laws_toTermS.f k l0 false).bind fun t170 => ((spec_IsPoly.f k t170).bind fun t173 => ((laws_toTermS.f k l0 false).bind fun t174 => ((impl_IsPoly.f k t174).bind fun t177 => (if (t177 != t173) = true then (none) else ((laws_toTermS.f k l0 false).bind fun t178 => ((laws_intactTermS.f t174 t178).bind fun t181 => (if t181 = true then ((laws_toTermS.f k l0 true).bind fun t182 => ((impl_IsPoly.f k t182).bind fun t185 => (if (t185 != t173) = true then (none) else (some true)))) else (none)))))))))) = some r := H
 have A2 := Aside0.mk A20
 clear A20
 by_cases c3 : t169 < 0
 ·
  rw [if_pos c3] at H
  have c3b0 : decide (t169 < 0) = true := decide_eq_true c3
  clear c3
  obtain rfl := Option.some.inj H
  go_enter Try.func3, Try.ntmps3
  go_wp2_with (first | ((with_reducible refine gate_callee (f := 15) rfl ?_); refine goesL_ (some 10) rfl rfl Try.func15 (by kernel_rfl) rfl #[.slice A0 l0.length c0, .int .i64 1000000] rfl zq6 ?_; (with_reducible refine (laws_szTermS.calls _ _ l0 1000000 t169 _ ?side1 ?side2 A2.out).mono ?_); (case side1 => repeat (first | exact HR0.out | (with_reducible refine Kd.C_alloc ?_ _) | (with_reducible refine Kd.C_drewN ?_ _) | (with_reducible refine Kd.C_drew ?_))); (case side2 => exact HC0.out); rintro e w' ⟨rfl, ⟨nd, rfl⟩⟩; refine ⟨_, rfl, ?_⟩))
  go_ret
  exact ⟨by first | rfl | (simp [errW_none, errW_some] <;> rfl) | (simp [*, errW_none, errW_some] <;> rfl), (zb0 HB)⟩
 ·
  rw [if_neg c3] at H
  have c3b0 : decide (t169 < 0) = false := decide_eq_false c3
  clear c3
  replace H := Option.bind_eq_some_iff.mp H
  obtain ⟨t170, A40, H⟩ := H
  replace H : ((spec_IsPoly.f k t170).bind fun t173 => ((laws_toTermS.f k l0 false).bind fun t174 => ((impl_IsPoly.f k t174).bind fun t177 => (if (t177 != t173) = true then (none) else ((laws_toTermS.f k l0 false).bind fun t178 => ((laws_intactTermS.f t174 t178).bind fun t181 => (if t181 = true then ((laws_toTermS.f k l0 true).bind fun t182 => ((impl_IsPoly.f k t182).bind fun t185 => (if (t185 != t173) = true then (none) else (some true)))) else (none)))))))) = some r := H
  have A4 := Aside0.mk A40
  clear A40
  replace H := Option.bind_eq_some_iff.mp H
  obtain ⟨t173, A50, H⟩ := H
  replace H : ((laws_toTermS.f k l0 false).bind fun t174 => ((impl_IsPoly.f k t174).bind fun t177 => (if (t177 != t173) = true then (none) else ((laws_toTermS.f k l0 false).bind fun t178 => ((laws_intactTermS.f t174 t178).bind fun t181 => (if t181 = true then ((laws_toTermS.f k l0 true).bind fun t182 => ((impl_IsPoly.f k t182).bind fun t185 => (if (t185 != t173) = true then (none) else (some true)))) else (none))))))) = some r := H
  have A5 := Aside0.mk A50
  clear A50
  replace H := Option.bind_eq_some_iff.mp H
  obtain ⟨t174, A60, H⟩ := H
  replace H : ((impl_IsPoly.f k t174).bind fun t177 => (if (t177 != t173) = true then (none) else ((laws_toTermS.f k l0 false).bind fun t178 => ((laws_intactTermS.f t174 t178).bind fun t181 => (if t181 = true then ((laws_toTermS.f k l0 true).bind fun t182 => ((impl_IsPoly.f k t182).bind fun t185 => (if (t185 != t173) = true then (none) else (some true)))) else (none)))))) = some r := H
  have A6 := Aside0.mk A60
  clear A60
  replace H := Option.bind_eq_some_iff.mp H
  obtain ⟨t177, A70, H⟩ := H
  replace H : (if (t177 != t173) = true then (none) else ((laws_toTermS.f k l0 false).bind fun t178 => ((laws_intactTermS.f t174 t178).bind fun t181 => (if t181 = true then ((laws_toTermS.f k l0 true).bind fun t182 => ((impl_IsPoly.f k t182).bind fun t185 => (if (t185 != t173) = true then (none) else (some true)))) else (none))))) = some r := H
  have A7 := Aside0.mk A70
  clear A70
  by_cases c8 : (t177 != t173) = true
  ·
   rw [if_pos c8] at H
   exact absurd H (by simp)
  ·
   rw [if_neg c8] at H
   have c8b0 : (t177 != t173) = false := by simpa using c8
   (try (have c8b1 : decide (t177 = t173) = true := by simpa using c8))
   (try (have c8b2 : (t177 == t173) = true := by simpa using c8))
   clear c8
   replace H := Option.bind_eq_some_iff.mp H
   obtain ⟨t178, A90, H⟩ := H
   replace H : ((laws_intactTermS.f t174 t178).bind fun t181 => (if t181 = true then ((laws_toTermS.f k l0 true).bind fun t182 => ((impl_IsPoly.f k t182).bind fun t185 => (if (t185 != t173) = true then (none) else (some true)))) else (none))) = some r := H
   have A9 := Aside0.mk A90
   clear A90
   replace H := Option.bind_eq_some_iff.mp H
   obtain ⟨t181, A100, H⟩ := H
   replace H : (if t181 = true then ((laws_toTermS.f k l0 true).bind fun t182 => ((impl_IsPoly.f k t182).bind fun t185 => (if (t185 != t173) = true then (none) else (some true)))) else (none)) = some r := H
   have A10 := Aside0.mk A100
   clear A100
   by_cases c11 : t181 = true
   ·
    subst c11
    have H1 : ((laws_toTermS.f k l0 true).bind fun t182 => ((impl_IsPoly.f k t182).bind fun t185 => (if (t185 != t173) = true then (none) else (some true)))) = some r := by rw [if_pos rfl] at H; exact H
    clear H
    have H := H1
    clear H1
    replace H := Option.bind_eq_some_iff.mp H
    obtain ⟨t182, A120, H⟩ := H
    replace H : ((impl_IsPoly.f k t182).bind fun t185 => (if (t185 != t173) = true then (none) else (some true))) = some r := H
    have A12 := Aside0.mk A120
    clear A120
    replace H := Option.bind_eq_some_iff.mp H
    obtain ⟨t185, A130, H⟩ := H
    replace H : (if (t185 != t173) = true then (none) else (some true)) = some r := H
    have A13 := Aside0.mk A130
    clear A130
    by_cases c14 : (t185 != t173) = true
    ·
     rw [if_pos c14] at H
     exact absurd H (by simp)
    ·
     rw [if_neg c14] at H
     have c14b0 : (t185 != t173) = false := by simpa using c14
     (try (have c14b1 : decide (t185 = t173) = true := by simpa using c14))
     (try (have c14b2 : (t185 == t173) = true := by simpa using c14))
     clear c14
     obtain rfl := Option.some.inj H
     go_enter Try.func3, Try.ntmps3
     go_wp2_with (first | ((with_reducible refine gate_callee (f := 15) rfl ?_); refine goesL_ (some 10) rfl rfl Try.func15 (by kernel_rfl) rfl #[.slice A0 l0.length c0, .int .i64 1000000] rfl zq6 ?_; (with_reducible refine (laws_szTermS.calls _ _ l0 1000000 t169 _ ?side1 ?side2 A2.out).mono ?_); (case side1 => repeat (first | exact HR0.out | (with_reducible refine Kd.C_alloc ?_ _) | (with_reducible refine Kd.C_drewN ?_ _) | (with_reducible refine Kd.C_drew ?_))); (case side2 => exact HC0.out); rintro e w' ⟨rfl, ⟨nd, rfl⟩⟩; refine ⟨_, rfl, ?_⟩) | ((with_reducible refine gate_callee (f := 17) rfl ?_); refine goesL_ (some 14) rfl rfl Try.func17 (by kernel_rfl) rfl #[.slice A0 l0.length c0, .bool false] rfl zq6 ?_; (with_reducible refine (laws_toTermS.calls k _ _ l0 false t170 _ ?side1 ?side2 A4.out).mono ?_); (case side1 => repeat (first | exact HR0.out | (with_reducible refine Kd.C_alloc ?_ _) | (with_reducible refine Kd.C_drewN ?_ _) | (with_reducible refine Kd.C_drew ?_))); (case side2 => exact HC0.out); rintro e w15 ⟨v171, rfl, ho0, hb, ho0F⟩; refine ⟨_, rfl, ?_⟩; have n0_ := Aside0.mk (Kd.R_lower ho0 (below_size (zb0 HB))); have n0F_ := Aside0.mk (Kd.R_lower ho0F (below_size (zb0 HB))); have n1_ := Aside0.mk (below_step (zb0 HB) hb); clear HB; have HO172 := n0_; have HO172F := n0F_; have HB := n1_; clear n0_ n1_ n0F_; (try clear hb); (try clear hb2); (try clear hk); (try clear hi); (try clear ho0); (try clear ho0F); obtain ⟨Ao16, co16, eo16⟩ := Kd.R_slice HO172.out; subst eo16) | ((with_reducible refine gate_callee (f := 16) rfl ?_); refine goesL_ (some 15) rfl rfl Try.func16 (by kernel_rfl) rfl #[.slice Ao16 t170.length co16] rfl zq6 ?_; (with_reducible refine (spec_IsPoly.calls k _ _ t170 t173 _ ?side1 ?side2 A5.out).mono ?_); (case side1 => repeat (first | exact (Kd.R_reads' HO172.out).2.2 | (with_reducible refine Kd.C_alloc ?_ _) | (with_reducible refine Kd.C_drewN ?_ _) | (with_reducible refine Kd.C_drew ?_))); (case side2 => exact (Kd.R_reads' HO172.out).2.1); rintro e w17 ⟨rfl, hb⟩; refine ⟨_, rfl, ?_⟩; have n0_ := Aside0.mk (Kd.R_below (zq3 HO172) hb); have n0F_ := Aside0.mk (Kd.R_below (zq3 HO172F) hb); have n1_ := Aside0.mk (below_step (zb0 HB) hb); clear HO172 HO172F; clear HB; have HO172 := n0_; have HO172F := n0F_; have HB := n1_; clear n0_ n1_ n0F_; (try clear hb); (try clear hb2); (try clear hk); (try clear hi)) | ((with_reducible refine gate_callee (f := 17) rfl ?_); refine goesL_ (some 17) rfl rfl Try.func17 (by kernel_rfl) rfl #[.slice A0 l0.length c0, .bool false] rfl zq6 ?_; (with_reducible refine (laws_toTermS.calls k _ _ l0 false t174 _ ?side1 ?side2 A6.out).mono ?_); (case side1 => repeat (first | exact (Kd.C_below HR0.out HB.out) | (with_reducible refine Kd.C_alloc ?_ _) | (with_reducible refine Kd.C_drewN ?_ _) | (with_reducible refine Kd.C_drew ?_))); (case side2 => exact HC0.out); rintro e w18 ⟨v175, rfl, ho0, hb, ho0F⟩; refine ⟨_, rfl, ?_⟩; have n0_ := Aside0.mk (Kd.R_elder' (zq3 HO172) (Kd.R_base ho0) hb); have n0F_ := Aside0.mk (Kd.R_elder' (zq3 HO172F) (Kd.R_base ho0) hb); have n1_ := Aside0.mk (Kd.R_lower (Kd.R_new' ho0 (Kd.R_lt (zq3 HO172))) (below_size (zb0 HB))); have n1F_ := Aside0.mk (Kd.R_lower (Kd.R_new' ho0F (Kd.R_lt (zq3 HO172))) (below_size (zb0 HB))); have n2_ := Aside0.mk (below_step (zb0 HB) hb); clear HO172 HO172F; clear HB; have HO172 := n0_; have HO172F := n0F_; have HO176 := n1_; have HO176F := n1F_; have HB := n2_; clear n0_ n1_ n2_ n0F_ n1F_; (try clear hb); (try clear hb2); (try clear hk); (try clear hi); (try clear ho0); (try clear ho0F); obtain ⟨Ao19, co19, eo19⟩ := Kd.R_slice HO176.out; subst eo19) | ((with_reducible refine gate_callee (f := 18) rfl ?_); refine goesL_ (some 19) rfl rfl Try.func18 (by kernel_rfl) rfl #[.slice Ao19 t174.length co19] rfl zq6 ?_; (with_reducible refine (impl_IsPoly.calls k _ _ t174 t177 _ ?side1 ?side2 A7.out).mono ?_); (case side1 => repeat (first | exact (Kd.R_reads' HO176.out).2.2 | (with_reducible refine Kd.C_alloc ?_ _) | (with_reducible refine Kd.C_drewN ?_ _) | (with_reducible refine Kd.C_drew ?_))); (case side2 => exact (Kd.R_reads' HO176.out).2.1); rintro e w20 ⟨rfl, hb⟩; refine ⟨_, rfl, ?_⟩; have n0_ := Aside0.mk (Kd.R_below (zq3 HO172) hb); have n0F_ := Aside0.mk (Kd.R_below (zq3 HO172F) hb); have n1_ := Aside0.mk (Kd.R_below (zq3 HO176) hb); have n1F_ := Aside0.mk (Kd.R_below (zq3 HO176F) hb); have n2_ := Aside0.mk (below_step (zb0 HB) hb); clear HO172 HO172F; clear HO176 HO176F; clear HB; have HO172 := n0_; have HO172F := n0F_; have HO176 := n1_; have HO176F := n1F_; have HB := n2_; clear n0_ n1_ n2_ n0F_ n1F_; (try clear hb); (try clear hb2); (try clear hk); (try clear hi)) | ((with_reducible refine gate_callee (f := 17) rfl ?_); refine goesL_ (some 25) rfl rfl Try.func17 (by kernel_rfl) rfl #[.slice A0 l0.length c0, .bool false] rfl zq6 ?_; (with_reducible refine (laws_toTermS.calls k _ _ l0 false t178 _ ?side1 ?side2 A9.out).mono ?_); (case side1 => repeat (first | exact (Kd.C_below HR0.out HB.out) | (with_reducible refine Kd.C_alloc ?_ _) | (with_reducible refine Kd.C_drewN ?_ _) | (with_reducible refine Kd.C_drew ?_))); (case side2 => exact HC0.out); rintro e w21 ⟨v179, rfl, ho0, hb, ho0F⟩; refine ⟨_, rfl, ?_⟩; have n0_ := Aside0.mk (Kd.R_elder' (zq3 HO172) (Kd.R_base ho0) hb); have n0F_ := Aside0.mk (Kd.R_elder' (zq3 HO172F) (Kd.R_base ho0) hb); have n1_ := Aside0.mk (Kd.R_elder' (zq3 HO176) (Kd.R_base ho0) hb); have n1F_ := Aside0.mk (Kd.R_elder' (zq3 HO176F) (Kd.R_base ho0) hb); have n2_ := Aside0.mk (Kd.R_lower (Kd.R_new' (Kd.R_new' ho0 (Kd.R_lt (zq3 HO172))) (Kd.R_lt (zq3 HO176))) (below_size (zb0 HB))); have n2F_ := Aside0.mk (Kd.R_lower (Kd.R_new' (Kd.R_new' ho0F (Kd.R_lt (zq3 HO172))) (Kd.R_lt (zq3 HO176))) (below_size (zb0 HB))); have n3_ := Aside0.mk (below_step (zb0 HB) hb); clear HO172 HO172F; clear HO176 HO176F; clear HB; have HO172 := n0_; have HO172F := n0F_; have HO176 := n1_; have HO176F := n1F_; have HO180 := n2_; have HO180F := n2F_; have HB := n3_; clear n0_ n1_ n2_ n3_ n0F_ n1F_ n2F_; (try clear hb); (try clear hb2); (try clear hk); (try clear hi); (try clear ho0); (try clear ho0F); obtain ⟨Ao22, co22, eo22⟩ := Kd.R_slice HO180.out; subst eo22) | ((with_reducible refine gate_callee (f := 19) rfl ?_); refine goesL_ (some 26) rfl rfl Try.func19 (by kernel_rfl) rfl #[.slice Ao19 t174.length co19, .slice Ao22 t178.length co22] rfl zq6 ?_; (with_reducible refine (laws_intactTermS.calls _ _ t174 _ _ t178 true _ ?side1 ?side2 ?side3 ?side4 A10.out ?sideF1 ?sideF2 ?sideF3 ?sideF4).mono ?_); (case side1 => repeat (first | exact (Kd.R_reads' HO176.out).2.2 | (with_reducible refine Kd.C_alloc ?_ _) | (with_reducible refine Kd.C_drewN ?_ _) | (with_reducible refine Kd.C_drew ?_))); (case side2 => exact (Kd.R_reads' HO176.out).2.1); (case side3 => repeat (first | exact (Kd.R_reads' HO180.out).2.2 | (with_reducible refine Kd.C_alloc ?_ _) | (with_reducible refine Kd.C_drewN ?_ _) | (with_reducible refine Kd.C_drew ?_))); (case side4 => exact (Kd.R_reads' HO180.out).2.1); (case sideF1 => repeat (first | exact (Kd.R_reads' HO176F.out).2.2 | (with_reducible refine Kd.C_alloc ?_ _) | (with_reducible refine Kd.C_drewN ?_ _) | (with_reducible refine Kd.C_drew ?_))); (case sideF2 => exact (Kd.R_reads' HO176F.out).2.1); (case sideF3 => repeat (first | exact (Kd.R_reads' HO180F.out).2.2 | (with_reducible refine Kd.C_alloc ?_ _) | (with_reducible refine Kd.C_drewN ?_ _) | (with_reducible refine Kd.C_drew ?_))); (case sideF4 => exact (Kd.R_reads' HO180F.out).2.1); rintro e w23 ⟨rfl, hb⟩; refine ⟨_, rfl, ?_⟩; have n0_ := Aside0.mk (Kd.R_below (zq3 HO172) hb); have n0F_ := Aside0.mk (Kd.R_below (zq3 HO172F) hb); have n1_ := Aside0.mk (Kd.R_below (zq3 HO176) hb); have n1F_ := Aside0.mk (Kd.R_below (zq3 HO176F) hb); have n2_ := Aside0.mk (Kd.R_below (zq3 HO180) hb); have n2F_ := Aside0.mk (Kd.R_below (zq3 HO180F) hb); have n3_ := Aside0.mk (below_step (zb0 HB) hb); clear HO172 HO172F; clear HO176 HO176F; clear HO180 HO180F; clear HB; have HO172 := n0_; have HO172F := n0F_; have HO176 := n1_; have HO176F := n1F_; have HO180 := n2_; have HO180F := n2F_; have HB := n3_; clear n0_ n1_ n2_ n3_ n0F_ n1F_ n2F_; (try clear hb); (try clear hb2); (try clear hk); (try clear hi)) | ((with_reducible refine gate_callee (f := 17) rfl ?_); refine goesL_ (some 29) rfl rfl Try.func17 (by kernel_rfl) rfl #[.slice A0 l0.length c0, .bool true] rfl zq6 ?_; (with_reducible refine (laws_toTermS.calls k _ _ l0 true t182 _ ?side1 ?side2 A12.out).mono ?_); (case side1 => repeat (first | exact (Kd.C_below HR0.out HB.out) | (with_reducible refine Kd.C_alloc ?_ _) | (with_reducible refine Kd.C_drewN ?_ _) | (with_reducible refine Kd.C_drew ?_))); (case side2 => exact HC0.out); rintro e w24 ⟨v183, rfl, ho0, hb, ho0F⟩; refine ⟨_, rfl, ?_⟩; have n0_ := Aside0.mk (Kd.R_elder' (zq3 HO172) (Kd.R_base ho0) hb); have n0F_ := Aside0.mk (Kd.R_elder' (zq3 HO172F) (Kd.R_base ho0) hb); have n1_ := Aside0.mk (Kd.R_elder' (zq3 HO176) (Kd.R_base ho0) hb); have n1F_ := Aside0.mk (Kd.R_elder' (zq3 HO176F) (Kd.R_base ho0) hb); have n2_ := Aside0.mk (Kd.R_elder' (zq3 HO180) (Kd.R_base ho0) hb); have n2F_ := Aside0.mk (Kd.R_elder' (zq3 HO180F) (Kd.R_base ho0) hb); have n3_ := Aside0.mk (Kd.R_lower (Kd.R_new' (Kd.R_new' (Kd.R_new' ho0 (Kd.R_lt (zq3 HO172))) (Kd.R_lt (zq3 HO176))) (Kd.R_lt (zq3 HO180))) (below_size (zb0 HB))); have n3F_ := Aside0.mk (Kd.R_lower (Kd.R_new' (Kd.R_new' (Kd.R_new' ho0F (Kd.R_lt (zq3 HO172))) (Kd.R_lt (zq3 HO176))) (Kd.R_lt (zq3 HO180))) (below_size (zb0 HB))); have n4_ := Aside0.mk (below_step (zb0 HB) hb); clear HO172 HO172F; clear HO176 HO176F; clear HO180 HO180F; clear HB; have HO172 := n0_; have HO172F := n0F_; have HO176 := n1_; have HO176F := n1F_; have HO180 := n2_; have HO180F := n2F_; have HO184 := n3_; have HO184F := n3F_; have HB := n4_; clear n0_ n1_ n2_ n3_ n4_ n0F_ n1F_ n2F_ n3F_; (try clear hb); (try clear hb2); (try clear hk); (try clear hi); (try clear ho0); (try clear ho0F); obtain ⟨Ao25, co25, eo25⟩ := Kd.R_slice HO184.out; subst eo25) | ((with_reducible refine gate_callee (f := 18) rfl ?_); refine goesL_ (some 30) rfl rfl Try.func18 (by kernel_rfl) rfl #[.slice Ao25 t182.length co25] rfl zq6 ?_; (with_reducible refine (impl_IsPoly.calls k _ _ t182 t185 _ ?side1 ?side2 A13.out).mono ?_); (case side1 => repeat (first | exact (Kd.R_reads' HO184.out).2.2 | (with_reducible refine Kd.C_alloc ?_ _) | (with_reducible refine Kd.C_drewN ?_ _) | (with_reducible refine Kd.C_drew ?_))); (case side2 => exact (Kd.R_reads' HO184.out).2.1); rintro e w26 ⟨rfl, hb⟩; refine ⟨_, rfl, ?_⟩; have n0_ := Aside0.mk (Kd.R_below (zq3 HO172) hb); have n0F_ := Aside0.mk (Kd.R_below (zq3 HO172F) hb); have n1_ := Aside0.mk (Kd.R_below (zq3 HO176) hb); have n1F_ := Aside0.mk (Kd.R_below (zq3 HO176F) hb); have n2_ := Aside0.mk (Kd.R_below (zq3 HO180) hb); have n2F_ := Aside0.mk (Kd.R_below (zq3 HO180F) hb); have n3_ := Aside0.mk (Kd.R_below (zq3 HO184) hb); have n3F_ := Aside0.mk (Kd.R_below (zq3 HO184F) hb); have n4_ := Aside0.mk (below_step (zb0 HB) hb); clear HO172 HO172F; clear HO176 HO176F; clear HO180 HO180F; clear HO184 HO184F; clear HB; have HO172 := n0_; have HO172F := n0F_; have HO176 := n1_; have HO176F := n1F_; have HO180 := n2_; have HO180F := n2F_; have HO184 := n3_; have HO184F := n3F_; have HB := n4_; clear n0_ n1_ n2_ n3_ n4_ n0F_ n1F_ n2F_ n3F_; (try clear hb); (try clear hb2); (try clear hk); (try clear hi)))
     go_ret
     exact ⟨by first | rfl | (simp [errW_none, errW_some] <;> rfl) | (simp [*, errW_none, errW_some] <;> rfl), (zb0 HB)⟩
   ·
    replace c11 := Bool.eq_false_iff.mpr c11
    subst c11
    have H1 : (none) = some r := by rw [if_neg (show ¬ (false = true) by decide)] at H; exact H
    clear H
    have H := H1
    clear H1
    exact absurd H (by simp)
end Go.Proofs.Ytfnmppeoleicbaa.PD
