-- By wip/mk/drv.py
import Derived.Test.YtfnmppeoleicbaaQPutIerPDx0
import Derived.Test.YtfnmppeoleicbaaQPutIerPDx1
import Derived.Test.YtfnmppeoleicbaaQPutIerPDx2
import Derived.Test.YtfnmppeoleicbaaQPutIerPDx4
import Derived.Test.YtfnmppeoleicbaaQPutIerPDx5
import Derived.Test.YtfnmppeoleicbaaQPutIerPDx6
import Derived.Test.YtfnmppeoleicbaaQPutIerPDx7
import Derived.Test.YtfnmppeoleicbaaQPutIerPDx11
import Derived.Test.YtfnmppeoleicbaaQPutIerPDx16
namespace Go.Proofs.Ytfnmppeoleicbaa.PD
open Go.RowKit Go.Proofs.YtfnmppeoleicbaaW.PrintWords Go.Proofs.YtfnmppeoleicbaaW.PrintLast Go.Proofs.YtfnmppeoleicbaaW.PrintMore
attribute [local go_sem] max2_int min2_int max_two min_two max_three min_three max_four min_four
set_option linter.unusedVariables false
set_option linter.unusedSimpArgs false
/-! ### laws_FnExactPutInteger: function 13 -/
set_option maxHeartbeats 8000000 in
set_option maxRecDepth 100000 in
theorem laws_FnExactPutInteger.calls (k : Nat) (A0 : Option Addr) (c0 : Nat) (l0 : List (S57)) (a1 : Int) (a2 : Int) (r : Bool) (w : World) (hr0 : Kd.C k57 w A0 l0.length l0) (hc0 : l0.length ≤ c0) (h : laws_FnExactPutInteger.f k l0 a1 a2 = some r) :
  Calls Try.prog 13 #[.slice A0 l0.length c0, .int .i64 a1, .int .i64 a2] w fun e w' => e = .returned (.bool r) ∧ Below w.heap.size w w' := by
 have HR0 := Aside0.mk hr0
 have HC0 := Aside0.mk hc0
 clear hr0 hc0
 have HB := Aside0.mk (Below.refl w.heap.size w)
 have H : ((laws_szTermS.f l0 1000000).bind fun t256 => (if t256 < 0 then (some true) else ((laws_toTermS.f k l0 false).bind fun t257 => ((spec_PutInteger.f k t257 a1 a2).bind fun bt260 => ((laws_toTermS.f k l0 false).bind fun t264 => ((impl_PutInteger.f k t264 a1 a2).bind fun bt267 => ((laws_eqTermS.f k bt267.1 bt260.1).bind fun t271 => (if t271 = true then (if (bt267.2 != bt260.2) = true then (none) else ((laws_toTermS.f k l0 false).bind fun t272 => ((laws_intactTermS.f t264 t272).bind fun t275 => (if t275 = true then ((laws_markTermS.f k t264 101).bind fun bt276 => (if bt276.1 < 0 then (none) else ((laws_eqTermS.f k bt267.1 bt260.1).bind fun t278 => (if t278 = true then ((laws_markTermS.f k bt267.1 101).bind fun bt279 => ((laws_heldTermS.f k bt279.2 101).bind fun t281 => (if t281 < 0 then (none) else (if t281 = bt279.1 then ((laws_toTermS.f k l0 true).bind fun t282 => ((impl_PutInteger.f k t282 a1 a2).bind fun bt285 => ((laws_eqTermS.f k bt285.1 bt260.1).bind fun t289 => (if t289 = true then (if (bt285.2 != bt260.2) = true then (none) else ((laws_heldTermS.f k bt279.2 101).bind fun t290 => (if t290 < 0 then (none) else (if t290 = bt279.1 then (some true) else (none))))) else (none))))) else (none))))) else (none))))) else (none))))) else (none))))))))) = some r := h
 clear h
 replace H := Option.bind_eq_some_iff.mp H
 obtain ⟨t256, A40, H⟩ := H
 replace H : (if t256 < 0 then (some true) else ((laws_toTermS.f k l0 false).bind fun t257 => ((spec_PutInteger.f k t257 a1 a2).bind fun bt260 => ((laws_toTermS.f k l0 false).bind fun t264 => ((impl_PutInteger.f k t264 a1 a2).bind fun bt267 => ((laws_eqTermS.f k bt267.1 bt260.1).bind fun t271 => (if t271 = true then (if (bt267.2 != bt260.2) = true then (none) else ((laws_toTermS.f k l0 false).bind fun t272 => ((laws_intactTermS.f t264 t272).bind fun t275 => (if t275 = true then ((laws_markTermS.f k t264 101).bind fun bt276 => (if bt276.1 < 0 then (none) else ((laws_eqTermS.f k bt267.1 bt260.1).bind fun t278 => (if t278 = true then ((laws_markTermS.f k bt267.1 101).bind fun bt279 => ((laws_heldTermS.f k bt279.2 101).bind fun t281 => (if t281 < 0 then (none) else (if t281 = bt279.1 then ((laws_toTermS.f k l0 true).bind fun t282 => ((impl_PutInteger.f k t282 a1 a2).bind fun bt285 => ((laws_eqTermS.f k bt285.1 bt260.1).bind fun t289 => (if t289 = true then (if (bt285.2 != bt260.2) = true then (none) else ((laws_heldTermS.f k bt279.2 101).bind fun t290 => (if t290 < 0 then (none) else (if t290 = bt279.1 then (some true) else (none))))) else (none))))) else (none))))) else (none))))) else (none))))) else (none)))))))) = some r := H
 have A4 := Aside0.mk A40
 clear A40
 by_cases c5 : t256 < 0
 ·
  rw [if_pos c5] at H
  have c5b0 : decide (t256 < 0) = true := decide_eq_true c5
  clear c5
  obtain rfl := Option.some.inj H
  go_enter Try.func13, Try.ntmps13
  go_wp2_with (first | ((with_reducible refine gate_callee (f := 15) rfl ?_); refine goesL_ (some 20) rfl rfl Try.func15 (by kernel_rfl) rfl #[.slice A0 l0.length c0, .int .i64 1000000] rfl zq6 ?_; (with_reducible refine (laws_szTermS.calls _ _ l0 1000000 t256 _ ?side1 ?side2 A4.out).mono ?_); (case side1 => repeat (first | exact HR0.out | (with_reducible refine Kd.C_alloc ?_ _) | (with_reducible refine Kd.C_drewN ?_ _) | (with_reducible refine Kd.C_drew ?_))); (case side2 => exact HC0.out); rintro e w' ⟨rfl, ⟨nd, rfl⟩⟩; refine ⟨_, rfl, ?_⟩))
  go_ret
  exact ⟨by first | rfl | (simp [errW_none, errW_some] <;> rfl) | (simp [*, errW_none, errW_some] <;> rfl), (zb0 HB)⟩
 ·
  rw [if_neg c5] at H
  have c5b0 : decide (t256 < 0) = false := decide_eq_false c5
  clear c5
  replace H := Option.bind_eq_some_iff.mp H
  obtain ⟨t257, A60, H⟩ := H
  replace H : ((spec_PutInteger.f k t257 a1 a2).bind fun bt260 => ((laws_toTermS.f k l0 false).bind fun t264 => ((impl_PutInteger.f k t264 a1 a2).bind fun bt267 => ((laws_eqTermS.f k bt267.1 bt260.1).bind fun t271 => (if t271 = true then (if (bt267.2 != bt260.2) = true then (none) else ((laws_toTermS.f k l0 false).bind fun t272 => ((laws_intactTermS.f t264 t272).bind fun t275 => (if t275 = true then ((laws_markTermS.f k t264 101).bind fun bt276 => (if bt276.1 < 0 then (none) else ((laws_eqTermS.f k bt267.1 bt260.1).bind fun t278 => (if t278 = true then ((laws_markTermS.f k bt267.1 101).bind fun bt279 => ((laws_heldTermS.f k bt279.2 101).bind fun t281 => (if t281 < 0 then (none) else (if t281 = bt279.1 then ((laws_toTermS.f k l0 true).bind fun t282 => ((impl_PutInteger.f k t282 a1 a2).bind fun bt285 => ((laws_eqTermS.f k bt285.1 bt260.1).bind fun t289 => (if t289 = true then (if (bt285.2 != bt260.2) = true then (none) else ((laws_heldTermS.f k bt279.2 101).bind fun t290 => (if t290 < 0 then (none) else (if t290 = bt279.1 then (some true) else (none))))) else (none))))) else (none))))) else (none))))) else (none))))) else (none)))))) = some r := H
  have A6 := Aside0.mk A60
  clear A60
  replace H := Option.bind_eq_some_iff.mp H
  obtain ⟨⟨t260, t261⟩, A70, H⟩ := H
  replace H : ((laws_toTermS.f k l0 false).bind fun t264 => ((impl_PutInteger.f k t264 a1 a2).bind fun bt267 => ((laws_eqTermS.f k bt267.1 t260).bind fun t271 => (if t271 = true then (if (bt267.2 != t261) = true then (none) else ((laws_toTermS.f k l0 false).bind fun t272 => ((laws_intactTermS.f t264 t272).bind fun t275 => (if t275 = true then ((laws_markTermS.f k t264 101).bind fun bt276 => (if bt276.1 < 0 then (none) else ((laws_eqTermS.f k bt267.1 t260).bind fun t278 => (if t278 = true then ((laws_markTermS.f k bt267.1 101).bind fun bt279 => ((laws_heldTermS.f k bt279.2 101).bind fun t281 => (if t281 < 0 then (none) else (if t281 = bt279.1 then ((laws_toTermS.f k l0 true).bind fun t282 => ((impl_PutInteger.f k t282 a1 a2).bind fun bt285 => ((laws_eqTermS.f k bt285.1 t260).bind fun t289 => (if t289 = true then (if (bt285.2 != t261) = true then (none) else ((laws_heldTermS.f k bt279.2 101).bind fun t290 => (if t290 < 0 then (none) else (if t290 = bt279.1 then (some true) else (none))))) else (none))))) else (none))))) else (none))))) else (none))))) else (none))))) = some r := H
  have A7 := Aside0.mk A70
  clear A70
  replace H := Option.bind_eq_some_iff.mp H
  obtain ⟨t264, A80, H⟩ := H
  replace H : ((impl_PutInteger.f k t264 a1 a2).bind fun bt267 => ((laws_eqTermS.f k bt267.1 t260).bind fun t271 => (if t271 = true then (if (bt267.2 != t261) = true then (none) else ((laws_toTermS.f k l0 false).bind fun t272 => ((laws_intactTermS.f t264 t272).bind fun t275 => (if t275 = true then ((laws_markTermS.f k t264 101).bind fun bt276 => (if bt276.1 < 0 then (none) else ((laws_eqTermS.f k bt267.1 t260).bind fun t278 => (if t278 = true then ((laws_markTermS.f k bt267.1 101).bind fun bt279 => ((laws_heldTermS.f k bt279.2 101).bind fun t281 => (if t281 < 0 then (none) else (if t281 = bt279.1 then ((laws_toTermS.f k l0 true).bind fun t282 => ((impl_PutInteger.f k t282 a1 a2).bind fun bt285 => ((laws_eqTermS.f k bt285.1 t260).bind fun t289 => (if t289 = true then (if (bt285.2 != t261) = true then (none) else ((laws_heldTermS.f k bt279.2 101).bind fun t290 => (if t290 < 0 then (none) else (if t290 = bt279.1 then (some true) else (none))))) else (none))))) else (none))))) else (none))))) else (none))))) else (none)))) = some r := H
  have A8 := Aside0.mk A80
  clear A80
  replace H := Option.bind_eq_some_iff.mp H
  obtain ⟨⟨t267, t268⟩, A90, H⟩ := H
  replace H : ((laws_eqTermS.f k t267 t260).bind fun t271 => (if t271 = true then (if (t268 != t261) = true then (none) else ((laws_toTermS.f k l0 false).bind fun t272 => ((laws_intactTermS.f t264 t272).bind fun t275 => (if t275 = true then ((laws_markTermS.f k t264 101).bind fun bt276 => (if bt276.1 < 0 then (none) else ((laws_eqTermS.f k t267 t260).bind fun t278 => (if t278 = true then ((laws_markTermS.f k t267 101).bind fun bt279 => ((laws_heldTermS.f k bt279.2 101).bind fun t281 => (if t281 < 0 then (none) else (if t281 = bt279.1 then ((laws_toTermS.f k l0 true).bind fun t282 => ((impl_PutInteger.f k t282 a1 a2).bind fun bt285 => ((laws_eqTermS.f k bt285.1 t260).bind fun t289 => (if t289 = true then (if (bt285.2 != t261) = true then (none) else ((laws_heldTermS.f k bt279.2 101).bind fun t290 => (if t290 < 0 then (none) else (if t290 = bt279.1 then (some true) else (none))))) else (none))))) else (none))))) else (none))))) else (none))))) else (none))) = some r := H
  have A9 := Aside0.mk A90
  clear A90
  replace H := Option.bind_eq_some_iff.mp H
  obtain ⟨t271, A100, H⟩ := H
  replace H : (if t271 = true then (if (t268 != t261) = true then (none) else ((laws_toTermS.f k l0 false).bind fun t272 => ((laws_intactTermS.f t264 t272).bind fun t275 => (if t275 = true then ((laws_markTermS.f k t264 101).bind fun bt276 => (if bt276.1 < 0 then (none) else ((laws_eqTermS.f k t267 t260).bind fun t278 => (if t278 = true then ((laws_markTermS.f k t267 101).bind fun bt279 => ((laws_heldTermS.f k bt279.2 101).bind fun t281 => (if t281 < 0 then (none) else (if t281 = bt279.1 then ((laws_toTermS.f k l0 true).bind fun t282 => ((impl_PutInteger.f k t282 a1 a2).bind fun bt285 => ((laws_eqTermS.f k bt285.1 t260).bind fun t289 => (if t289 = true then (if (bt285.2 != t261) = true then (none) else ((laws_heldTermS.f k bt279.2 101).bind fun t290 => (if t290 < 0 then (none) else (if t290 = bt279.1 then (some true) else (none))))) else (none))))) else (none))))) else (none))))) else (none))))) else (none)) = some r := H
  have A10 := Aside0.mk A100
  clear A100
  by_cases c11 : t271 = true
  ·
   subst c11
   have H1 : (if (t268 != t261) = true then (none) else ((laws_toTermS.f k l0 false).bind fun t272 => ((laws_intactTermS.f t264 t272).bind fun t275 => (if t275 = true then ((laws_markTermS.f k t264 101).bind fun bt276 => (if bt276.1 < 0 then (none) else ((laws_eqTermS.f k t267 t260).bind fun t278 => (if t278 = true then ((laws_markTermS.f k t267 101).bind fun bt279 => ((laws_heldTermS.f k bt279.2 101).bind fun t281 => (if t281 < 0 then (none) else (if t281 = bt279.1 then ((laws_toTermS.f k l0 true).bind fun t282 => ((impl_PutInteger.f k t282 a1 a2).bind fun bt285 => ((laws_eqTermS.f k bt285.1 t260).bind fun t289 => (if t289 = true then (if (bt285.2 != t261) = true then (none) else ((laws_heldTermS.f k bt279.2 101).bind fun t290 => (if t290 < 0 then (none) else (if t290 = bt279.1 then (some true) else (none))))) else (none))))) else (none))))) else (none))))) else (none))))) = some r := by rw [if_pos rfl] at H; exact H
   clear H
   have H := H1
   clear H1
   by_cases c12 : (t268 != t261) = true
   ·
    rw [if_pos c12] at H
    exact absurd H (by simp)
   ·
    rw [if_neg c12] at H
    have c12b0 : (t268 != t261) = false := by simpa using c12
    (try (have c12b1 : decide (t268 = t261) = true := by simpa using c12))
    (try (have c12b2 : (t268 == t261) = true := by simpa using c12))
    clear c12
    replace H := Option.bind_eq_some_iff.mp H
    obtain ⟨t272, A130, H⟩ := H
    replace H : ((laws_intactTermS.f t264 t272).bind fun t275 => (if t275 = true then ((laws_markTermS.f k t264 101).bind fun bt276 => (if bt276.1 < 0 then (none) else ((laws_eqTermS.f k t267 t260).bind fun t278 => (if t278 = true then ((laws_markTermS.f k t267 101).bind fun bt279 => ((laws_heldTermS.f k bt279.2 101).bind fun t281 => (if t281 < 0 then (none) else (if t281 = bt279.1 then ((laws_toTermS.f k l0 true).bind fun t282 => ((impl_PutInteger.f k t282 a1 a2).bind fun bt285 => ((laws_eqTermS.f k bt285.1 t260).bind fun t289 => (if t289 = true then (if (bt285.2 != t261) = true then (none) else ((laws_heldTermS.f k bt279.2 101).bind fun t290 => (if t290 < 0 then (none) else (if t290 = bt279.1 then (some true) else (none))))) else (none))))) else (none))))) else (none))))) else (none))) = some r := H
    have A13 := Aside0.mk A130
    clear A130
    replace H := Option.bind_eq_some_iff.mp H
    obtain ⟨t275, A140, H⟩ := H
    replace H : (if t275 = true then ((laws_markTermS.f k t264 101).bind fun bt276 => (if bt276.1 < 0 then (none) else ((laws_eqTermS.f k t267 t260).bind fun t278 => (if t278 = true then ((laws_markTermS.f k t267 101).bind fun bt279 => ((laws_heldTermS.f k bt279.2 101).bind fun t281 => (if t281 < 0 then (none) else (if t281 = bt279.1 then ((laws_toTermS.f k l0 true).bind fun t282 => ((impl_PutInteger.f k t282 a1 a2).bind fun bt285 => ((laws_eqTermS.f k bt285.1 t260).bind fun t289 => (if t289 = true then (if (bt285.2 != t261) = true then (none) else ((laws_heldTermS.f k bt279.2 101).bind fun t290 => (if t290 < 0 then (none) else (if t290 = bt279.1 then (some true) else (none))))) else (none))))) else (none))))) else (none))))) else (none)) = some r := H
    have A14 := Aside0.mk A140
    clear A140
    by_cases c15 : t275 = true
    ·
     subst c15
     have H1 : ((laws_markTermS.f k t264 101).bind fun bt276 => (if bt276.1 < 0 then (none) else ((laws_eqTermS.f k t267 t260).bind fun t278 => (if t278 = true then ((laws_markTermS.f k t267 101).bind fun bt279 => ((laws_heldTermS.f k bt279.2 101).bind fun t281 => (if t281 < 0 then (none) else (if t281 = bt279.1 then ((laws_toTermS.f k l0 true).bind fun t282 => ((impl_PutInteger.f k t282 a1 a2).bind fun bt285 => ((laws_eqTermS.f k bt285.1 t260).bind fun t289 => (if t289 = true then (if (bt285.2 != t261) = true then (none) else ((laws_heldTermS.f k bt279.2 101).bind fun t290 => (if t290 < 0 then (none) else (if t290 = bt279.1 then (some true) else (none))))) else (none))))) else (none))))) else (none))))) = some r := by rw [if_pos rfl] at H; exact H
     clear H
     have H := H1
     clear H1
     replace H := Option.bind_eq_some_iff.mp H
     obtain ⟨⟨t276, t277⟩, A160, H⟩ := H
     replace H : (if t276 < 0 then (none) else ((laws_eqTermS.f k t267 t260).bind fun t278 => (if t278 = true then ((laws_markTermS.f k t267 101).bind fun bt279 => ((laws_heldTermS.f k bt279.2 101).bind fun t281 => (if t281 < 0 then (none) else (if t281 = bt279.1 then ((laws_toTermS.f k l0 true).bind fun t282 => ((impl_PutInteger.f k t282 a1 a2).bind fun bt285 => ((laws_eqTermS.f k bt285.1 t260).bind fun t289 => (if t289 = true then (if (bt285.2 != t261) = true then (none) else ((laws_heldTermS.f k bt279.2 101).bind fun t290 => (if t290 < 0 then (none) else (if t290 = bt279.1 then (some true) else (none))))) else (none))))) else (none))))) else (none)))) = some r := H
     have A16 := Aside0.mk A160
     clear A160
     by_cases c17 : t276 < 0
     ·
      rw [if_pos c17] at H
      exact absurd H (by simp)
     ·
      rw [if_neg c17] at H
      have c17b0 : decide (t276 < 0) = false := decide_eq_false c17
      clear c17
      replace H := Option.bind_eq_some_iff.mp H
      obtain ⟨t278, A180, H⟩ := H
      replace H : (if t278 = true then ((laws_markTermS.f k t267 101).bind fun bt279 => ((laws_heldTermS.f k bt279.2 101).bind fun t281 => (if t281 < 0 then (none) else (if t281 = bt279.1 then ((laws_toTermS.f k l0 true).bind fun t282 => ((impl_PutInteger.f k t282 a1 a2).bind fun bt285 => ((laws_eqTermS.f k bt285.1 t260).bind fun t289 => (if t289 = true then (if (bt285.2 != t261) = true then (none) else ((laws_heldTermS.f k bt279.2 101).bind fun t290 => (if t290 < 0 then (none) else (if t290 = bt279.1 then (some true) else (none))))) else (none))))) else (none))))) else (none)) = some r := H
      have A18 := Aside0.mk A180
      clear A180
      by_cases c19 : t278 = true
      ·
       subst c19
       have H1 : ((laws_markTermS.f k t267 101).bind fun bt279 => ((laws_heldTermS.f k bt279.2 101).bind fun t281 => (if t281 < 0 then (none) else (if t281 = bt279.1 then ((laws_toTermS.f k l0 true).bind fun t282 => ((impl_PutInteger.f k t282 a1 a2).bind fun bt285 => ((laws_eqTermS.f k bt285.1 t260).bind fun t289 => (if t289 = true then (if (bt285.2 != t261) = true then (none) else ((laws_heldTermS.f k bt279.2 101).bind fun t290 => (if t290 < 0 then (none) else (if t290 = bt279.1 then (some true) else (none))))) else (none))))) else (none))))) = some r := by rw [if_pos rfl] at H; exact H
       clear H
       have H := H1
       clear H1
       replace H := Option.bind_eq_some_iff.mp H
       obtain ⟨⟨t279, t280⟩, A200, H⟩ := H
       replace H : ((laws_heldTermS.f k t280 101).bind fun t281 => (if t281 < 0 then (none) else (if t281 = t279 then ((laws_toTermS.f k l0 true).bind fun t282 => ((impl_PutInteger.f k t282 a1 a2).bind fun bt285 => ((laws_eqTermS.f k bt285.1 t260).bind fun t289 => (if t289 = true then (if (bt285.2 != t261) = true then (none) else ((laws_heldTermS.f k t280 101).bind fun t290 => (if t290 < 0 then (none) else (if t290 = t279 then (some true) else (none))))) else (none))))) else (none)))) = some r := H
       have A20 := Aside0.mk A200
       clear A200
       replace H := Option.bind_eq_some_iff.mp H
       obtain ⟨t281, A210, H⟩ := H
       replace H : (if t281 < 0 then (none) else (if t281 = t279 then ((laws_toTermS.f k l0 true).bind fun t282 => ((impl_PutInteger.f k t282 a1 a2).bind fun bt285 => ((laws_eqTermS.f k bt285.1 t260).bind fun t289 => (if t289 = true then (if (bt285.2 != t261) = true then (none) else ((laws_heldTermS.f k t280 101).bind fun t290 => (if t290 < 0 then (none) else (if t290 = t279 then (some true) else (none))))) else (none))))) else (none))) = some r := H
       have A21 := Aside0.mk A210
       clear A210
       by_cases c22 : t281 < 0
       ·
        rw [if_pos c22] at H
        exact absurd H (by simp)
       ·
        rw [if_neg c22] at H
        have c22b0 : decide (t281 < 0) = false := decide_eq_false c22
        clear c22
        by_cases c23 : t281 = t279
        ·
         rw [if_pos c23] at H
         have c23b0 : (t281 == t279) = true := beq_iff_eq.mpr c23
         have c23b1 : (t281 != t279) = false := bne_eq_false_iff_eq.mpr c23
         clear c23
         replace H := Option.bind_eq_some_iff.mp H
         obtain ⟨t282, A240, H⟩ := H
         replace H : ((impl_PutInteger.f k t282 a1 a2).bind fun bt285 => ((laws_eqTermS.f k bt285.1 t260).bind fun t289 => (if t289 = true then (if (bt285.2 != t261) = true then (none) else ((laws_heldTermS.f k t280 101).bind fun t290 => (if t290 < 0 then (none) else (if t290 = t279 then (some true) else (none))))) else (none)))) = some r := H
         have A24 := Aside0.mk A240
         clear A240
         replace H := Option.bind_eq_some_iff.mp H
         obtain ⟨⟨t285, t286⟩, A250, H⟩ := H
         replace H : ((laws_eqTermS.f k t285 t260).bind fun t289 => (if t289 = true then (if (t286 != t261) = true then (none) else ((laws_heldTermS.f k t280 101).bind fun t290 => (if t290 < 0 then (none) else (if t290 = t279 then (some true) else (none))))) else (none))) = some r := H
         have A25 := Aside0.mk A250
         clear A250
         replace H := Option.bind_eq_some_iff.mp H
         obtain ⟨t289, A260, H⟩ := H
         replace H : (if t289 = true then (if (t286 != t261) = true then (none) else ((laws_heldTermS.f k t280 101).bind fun t290 => (if t290 < 0 then (none) else (if t290 = t279 then (some true) else (none))))) else (none)) = some r := H
         have A26 := Aside0.mk A260
         clear A260
         by_cases c27 : t289 = true
         ·
          subst c27
          have H1 : (if (t286 != t261) = true then (none) else ((laws_heldTermS.f k t280 101).bind fun t290 => (if t290 < 0 then (none) else (if t290 = t279 then (some true) else (none))))) = some r := by rw [if_pos rfl] at H; exact H
          clear H
          have H := H1
          clear H1
          by_cases c28 : (t286 != t261) = true
          ·
           rw [if_pos c28] at H
           exact absurd H (by simp)
          ·
           rw [if_neg c28] at H
           have c28b0 : (t286 != t261) = false := by simpa using c28
           (try (have c28b1 : decide (t286 = t261) = true := by simpa using c28))
           (try (have c28b2 : (t286 == t261) = true := by simpa using c28))
           clear c28
           replace H := Option.bind_eq_some_iff.mp H
           obtain ⟨t290, A290, H⟩ := H
           replace H : (if t290 < 0 then (none) else (if t290 = t279 then (some true) else (none))) = some r := H
           have A29 := Aside0.mk A290
           clear A290
           by_cases c30 : t290 < 0
           ·
            rw [if_pos c30] at H
            exact absurd H (by simp)
           ·
            rw [if_neg c30] at H
            have c30b0 : decide (t290 < 0) = false := decide_eq_false c30
            clear c30
            by_cases c31 : t290 = t279
            ·
             rw [if_pos c31] at H
             have c31b0 : (t290 == t279) = true := beq_iff_eq.mpr c31
             have c31b1 : (t290 != t279) = false := bne_eq_false_iff_eq.mpr c31
             clear c31
             obtain rfl := Option.some.inj H
             go_enter Try.func13, Try.ntmps13
             go_wp2_with (first | ((with_reducible refine gate_callee (f := 15) rfl ?_); refine goesL_ (some 20) rfl rfl Try.func15 (by kernel_rfl) rfl #[.slice A0 l0.length c0, .int .i64 1000000] rfl zq6 ?_; (with_reducible refine (laws_szTermS.calls _ _ l0 1000000 t256 _ ?side1 ?side2 A4.out).mono ?_); (case side1 => repeat (first | exact HR0.out | (with_reducible refine Kd.C_alloc ?_ _) | (with_reducible refine Kd.C_drewN ?_ _) | (with_reducible refine Kd.C_drew ?_))); (case side2 => exact HC0.out); rintro e w' ⟨rfl, ⟨nd, rfl⟩⟩; refine ⟨_, rfl, ?_⟩) | ((with_reducible refine gate_callee (f := 17) rfl ?_); refine goesL_ (some 25) rfl rfl Try.func17 (by kernel_rfl) rfl #[.slice A0 l0.length c0, .bool false] rfl zq6 ?_; (with_reducible refine (laws_toTermS.calls k _ _ l0 false t257 _ ?side1 ?side2 A6.out).mono ?_); (case side1 => repeat (first | exact HR0.out | (with_reducible refine Kd.C_alloc ?_ _) | (with_reducible refine Kd.C_drewN ?_ _) | (with_reducible refine Kd.C_drew ?_))); (case side2 => exact HC0.out); rintro e w32 ⟨v258, rfl, ho0, hb, ho0F⟩; refine ⟨_, rfl, ?_⟩; have n0_ := Aside0.mk (Kd.R_lower ho0 (below_size (zb0 HB))); have n0F_ := Aside0.mk (Kd.R_lower ho0F (below_size (zb0 HB))); have n1_ := Aside0.mk (below_step (zb0 HB) hb); clear HB; have HO259 := n0_; have HO259F := n0F_; have HB := n1_; clear n0_ n1_ n0F_; (try clear hb); (try clear hb2); (try clear hk); (try clear hi); (try clear ho0); (try clear ho0F); obtain ⟨Ao33, co33, eo33⟩ := Kd.R_slice HO259.out; subst eo33) | ((with_reducible refine gate_callee (f := 47) rfl ?_); refine goesL_ (some 28) rfl rfl Try.func47 (by kernel_rfl) rfl #[.slice Ao33 t257.length co33, .int .i64 a1, .int .i64 a2] rfl zq6 ?_; (with_reducible refine (spec_PutInteger.calls k _ _ t257 a1 a2 t260 t261 _ ?side1 ?side2 A7.out).mono ?_); (case side1 => repeat (first | exact (Kd.R_reads' HO259.out).2.2 | (with_reducible refine Kd.C_alloc ?_ _) | (with_reducible refine Kd.C_drewN ?_ _) | (with_reducible refine Kd.C_drew ?_))); (case side2 => exact (Kd.R_reads' HO259.out).2.1); rintro e w34 ⟨v262, rfl, ho0, hb⟩; refine ⟨_, rfl, ?_⟩; have n0_ := Aside0.mk (Kd.R_elder' (zq3 HO259) (Kd.R_base ho0) hb); have n0F_ := Aside0.mk (Kd.R_elder' (zq3 HO259F) (Kd.R_base ho0) hb); have n1_ := Aside0.mk (Kd.R_lower (Kd.R_new' ho0 (Kd.R_lt (zq3 HO259))) (below_size (zb0 HB))); have n2_ := Aside0.mk (below_step (zb0 HB) hb); clear HO259 HO259F; clear HB; have HO259 := n0_; have HO259F := n0F_; have HO263 := n1_; have HB := n2_; clear n0_ n1_ n2_ n0F_; (try clear hb); (try clear hb2); (try clear hk); (try clear hi); (try clear ho0)) | ((with_reducible refine gate_callee (f := 17) rfl ?_); refine goesL_ (some 32) rfl rfl Try.func17 (by kernel_rfl) rfl #[.slice A0 l0.length c0, .bool false] rfl zq6 ?_; (with_reducible refine (laws_toTermS.calls k _ _ l0 false t264 _ ?side1 ?side2 A8.out).mono ?_); (case side1 => repeat (first | exact (Kd.C_below HR0.out HB.out) | (with_reducible refine Kd.C_alloc ?_ _) | (with_reducible refine Kd.C_drewN ?_ _) | (with_reducible refine Kd.C_drew ?_))); (case side2 => exact HC0.out); rintro e w35 ⟨v265, rfl, ho0, hb, ho0F⟩; refine ⟨_, rfl, ?_⟩; have n0_ := Aside0.mk (Kd.R_elder' (zq3 HO263) (Kd.R_base ho0) hb); have n1_ := Aside0.mk (Kd.R_lower (Kd.R_new' ho0 (Kd.R_lt (zq3 HO263))) (below_size (zb0 HB))); have n1F_ := Aside0.mk (Kd.R_lower (Kd.R_new' ho0F (Kd.R_lt (zq3 HO263))) (below_size (zb0 HB))); have n2_ := Aside0.mk (below_step (zb0 HB) hb); clear HO263; clear HB; have HO263 := n0_; have HO266 := n1_; have HO266F := n1F_; have HB := n2_; clear n0_ n1_ n2_ n1F_; (try clear hb); (try clear hb2); (try clear hk); (try clear hi); (try clear ho0); (try clear ho0F); obtain ⟨Ao36, co36, eo36⟩ := Kd.R_slice HO266.out; subst eo36) | ((with_reducible refine gate_callee (f := 48) rfl ?_); refine goesL_ (some 37) rfl rfl Try.func48 (by kernel_rfl) rfl #[.slice Ao36 t264.length co36, .int .i64 a1, .int .i64 a2] rfl zq6 ?_; (with_reducible refine (impl_PutInteger.calls k _ _ t264 a1 a2 t267 t268 _ ?side1 ?side2 A9.out).mono ?_); (case side1 => repeat (first | exact (Kd.R_reads' HO266.out).2.2 | (with_reducible refine Kd.C_alloc ?_ _) | (with_reducible refine Kd.C_drewN ?_ _) | (with_reducible refine Kd.C_drew ?_))); (case side2 => exact (Kd.R_reads' HO266.out).2.1); rintro e w37 ⟨v269, rfl, ho0, hb⟩; refine ⟨_, rfl, ?_⟩; have n0_ := Aside0.mk (Kd.R_elder' (zq3 HO263) (Kd.R_base ho0) hb); have n1_ := Aside0.mk (Kd.R_elder' (zq3 HO266) (Kd.R_base ho0) hb); have n1F_ := Aside0.mk (Kd.R_elder' (zq3 HO266F) (Kd.R_base ho0) hb); have n2_ := Aside0.mk (Kd.R_lower (Kd.R_new' (Kd.R_new' ho0 (Kd.R_lt (zq3 HO263))) (Kd.R_lt (zq3 HO266))) (below_size (zb0 HB))); have n3_ := Aside0.mk (below_step (zb0 HB) hb); clear HO263; clear HO266 HO266F; clear HB; have HO263 := n0_; have HO266 := n1_; have HO266F := n1F_; have HO270 := n2_; have HB := n3_; clear n0_ n1_ n2_ n3_ n1F_; (try clear hb); (try clear hb2); (try clear hk); (try clear hi); (try clear ho0); obtain ⟨Ao38, co38, eo38⟩ := Kd.R_slice HO270.out; subst eo38; obtain ⟨Ao39, co39, eo39⟩ := Kd.R_slice HO263.out; subst eo39) | ((with_reducible refine gate_callee (f := 26) rfl ?_); refine goesL_ (some 42) rfl rfl Try.func26 (by kernel_rfl) rfl #[.slice Ao38 t267.length co38, .slice Ao39 t260.length co39] rfl zq6 ?_; (with_reducible refine (laws_eqTermS.calls k _ _ t267 _ _ t260 true _ ?side1 ?side2 ?side3 ?side4 A10.out).mono ?_); (case side1 => repeat (first | exact (Kd.R_reads' HO270.out).2.2 | (with_reducible refine Kd.C_alloc ?_ _) | (with_reducible refine Kd.C_drewN ?_ _) | (with_reducible refine Kd.C_drew ?_))); (case side2 => exact (Kd.R_reads' HO270.out).2.1); (case side3 => repeat (first | exact (Kd.R_reads' HO263.out).2.2 | (with_reducible refine Kd.C_alloc ?_ _) | (with_reducible refine Kd.C_drewN ?_ _) | (with_reducible refine Kd.C_drew ?_))); (case side4 => exact (Kd.R_reads' HO263.out).2.1); rintro e w40 ⟨rfl, hb⟩; refine ⟨_, rfl, ?_⟩; have n0_ := Aside0.mk (Kd.R_below (zq3 HO263) hb); have n1_ := Aside0.mk (Kd.R_below (zq3 HO266) hb); have n1F_ := Aside0.mk (Kd.R_below (zq3 HO266F) hb); have n2_ := Aside0.mk (Kd.R_below (zq3 HO270) hb); have n3_ := Aside0.mk (below_step (zb0 HB) hb); clear HO263; clear HO266 HO266F; clear HO270; clear HB; have HO263 := n0_; have HO266 := n1_; have HO266F := n1F_; have HO270 := n2_; have HB := n3_; clear n0_ n1_ n2_ n3_ n1F_; (try clear hb); (try clear hb2); (try clear hk); (try clear hi)) | ((with_reducible refine gate_callee (f := 17) rfl ?_); refine goesL_ (some 51) rfl rfl Try.func17 (by kernel_rfl) rfl #[.slice A0 l0.length c0, .bool false] rfl zq6 ?_; (with_reducible refine (laws_toTermS.calls k _ _ l0 false t272 _ ?side1 ?side2 A13.out).mono ?_); (case side1 => repeat (first | exact (Kd.C_below HR0.out HB.out) | (with_reducible refine Kd.C_alloc ?_ _) | (with_reducible refine Kd.C_drewN ?_ _) | (with_reducible refine Kd.C_drew ?_))); (case side2 => exact HC0.out); rintro e w41 ⟨v273, rfl, ho0, hb, ho0F⟩; refine ⟨_, rfl, ?_⟩; have n0_ := Aside0.mk (Kd.R_elder' (zq3 HO263) (Kd.R_base ho0) hb); have n1_ := Aside0.mk (Kd.R_elder' (zq3 HO266) (Kd.R_base ho0) hb); have n1F_ := Aside0.mk (Kd.R_elder' (zq3 HO266F) (Kd.R_base ho0) hb); have n2_ := Aside0.mk (Kd.R_elder' (zq3 HO270) (Kd.R_base ho0) hb); have n3_ := Aside0.mk (Kd.R_lower (Kd.R_new' (Kd.R_new' (Kd.R_new' ho0 (Kd.R_lt (zq3 HO263))) (Kd.R_lt (zq3 HO266))) (Kd.R_lt (zq3 HO270))) (below_size (zb0 HB))); have n3F_ := Aside0.mk (Kd.R_lower (Kd.R_new' (Kd.R_new' (Kd.R_new' ho0F (Kd.R_lt (zq3 HO263))) (Kd.R_lt (zq3 HO266))) (Kd.R_lt (zq3 HO270))) (below_size (zb0 HB))); have n4_ := Aside0.mk (below_step (zb0 HB) hb); clear HO263; clear HO266 HO266F; clear HO270; clear HB; have HO263 := n0_; have HO266 := n1_; have HO266F := n1F_; have HO270 := n2_; have HO274 := n3_; have HO274F := n3F_; have HB := n4_; clear n0_ n1_ n2_ n3_ n4_ n1F_ n3F_; (try clear hb); (try clear hb2); (try clear hk); (try clear hi); (try clear ho0); (try clear ho0F); obtain ⟨Ao42, co42, eo42⟩ := Kd.R_slice HO274.out; subst eo42) | ((with_reducible refine gate_callee (f := 19) rfl ?_); refine goesL_ (some 52) rfl rfl Try.func19 (by kernel_rfl) rfl #[.slice Ao36 t264.length co36, .slice Ao42 t272.length co42] rfl zq6 ?_; (with_reducible refine (laws_intactTermS.calls _ _ t264 _ _ t272 true _ ?side1 ?side2 ?side3 ?side4 A14.out ?sideF1 ?sideF2 ?sideF3 ?sideF4).mono ?_); (case side1 => repeat (first | exact (Kd.R_reads' HO266.out).2.2 | (with_reducible refine Kd.C_alloc ?_ _) | (with_reducible refine Kd.C_drewN ?_ _) | (with_reducible refine Kd.C_drew ?_))); (case side2 => exact (Kd.R_reads' HO266.out).2.1); (case side3 => repeat (first | exact (Kd.R_reads' HO274.out).2.2 | (with_reducible refine Kd.C_alloc ?_ _) | (with_reducible refine Kd.C_drewN ?_ _) | (with_reducible refine Kd.C_drew ?_))); (case side4 => exact (Kd.R_reads' HO274.out).2.1); (case sideF1 => repeat (first | exact (Kd.R_reads' HO266F.out).2.2 | (with_reducible refine Kd.C_alloc ?_ _) | (with_reducible refine Kd.C_drewN ?_ _) | (with_reducible refine Kd.C_drew ?_))); (case sideF2 => exact (Kd.R_reads' HO266F.out).2.1); (case sideF3 => repeat (first | exact (Kd.R_reads' HO274F.out).2.2 | (with_reducible refine Kd.C_alloc ?_ _) | (with_reducible refine Kd.C_drewN ?_ _) | (with_reducible refine Kd.C_drew ?_))); (case sideF4 => exact (Kd.R_reads' HO274F.out).2.1); rintro e w43 ⟨rfl, hb⟩; refine ⟨_, rfl, ?_⟩; have n0_ := Aside0.mk (Kd.R_below (zq3 HO263) hb); have n1_ := Aside0.mk (Kd.R_below (zq3 HO266) hb); have n1F_ := Aside0.mk (Kd.R_below (zq3 HO266F) hb); have n2_ := Aside0.mk (Kd.R_below (zq3 HO270) hb); have n3_ := Aside0.mk (Kd.R_below (zq3 HO274) hb); have n3F_ := Aside0.mk (Kd.R_below (zq3 HO274F) hb); have n4_ := Aside0.mk (below_step (zb0 HB) hb); clear HO263; clear HO266 HO266F; clear HO270; clear HO274 HO274F; clear HB; have HO263 := n0_; have HO266 := n1_; have HO266F := n1F_; have HO270 := n2_; have HO274 := n3_; have HO274F := n3F_; have HB := n4_; clear n0_ n1_ n2_ n3_ n4_ n1F_ n3F_; (try clear hb); (try clear hb2); (try clear hk); (try clear hi)) | ((with_reducible refine gate_callee (f := 27) rfl ?_); refine goesL_ (some 56) rfl rfl Try.func27 (by kernel_rfl) rfl #[.slice Ao36 t264.length co36, .int .i64 101] rfl zq6 ?_; (with_reducible refine (laws_markTermS.calls k (fun k_ => some k_ = (.slice Ao36 t264.length co36 : Value).ownBlock) (.slice Ao36 t264.length co36) t264 101 t276 t277 w _ ?side1 ?side2 A16.out).mono ?_); (case side1 => exact zb0 HB); (case side2 => exact Kd.R_tight rfl HO266.out); rintro e w44 ⟨rfl, hy0, hb, hkp⟩; refine ⟨_, rfl, ?_⟩; have n0_ := Aside0.mk (Kd.R_mono (ok' := fun k_ => some k_ ≠ (.slice Ao36 t264.length co36 : Value).ownBlock ∧ some k_ ≠ (.slice Ao38 t267.length co38 : Value).ownBlock) (Kd.R_keptB (HO263.out) hkp (fun k_ hk_ hs_ => (hk_.1.1.2) hs_)) (fun k_ hk_ => ⟨hk_.1.1.1.2, hk_.1.1.2⟩)); have n1_ := Aside0.mk (Kd.R_reok rfl hy0 (fun k_ e_ => HO266.out.1 k_ e_)); have n2_ := Aside0.mk (Kd.R_mono (ok' := fun k_ => some k_ ≠ (.slice Ao39 t260.length co39 : Value).ownBlock ∧ some k_ ≠ (.slice Ao36 t264.length co36 : Value).ownBlock) (Kd.R_keptB (HO270.out) hkp (fun k_ hk_ hs_ => (hk_.1.2) hs_)) (fun k_ hk_ => ⟨hk_.1.1.1.2, hk_.1.1.2⟩)); have n3_ := Aside0.mk (hb); clear HO263; clear HO266 HO266F; clear HO270; clear HB; have HO263 := n0_; have HO266 := n1_; have HO270 := n2_; have HB := n3_; clear n0_ n1_ n2_ n3_; (try clear hb); (try clear hkp); (try clear hy0)) | (go_at_call 26; (with_reducible refine (laws_eqTermS.calls k _ _ t267 _ _ t260 true _ ?side1 ?side2 ?side3 ?side4 A18.out).mono ?_); (case side1 => repeat (first | exact (Kd.R_reads' HO270.out).2.2 | (with_reducible refine Kd.C_alloc ?_ _) | (with_reducible refine Kd.C_drewN ?_ _) | (with_reducible refine Kd.C_drew ?_))); (case side2 => exact (Kd.R_reads' HO270.out).2.1); (case side3 => repeat (first | exact (Kd.R_reads' HO263.out).2.2 | (with_reducible refine Kd.C_alloc ?_ _) | (with_reducible refine Kd.C_drewN ?_ _) | (with_reducible refine Kd.C_drew ?_))); (case side4 => exact (Kd.R_reads' HO263.out).2.1); rintro e w45 ⟨rfl, hb⟩; replace HO263 := Aside0.mk (Kd.R_below (zq3 HO263) hb); replace HO270 := Aside0.mk (Kd.R_below (zq3 HO270) hb); replace HB := Aside0.mk (below_step (zb0 HB) hb); (try clear hb); (try clear hb2); (try clear hk); (try clear hi)) | ((with_reducible refine gate_callee (f := 27) rfl ?_); refine goesL_ (some 72) rfl rfl Try.func27 (by kernel_rfl) rfl #[.slice Ao38 t267.length co38, .int .i64 101] rfl zq6 ?_; (with_reducible refine (laws_markTermS.calls k (fun k_ => some k_ = (.slice Ao38 t267.length co38 : Value).ownBlock) (.slice Ao38 t267.length co38) t267 101 t279 t280 w _ ?side1 ?side2 A20.out).mono ?_); (case side1 => exact zb0 HB); (case side2 => exact Kd.R_tight rfl HO270.out); rintro e w46 ⟨rfl, hy0, hb, hkp⟩; refine ⟨_, rfl, ?_⟩; replace HO263 := Aside0.mk (Kd.R_mono (ok' := fun k_ => some k_ ≠ (.slice Ao38 t267.length co38 : Value).ownBlock) (Kd.R_keptB (HO263.out) hkp (fun k_ hk_ hs_ => (hk_.2) hs_)) (fun k_ hk_ => hk_.1.2)); replace HO270 := Aside0.mk (Kd.R_reok rfl hy0 (fun k_ e_ => HO270.out.1 k_ e_)); replace HB := Aside0.mk (hb); (try clear hb); (try clear hkp); (try clear hy0)) | ((with_reducible refine gate_callee (f := 28) rfl ?_); refine goesL_ (some 75) rfl rfl Try.func28 (by kernel_rfl) rfl #[.slice Ao38 t280.length co38, .int .i64 101] rfl (by (try simp only [List.map_toArray, List.map_cons, List.map_nil]); first | done | (rw [show t280.length = t267.length from (Kd.R_reads' HO270.out).1.symm] <;> rfl) | rfl | (simp only [List.length_drop, List.length_take]; rfl)) ?_; (with_reducible refine (laws_heldTermS.calls k _ _ t280 101 t281 _ ?side1 ?side2 A21.out).mono ?_); (case side1 => repeat (first | exact (Kd.R_reads' HO270.out).2.2 | (with_reducible refine Kd.C_alloc ?_ _) | (with_reducible refine Kd.C_drewN ?_ _) | (with_reducible refine Kd.C_drew ?_))); (case side2 => rw [show t280.length = t267.length from (Kd.R_reads' HO270.out).1.symm]; exact (Kd.R_reads' HO270.out).2.1); rintro e w' ⟨rfl, ⟨nd, rfl⟩⟩; refine ⟨_, rfl, ?_⟩) | ((with_reducible refine gate_callee (f := 17) rfl ?_); refine goesL_ (some 83) rfl rfl Try.func17 (by kernel_rfl) rfl #[.slice A0 l0.length c0, .bool true] rfl zq6 ?_; (with_reducible refine (laws_toTermS.calls k _ _ l0 true t282 _ ?side1 ?side2 A24.out).mono ?_); (case side1 => repeat (first | exact (Kd.C_below HR0.out (zb0 HB)) | (with_reducible refine Kd.C_alloc ?_ _) | (with_reducible refine Kd.C_drewN ?_ _) | (with_reducible refine Kd.C_drew ?_))); (case side2 => exact HC0.out); rintro e w47 ⟨v283, rfl, ho0, hb, ho0F⟩; refine ⟨_, rfl, ?_⟩; have n0_ := Aside0.mk (Kd.R_elder' (zq3 HO263) (Kd.R_base ho0) hb); have n1_ := Aside0.mk (Kd.R_elder' (zq3 HO270) (Kd.R_base ho0) hb); have n2_ := Aside0.mk (Kd.R_lower (Kd.R_new' (Kd.R_new' ho0 (Kd.R_lt (zq3 HO263))) (Kd.R_lt (zq3 HO270))) (below_size (zb0 HB))); have n2F_ := Aside0.mk (Kd.R_lower (Kd.R_new' (Kd.R_new' ho0F (Kd.R_lt (zq3 HO263))) (Kd.R_lt (zq3 HO270))) (below_size (zb0 HB))); have n3_ := Aside0.mk (below_step (zb0 HB) hb); clear HO263; clear HO270; clear HB; have HO263 := n0_; have HO270 := n1_; have HO284 := n2_; have HO284F := n2F_; have HB := n3_; clear n0_ n1_ n2_ n3_ n2F_; (try clear hb); (try clear hb2); (try clear hk); (try clear hi); (try clear ho0); (try clear ho0F); obtain ⟨Ao48, co48, eo48⟩ := Kd.R_slice HO284.out; subst eo48) | ((with_reducible refine gate_callee (f := 48) rfl ?_); refine goesL_ (some 86) rfl rfl Try.func48 (by kernel_rfl) rfl #[.slice Ao48 t282.length co48, .int .i64 a1, .int .i64 a2] rfl zq6 ?_; (with_reducible refine (impl_PutInteger.calls k _ _ t282 a1 a2 t285 t286 _ ?side1 ?side2 A25.out).mono ?_); (case side1 => repeat (first | exact (Kd.R_reads' HO284.out).2.2 | (with_reducible refine Kd.C_alloc ?_ _) | (with_reducible refine Kd.C_drewN ?_ _) | (with_reducible refine Kd.C_drew ?_))); (case side2 => exact (Kd.R_reads' HO284.out).2.1); rintro e w49 ⟨v287, rfl, ho0, hb⟩; refine ⟨_, rfl, ?_⟩; have n0_ := Aside0.mk (Kd.R_elder' (zq3 HO263) (Kd.R_base ho0) hb); have n1_ := Aside0.mk (Kd.R_elder' (zq3 HO270) (Kd.R_base ho0) hb); have n2_ := Aside0.mk (Kd.R_elder' (zq3 HO284) (Kd.R_base ho0) hb); have n2F_ := Aside0.mk (Kd.R_elder' (zq3 HO284F) (Kd.R_base ho0) hb); have n3_ := Aside0.mk (Kd.R_lower (Kd.R_new' (Kd.R_new' (Kd.R_new' ho0 (Kd.R_lt (zq3 HO263))) (Kd.R_lt (zq3 HO270))) (Kd.R_lt (zq3 HO284))) (below_size (zb0 HB))); have n4_ := Aside0.mk (below_step (zb0 HB) hb); clear HO263; clear HO270; clear HO284 HO284F; clear HB; have HO263 := n0_; have HO270 := n1_; have HO284 := n2_; have HO284F := n2F_; have HO288 := n3_; have HB := n4_; clear n0_ n1_ n2_ n3_ n4_ n2F_; (try clear hb); (try clear hb2); (try clear hk); (try clear hi); (try clear ho0); obtain ⟨Ao50, co50, eo50⟩ := Kd.R_slice HO288.out; subst eo50) | ((with_reducible refine gate_callee (f := 26) rfl ?_); refine goesL_ (some 91) rfl rfl Try.func26 (by kernel_rfl) rfl #[.slice Ao50 t285.length co50, .slice Ao39 t260.length co39] rfl zq6 ?_; (with_reducible refine (laws_eqTermS.calls k _ _ t285 _ _ t260 true _ ?side1 ?side2 ?side3 ?side4 A26.out).mono ?_); (case side1 => repeat (first | exact (Kd.R_reads' HO288.out).2.2 | (with_reducible refine Kd.C_alloc ?_ _) | (with_reducible refine Kd.C_drewN ?_ _) | (with_reducible refine Kd.C_drew ?_))); (case side2 => exact (Kd.R_reads' HO288.out).2.1); (case side3 => repeat (first | exact (Kd.R_reads' HO263.out).2.2 | (with_reducible refine Kd.C_alloc ?_ _) | (with_reducible refine Kd.C_drewN ?_ _) | (with_reducible refine Kd.C_drew ?_))); (case side4 => exact (Kd.R_reads' HO263.out).2.1); rintro e w51 ⟨rfl, hb⟩; refine ⟨_, rfl, ?_⟩; replace HO263 := Aside0.mk (Kd.R_below (zq3 HO263) hb); replace HO270 := Aside0.mk (Kd.R_below (zq3 HO270) hb); replace HO288 := Aside0.mk (Kd.R_below (zq3 HO288) hb); replace HB := Aside0.mk (below_step (zb0 HB) hb); (try clear hb); (try clear hb2); (try clear hk); (try clear hi)) | ((with_reducible refine gate_callee (f := 28) rfl ?_); refine goesL_ (some 100) rfl rfl Try.func28 (by kernel_rfl) rfl #[.slice Ao38 t280.length co38, .int .i64 101] rfl (by (try simp only [List.map_toArray, List.map_cons, List.map_nil]); first | done | (rw [show t280.length = t267.length from (Kd.R_reads' HO270.out).1.symm] <;> rfl) | rfl | (simp only [List.length_drop, List.length_take]; rfl)) ?_; (with_reducible refine (laws_heldTermS.calls k _ _ t280 101 t290 _ ?side1 ?side2 A29.out).mono ?_); (case side1 => repeat (first | exact (Kd.R_reads' HO270.out).2.2 | (with_reducible refine Kd.C_alloc ?_ _) | (with_reducible refine Kd.C_drewN ?_ _) | (with_reducible refine Kd.C_drew ?_))); (case side2 => rw [show t280.length = t267.length from (Kd.R_reads' HO270.out).1.symm]; exact (Kd.R_reads' HO270.out).2.1); rintro e w' ⟨rfl, ⟨nd, rfl⟩⟩; refine ⟨_, rfl, ?_⟩))
             go_ret
             exact ⟨by first | rfl | (simp [errW_none, errW_some] <;> rfl) | (simp [*, errW_none, errW_some] <;> rfl), (zb0 HB)⟩
            ·
             rw [if_neg c31] at H
             exact absurd H (by simp)
         ·
          replace c27 := Bool.eq_false_iff.mpr c27
          subst c27
          have H1 : (none) = some r := by rw [if_neg (show ¬ (false = true) by decide)] at H; exact H
          clear H
          have H := H1
          clear H1
          exact absurd H (by simp)
        ·
         rw [if_neg c23] at H
         exact absurd H (by simp)
      ·
       replace c19 := Bool.eq_false_iff.mpr c19
       subst c19
       have H1 : (none) = some r := by rw [if_neg (show ¬ (false = true) by decide)] at H; exact H
       clear H
       have H := H1
       clear H1
       exact absurd H (by simp)
    ·
     replace c15 := Bool.eq_false_iff.mpr c15
     subst c15
     have H1 : (none) = some r := by rw [if_neg (show ¬ (false = true) by decide)] at H; exact H
     clear H
     have H := H1
     clear H1
     exact absurd H (by simp)
  ·
   replace c11 := Bool.eq_false_iff.mpr c11
   subst c11
   have H1 : (none) = some r := by rw [if_neg (show ¬ (false = true) by decide)] at H; exact H
   clear H
   have H := H1
   clear H1
   exact absurd H (by simp)
end Go.Proofs.Ytfnmppeoleicbaa.PD
