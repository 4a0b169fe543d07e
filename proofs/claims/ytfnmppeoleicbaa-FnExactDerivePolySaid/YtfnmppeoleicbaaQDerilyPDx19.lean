-- By wip/mk/drv.py
import Derived.Test.YtfnmppeoleicbaaQDerilyPDx0
import Derived.Test.YtfnmppeoleicbaaQDerilyPDx1
import Derived.Test.YtfnmppeoleicbaaQDerilyPDx2
import Derived.Test.YtfnmppeoleicbaaQDerilyPDx4
import Derived.Test.YtfnmppeoleicbaaQDerilyPDx5
import Derived.Test.YtfnmppeoleicbaaQDerilyPDx6
import Derived.Test.YtfnmppeoleicbaaQDerilyPDx7
import Derived.Test.YtfnmppeoleicbaaQDerilyPDx12
import Derived.Test.YtfnmppeoleicbaaQDerilyPDx18
namespace Go.Proofs.Ytfnmppeoleicbaa.PD
open Go.RowKit Go.Proofs.YtfnmppeoleicbaaW.PrintWords Go.Proofs.YtfnmppeoleicbaaW.PrintLast Go.Proofs.YtfnmppeoleicbaaW.PrintMore
attribute [local go_sem] max2_int min2_int max_two min_two max_three min_three max_four min_four
set_option linter.unusedVariables false
set_option linter.unusedSimpArgs false
/-! ### laws_FnExactDerivePoly: function 14 -/
set_option maxHeartbeats 8000000 in
set_option maxRecDepth 100000 in
theorem laws_FnExactDerivePoly.calls (k : Nat) (A0 : Option Addr) (c0 : Nat) (l0 : List (S57)) (a1 : Int) (r : Bool) (w : World) (hr0 : Kd.C k57 w A0 l0.length l0) (hc0 : l0.length ≤ c0) (h : laws_FnExactDerivePoly.f k l0 a1 = some r) :
  Calls Try.prog 14 #[.slice A0 l0.length c0, .int .i64 a1] w fun e w' => e = .returned (.bool r) ∧ Below w.heap.size w w' := by
 have HR0 := Aside0.mk hr0
 have HC0 := Aside0.mk hc0
 clear hr0 hc0
 have HB := Aside0.mk (Below.refl w.heap.size w)
 have H : ((laws_szTermS.f l0 1000000).bind fun t268 => (if t268 < 0 then (some true) else ((laws_toTermS.f k l0 false).bind fun t269 => ((spec_DerivePoly.f k t269 a1).bind fun bt272 => ((laws_toTermS.f k l0 false).bind fun t276 => ((impl_DerivePoly.f k t276 a1).bind fun bt279 => ((laws_eqTermS.f k bt279.1 bt272.1).bind fun t283 => (if t283 = true then (if (bt279.2 != bt272.2) = true then (none) else ((laws_toTermS.f k l0 false).bind fun t284 => ((laws_intactTermS.f t276 t284).bind fun t287 => (if t287 = true then ((laws_markTermS.f k t276 101).bind fun bt288 => (if bt288.1 < 0 then (none) else ((laws_eqTermS.f k bt279.1 bt272.1).bind fun t290 => (if t290 = true then ((laws_markTermS.f k bt279.1 101).bind fun bt291 => ((laws_heldTermS.f k bt291.2 101).bind fun t293 => (if t293 < 0 then (none) else (if t293 = bt291.1 then ((laws_toTermS.f k l0 true).bind fun t294 => ((impl_DerivePoly.f k t294 a1).bind fun bt297 => ((laws_eqTermS.f k bt297.1 bt272.1).bind fun t301 => (if t301 = true then (if (bt297.2 != bt272.2) = true then (none) else ((laws_heldTermS.f k bt291.2 101).bind fun t302 => (if t302 < 0 then (none) else (if t302 = bt291.1 then (some true) else (none))))) else (none))))) else (none))))) else (none))))) else (none))))) else (none))))))))) = some r := h
 clear h
 replace H := Option.bind_eq_some_iff.mp H
 obtain ⟨t268, A30, H⟩ := H
 replace H : (if t268 < 0 then (some true) else ((laws_toTermS.f k l0 false).bind fun t269 => ((spec_DerivePoly.f k t269 a1).bind fun bt272 => ((laws_toTermS.f k l0 false).bind fun t276 => ((impl_DerivePoly.f k t276 a1).bind fun bt279 => ((laws_eqTermS.f k bt279.1 bt272.1).bind fun t283 => (if t283 = true then (if (bt279.2 != bt272.2) = true then (none) else ((laws_toTermS.f k l0 false).bind fun t284 => ((laws_intactTermS.f t276 t284).bind fun t287 => (if t287 = true then ((laws_markTermS.f k t276 101).bind fun bt288 => (if bt288.1 < 0 then (none) else ((laws_eqTermS.f k bt279.1 bt272.1).bind fun t290 => (if t290 = true then ((laws_markTermS.f k bt279.1 101).bind fun bt291 => ((laws_heldTermS.f k bt291.2 101).bind fun t293 => (if t293 < 0 then (none) else (if t293 = bt291.1 then ((laws_toTermS.f k l0 true).bind fun t294 => ((impl_DerivePoly.f k t294 a1).bind fun bt297 => ((laws_eqTermS.f k bt297.1 bt272.1).bind fun t301 => (if t301 = true then (if (bt297.2 != bt272.2) = true then (none) else ((laws_heldTermS.f k bt291.2 101).bind fun t302 => (if t302 < 0 then (none) else (if t302 = bt291.1 then (some true) else (none))))) else (none))))) else (none))))) else (none))))) else (none))))) else (none)))))))) = some r := H
 have A3 := Aside0.mk A30
 clear A30
 by_cases c4 : t268 < 0
 ·
  rw [if_pos c4] at H
  have c4b0 : decide (t268 < 0) = true := decide_eq_true c4
  clear c4
  obtain rfl := Option.some.inj H
  go_enter Try.func14, Try.ntmps14
  go_wp2_with (first | ((with_reducible refine gate_callee (f := 15) rfl ?_); refine goesL_ (some 18) rfl rfl Try.func15 (by kernel_rfl) rfl #[.slice A0 l0.length c0, .int .i64 1000000] rfl zq6 ?_; (with_reducible refine (laws_szTermS.calls _ _ l0 1000000 t268 _ ?side1 ?side2 A3.out).mono ?_); (case side1 => repeat (first | exact HR0.out | (with_reducible refine Kd.C_alloc ?_ _) | (with_reducible refine Kd.C_drewN ?_ _) | (with_reducible refine Kd.C_drew ?_))); (case side2 => exact HC0.out); rintro e w' ⟨rfl, ⟨nd, rfl⟩⟩; refine ⟨_, rfl, ?_⟩))
  go_ret
  exact ⟨by first | rfl | (simp [errW_none, errW_some] <;> rfl) | (simp [*, errW_none, errW_some] <;> rfl), (zb0 HB)⟩
 ·
  rw [if_neg c4] at H
  have c4b0 : decide (t268 < 0) = false := decide_eq_false c4
  clear c4
  replace H := Option.bind_eq_some_iff.mp H
  obtain ⟨t269, A50, H⟩ := H
  replace H : ((spec_DerivePoly.f k t269 a1).bind fun bt272 => ((laws_toTermS.f k l0 false).bind fun t276 => ((impl_DerivePoly.f k t276 a1).bind fun bt279 => ((laws_eqTermS.f k bt279.1 bt272.1).bind fun t283 => (if t283 = true then (if (bt279.2 != bt272.2) = true then (none) else ((laws_toTermS.f k l0 false).bind fun t284 => ((laws_intactTermS.f t276 t284).bind fun t287 => (if t287 = true then ((laws_markTermS.f k t276 101).bind fun bt288 => (if bt288.1 < 0 then (none) else ((laws_eqTermS.f k bt279.1 bt272.1).bind fun t290 => (if t290 = true then ((laws_markTermS.f k bt279.1 101).bind fun bt291 => ((laws_heldTermS.f k bt291.2 101).bind fun t293 => (if t293 < 0 then (none) else (if t293 = bt291.1 then ((laws_toTermS.f k l0 true).bind fun t294 => ((impl_DerivePoly.f k t294 a1).bind fun bt297 => ((laws_eqTermS.f k bt297.1 bt272.1).bind fun t301 => (if t301 = true then (if (bt297.2 != bt272.2) = true then (none) else ((laws_heldTermS.f k bt291.2 101).bind fun t302 => (if t302 < 0 then (none) else (if t302 = bt291.1 then (some true) else (none))))) else (none))))) else (none))))) else (none))))) else (none))))) else (none)))))) = some r := H
  have A5 := Aside0.mk A50
  clear A50
  replace H := Option.bind_eq_some_iff.mp H
  obtain ⟨⟨t272, t273⟩, A60, H⟩ := H
  replace H : ((laws_toTermS.f k l0 false).bind fun t276 => ((impl_DerivePoly.f k t276 a1).bind fun bt279 => ((laws_eqTermS.f k bt279.1 t272).bind fun t283 => (if t283 = true then (if (bt279.2 != t273) = true then (none) else ((laws_toTermS.f k l0 false).bind fun t284 => ((laws_intactTermS.f t276 t284).bind fun t287 => (if t287 = true then ((laws_markTermS.f k t276 101).bind fun bt288 => (if bt288.1 < 0 then (none) else ((laws_eqTermS.f k bt279.1 t272).bind fun t290 => (if t290 = true then ((laws_markTermS.f k bt279.1 101).bind fun bt291 => ((laws_heldTermS.f k bt291.2 101).bind fun t293 => (if t293 < 0 then (none) else (if t293 = bt291.1 then ((laws_toTermS.f k l0 true).bind fun t294 => ((impl_DerivePoly.f k t294 a1).bind fun bt297 => ((laws_eqTermS.f k bt297.1 t272).bind fun t301 => (if t301 = true then (if (bt297.2 != t273) = true then (none) else ((laws_heldTermS.f k bt291.2 101).bind fun t302 => (if t302 < 0 then (none) else (if t302 = bt291.1 then (some true) else (none))))) else (none))))) else (none))))) else (none))))) else (none))))) else (none))))) = some r := H
  have A6 := Aside0.mk A60
  clear A60
  replace H := Option.bind_eq_some_iff.mp H
  obtain ⟨t276, A70, H⟩ := H
  replace H : ((impl_DerivePoly.f k t276 a1).bind fun bt279 => ((laws_eqTermS.f k bt279.1 t272).bind fun t283 => (if t283 = true then (if (bt279.2 != t273) = true then (none) else ((laws_toTermS.f k l0 false).bind fun t284 => ((laws_intactTermS.f t276 t284).bind fun t287 => (if t287 = true then ((laws_markTermS.f k t276 101).bind fun bt288 => (if bt288.1 < 0 then (none) else ((laws_eqTermS.f k bt279.1 t272).bind fun t290 => (if t290 = true then ((laws_markTermS.f k bt279.1 101).bind fun bt291 => ((laws_heldTermS.f k bt291.2 101).bind fun t293 => (if t293 < 0 then (none) else (if t293 = bt291.1 then ((laws_toTermS.f k l0 true).bind fun t294 => ((impl_DerivePoly.f k t294 a1).bind fun bt297 => ((laws_eqTermS.f k bt297.1 t272).bind fun t301 => (if t301 = true then (if (bt297.2 != t273) = true then (none) else ((laws_heldTermS.f k bt291.2 101).bind fun t302 => (if t302 < 0 then (none) else (if t302 = bt291.1 then (some true) else (none))))) else (none))))) else (none))))) else (none))))) else (none))))) else (none)))) = some r := H
  have A7 := Aside0.mk A70
  clear A70
  replace H := Option.bind_eq_some_iff.mp H
  obtain ⟨⟨t279, t280⟩, A80, H⟩ := H
  replace H : ((laws_eqTermS.f k t279 t272).bind fun t283 => (if t283 = true then (if (t280 != t273) = true then (none) else ((laws_toTermS.f k l0 false).bind fun t284 => ((laws_intactTermS.f t276 t284).bind fun t287 => (if t287 = true then ((laws_markTermS.f k t276 101).bind fun bt288 => (if bt288.1 < 0 then (none) else ((laws_eqTermS.f k t279 t272).bind fun t290 => (if t290 = true then ((laws_markTermS.f k t279 101).bind fun bt291 => ((laws_heldTermS.f k bt291.2 101).bind fun t293 => (if t293 < 0 then (none) else (if t293 = bt291.1 then ((laws_toTermS.f k l0 true).bind fun t294 => ((impl_DerivePoly.f k t294 a1).bind fun bt297 => ((laws_eqTermS.f k bt297.1 t272).bind fun t301 => (if t301 = true then (if (bt297.2 != t273) = true then (none) else ((laws_heldTermS.f k bt291.2 101).bind fun t302 => (if t302 < 0 then (none) else (if t302 = bt291.1 then (some true) else (none))))) else (none))))) else (none))))) else (none))))) else (none))))) else (none))) = some r := H
  have A8 := Aside0.mk A80
  clear A80
  replace H := Option.bind_eq_some_iff.mp H
  obtain ⟨t283, A90, H⟩ := H
  replace H : (if t283 = true then (if (t280 != t273) = true then (none) else ((laws_toTermS.f k l0 false).bind fun t284 => ((laws_intactTermS.f t276 t284).bind fun t287 => (if t287 = true then ((laws_markTermS.f k t276 101).bind fun bt288 => (if bt288.1 < 0 then (none) else ((laws_eqTermS.f k t279 t272).bind fun t290 => (if t290 = true then ((laws_markTermS.f k t279 101).bind fun bt291 => ((laws_heldTermS.f k bt291.2 101).bind fun t293 => (if t293 < 0 then (none) else (if t293 = bt291.1 then ((laws_toTermS.f k l0 true).bind fun t294 => ((impl_DerivePoly.f k t294 a1).bind fun bt297 => ((laws_eqTermS.f k bt297.1 t272).bind fun t301 => (if t301 = true then (if (bt297.2 != t273) = true then (none) else ((laws_heldTermS.f k bt291.2 101).bind fun t302 => (if t302 < 0 then (none) else (if t302 = bt291.1 then (some true) else (none))))) else (none))))) else (none))))) else (none))))) else (none))))) else (none)) = some r := H
  have A9 := Aside0.mk A90
  clear A90
  by_cases c10 : t283 = true
  ·
   subst c10
   have H1 : (if (t280 != t273) = true then (none) else ((laws_toTermS.f k l0 false).bind fun t284 => ((laws_intactTermS.f t276 t284).bind fun t287 => (if t287 = true then ((laws_markTermS.f k t276 101).bind fun bt288 => (if bt288.1 < 0 then (none) else ((laws_eqTermS.f k t279 t272).bind fun t290 => (if t290 = true then ((laws_markTermS.f k t279 101).bind fun bt291 => ((laws_heldTermS.f k bt291.2 101).bind fun t293 => (if t293 < 0 then (none) else (if t293 = bt291.1 then ((laws_toTermS.f k l0 true).bind fun t294 => ((impl_DerivePoly.f k t294 a1).bind fun bt297 => ((laws_eqTermS.f k bt297.1 t272).bind fun t301 => (if t301 = true then (if (bt297.2 != t273) = true then (none) else ((laws_heldTermS.f k bt291.2 101).bind fun t302 => (if t302 < 0 then (none) else (if t302 = bt291.1 then (some true) else (none))))) else (none))))) else (none))))) else (none))))) else (none))))) = some r := by rw [if_pos rfl] at H; exact H
   clear H
   have H := H1
   clear H1
   by_cases c11 : (t280 != t273) = true
   ·
    rw [if_pos c11] at H
    exact absurd H (by simp)
   ·
    rw [if_neg c11] at H
    have c11b0 : (t280 != t273) = false := by simpa using c11
    (try (have c11b1 : decide (t280 = t273) = true := by simpa using c11))
    (try (have c11b2 : (t280 == t273) = true := by simpa using c11))
    clear c11
    replace H := Option.bind_eq_some_iff.mp H
    obtain ⟨t284, A120, H⟩ := H
    replace H : ((laws_intactTermS.f t276 t284).bind fun t287 => (if t287 = true then ((laws_markTermS.f k t276 101).bind fun bt288 => (if bt288.1 < 0 then (none) else ((laws_eqTermS.f k t279 t272).bind fun t290 => (if t290 = true then ((laws_markTermS.f k t279 101).bind fun bt291 => ((laws_heldTermS.f k bt291.2 101).bind fun t293 => (if t293 < 0 then (none) else (if t293 = bt291.1 then ((laws_toTermS.f k l0 true).bind fun t294 => ((impl_DerivePoly.f k t294 a1).bind fun bt297 => ((laws_eqTermS.f k bt297.1 t272).bind fun t301 => (if t301 = true then (if (bt297.2 != t273) = true then (none) else ((laws_heldTermS.f k bt291.2 101).bind fun t302 => (if t302 < 0 then (none) else (if t302 = bt291.1 then (some true) else (none))))) else (none))))) else (none))))) else (none))))) else (none))) = some r := H
    have A12 := Aside0.mk A120
    clear A120
    replace H := Option.bind_eq_some_iff.mp H
    obtain ⟨t287, A130, H⟩ := H
    replace H : (if t287 = true then ((laws_markTermS.f k t276 101).bind fun bt288 => (if bt288.1 < 0 then (none) else ((laws_eqTermS.f k t279 t272).bind fun t290 => (if t290 = true then ((laws_markTermS.f k t279 101).bind fun bt291 => ((laws_heldTermS.f k bt291.2 101).bind fun t293 => (if t293 < 0 then (none) else (if t293 = bt291.1 then ((laws_toTermS.f k l0 true).bind fun t294 => ((impl_DerivePoly.f k t294 a1).bind fun bt297 => ((laws_eqTermS.f k bt297.1 t272).bind fun t301 => (if t301 = true then (if (bt297.2 != t273) = true then (none) else ((laws_heldTermS.f k bt291.2 101).bind fun t302 => (if t302 < 0 then (none) else (if t302 = bt291.1 then (some true) else (none))))) else (none))))) else (none))))) else (none))))) else (none)) = some r := H
    have A13 := Aside0.mk A130
    clear A130
    by_cases c14 : t287 = true
    ·
     subst c14
     have H1 : ((laws_markTermS.f k t276 101).bind fun bt288 => (if bt288.1 < 0 then (none) else ((laws_eqTermS.f k t279 t272).bind fun t290 => (if t290 = true then ((laws_markTermS.f k t279 101).bind fun bt291 => ((laws_heldTermS.f k bt291.2 101).bind fun t293 => (if t293 < 0 then (none) else (if t293 = bt291.1 then ((laws_toTermS.f k l0 true).bind fun t294 => ((impl_DerivePoly.f k t294 a1).bind fun bt297 => ((laws_eqTermS.f k bt297.1 t272).bind fun t301 => (if t301 = true then (if (bt297.2 != t273) = true then (none) else ((laws_heldTermS.f k bt291.2 101).bind fun t302 => (if t302 < 0 then (none) else (if t302 = bt291.1 then (some true) else (none))))) else (none))))) else (none))))) else (none))))) = some r := by rw [if_pos rfl] at H; exact H
     clear H
     have H := H1
     clear H1
     replace H := Option.bind_eq_some_iff.mp H
     obtain ⟨⟨t288, t289⟩, A150, H⟩ := H
     replace H : (if t288 < 0 then (none) else ((laws_eqTermS.f k t279 t272).bind fun t290 => (if t290 = true then ((laws_markTermS.f k t279 101).bind fun bt291 => ((laws_heldTermS.f k bt291.2 101).bind fun t293 => (if t293 < 0 then (none) else (if t293 = bt291.1 then ((laws_toTermS.f k l0 true).bind fun t294 => ((impl_DerivePoly.f k t294 a1).bind fun bt297 => ((laws_eqTermS.f k bt297.1 t272).bind fun t301 => (if t301 = true then (if (bt297.2 != t273) = true then (none) else ((laws_heldTermS.f k bt291.2 101).bind fun t302 => (if t302 < 0 then (none) else (if t302 = bt291.1 then (some true) else (none))))) else (none))))) else (none))))) else (none)))) = some r := H
     have A15 := Aside0.mk A150
     clear A150
     by_cases c16 : t288 < 0
     ·
      rw [if_pos c16] at H
      exact absurd H (by simp)
     ·
      rw [if_neg c16] at H
      have c16b0 : decide (t288 < 0) = false := decide_eq_false c16
      clear c16
      replace H := Option.bind_eq_some_iff.mp H
      obtain ⟨t290, A170, H⟩ := H
      replace H : (if t290 = true then ((laws_markTermS.f k t279 101).bind fun bt291 => ((laws_heldTermS.f k bt291.2 101).bind fun t293 => (if t293 < 0 then (none) else (if t293 = bt291.1 then ((laws_toTermS.f k l0 true).bind fun t294 => ((impl_DerivePoly.f k t294 a1).bind fun bt297 => ((laws_eqTermS.f k bt297.1 t272).bind fun t301 => (if t301 = true then (if (bt297.2 != t273) = true then (none) else ((laws_heldTermS.f k bt291.2 101).bind fun t302 => (if t302 < 0 then (none) else (if t302 = bt291.1 then (some true) else (none))))) else (none))))) else (none))))) else (none)) = some r := H
      have A17 := Aside0.mk A170
      clear A170
      by_cases c18 : t290 = true
      ·
       subst c18
       have H1 : ((laws_markTermS.f k t279 101).bind fun bt291 => ((laws_heldTermS.f k bt291.2 101).bind fun t293 => (if t293 < 0 then (none) else (if t293 = bt291.1 then ((laws_toTermS.f k l0 true).bind fun t294 => ((impl_DerivePoly.f k t294 a1).bind fun bt297 => ((laws_eqTermS.f k bt297.1 t272).bind fun t301 => (if t301 = true then (if (bt297.2 != t273) = true then (none) else ((laws_heldTermS.f k bt291.2 101).bind fun t302 => (if t302 < 0 then (none) else (if t302 = bt291.1 then (some true) else (none))))) else (none))))) else (none))))) = some r := by rw [if_pos rfl] at H; exact H
       clear H
       have H := H1
       clear H1
       replace H := Option.bind_eq_some_iff.mp H
       obtain ⟨⟨t291, t292⟩, A190, H⟩ := H
       replace H : ((laws_heldTermS.f k t292 101).bind fun t293 => (if t293 < 0 then (none) else (if t293 = t291 then ((laws_toTermS.f k l0 true).bind fun t294 => ((impl_DerivePoly.f k t294 a1).bind fun bt297 => ((laws_eqTermS.f k bt297.1 t272).bind fun t301 => (if t301 = true then (if (bt297.2 != t273) = true then (none) else ((laws_heldTermS.f k t292 101).bind fun t302 => (if t302 < 0 then (none) else (if t302 = t291 then (some true) else (none))))) else (none))))) else (none)))) = some r := H
       have A19 := Aside0.mk A190
       clear A190
       replace H := Option.bind_eq_some_iff.mp H
       obtain ⟨t293, A200, H⟩ := H
       replace H : (if t293 < 0 then (none) else (if t293 = t291 then ((laws_toTermS.f k l0 true).bind fun t294 => ((impl_DerivePoly.f k t294 a1).bind fun bt297 => ((laws_eqTermS.f k bt297.1 t272).bind fun t301 => (if t301 = true then (if (bt297.2 != t273) = true then (none) else ((laws_heldTermS.f k t292 101).bind fun t302 => (if t302 < 0 then (none) else (if t302 = t291 then (some true) else (none))))) else (none))))) else (none))) = some r := H
       have A20 := Aside0.mk A200
       clear A200
       by_cases c21 : t293 < 0
       ·
        rw [if_pos c21] at H
        exact absurd H (by simp)
       ·
        rw [if_neg c21] at H
        have c21b0 : decide (t293 < 0) = false := decide_eq_false c21
        clear c21
        by_cases c22 : t293 = t291
        ·
         rw [if_pos c22] at H
         have c22b0 : (t293 == t291) = true := beq_iff_eq.mpr c22
         have c22b1 : (t293 != t291) = false := bne_eq_false_iff_eq.mpr c22
         clear c22
         replace H := Option.bind_eq_some_iff.mp H
         obtain ⟨t294, A230, H⟩ := H
         replace H : ((impl_DerivePoly.f k t294 a1).bind fun bt297 => ((laws_eqTermS.f k bt297.1 t272).bind fun t301 => (if t301 = true then (if (bt297.2 != t273) = true then (none) else ((laws_heldTermS.f k t292 101).bind fun t302 => (if t302 < 0 then (none) else (if t302 = t291 then (some true) else (none))))) else (none)))) = some r := H
         have A23 := Aside0.mk A230
         clear A230
         replace H := Option.bind_eq_some_iff.mp H
         obtain ⟨⟨t297, t298⟩, A240, H⟩ := H
         replace H : ((laws_eqTermS.f k t297 t272).bind fun t301 => (if t301 = true then (if (t298 != t273) = true then (none) else ((laws_heldTermS.f k t292 101).bind fun t302 => (if t302 < 0 then (none) else (if t302 = t291 then (some true) else (none))))) else (none))) = some r := H
         have A24 := Aside0.mk A240
         clear A240
         replace H := Option.bind_eq_some_iff.mp H
         obtain ⟨t301, A250, H⟩ := H
         replace H : (if t301 = true then (if (t298 != t273) = true then (none) else ((laws_heldTermS.f k t292 101).bind fun t302 => (if t302 < 0 then (none) else (if t302 = t291 then (some true) else (none))))) else (none)) = some r := H
         have A25 := Aside0.mk A250
         clear A250
         by_cases c26 : t301 = true
         ·
          subst c26
          have H1 : (if (t298 != t273) = true then (none) else ((laws_heldTermS.f k t292 101).bind fun t302 => (if t302 < 0 then (none) else (if t302 = t291 then (some true) else (none))))) = some r := by rw [if_pos rfl] at H; exact H
          clear H
          have H := H1
          clear H1
          by_cases c27 : (t298 != t273) = true
          ·
           rw [if_pos c27] at H
           exact absurd H (by simp)
          ·
           rw [if_neg c27] at H
           have c27b0 : (t298 != t273) = false := by simpa using c27
           (try (have c27b1 : decide (t298 = t273) = true := by simpa using c27))
           (try (have c27b2 : (t298 == t273) = true := by simpa using c27))
           clear c27
           replace H := Option.bind_eq_some_iff.mp H
           obtain ⟨t302, A280, H⟩ := H
           replace H : (if t302 < 0 then (none) else (if t302 = t291 then (some true) else (none))) = some r := H
           have A28 := Aside0.mk A280
           clear A280
           by_cases c29 : t302 < 0
           ·
            rw [if_pos c29] at H
            exact absurd H (by simp)
           ·
            rw [if_neg c29] at H
            have c29b0 : decide (t302 < 0) = false := decide_eq_false c29
            clear c29
            by_cases c30 : t302 = t291
            ·
             rw [if_pos c30] at H
             have c30b0 : (t302 == t291) = true := beq_iff_eq.mpr c30
             have c30b1 : (t302 != t291) = false := bne_eq_false_iff_eq.mpr c30
             clear c30
             obtain rfl := Option.some.inj H
             go_enter Try.func14, Try.ntmps14
             go_wp2_with (first | ((with_reducible refine gate_callee (f := 15) rfl ?_); refine goesL_ (some 18) rfl rfl Try.func15 (by kernel_rfl) rfl #[.slice A0 l0.length c0, .int .i64 1000000] rfl zq6 ?_; (with_reducible refine (laws_szTermS.calls _ _ l0 1000000 t268 _ ?side1 ?side2 A3.out).mono ?_); (case side1 => repeat (first | exact HR0.out | (with_reducible refine Kd.C_alloc ?_ _) | (with_reducible refine Kd.C_drewN ?_ _) | (with_reducible refine Kd.C_drew ?_))); (case side2 => exact HC0.out); rintro e w' ⟨rfl, ⟨nd, rfl⟩⟩; refine ⟨_, rfl, ?_⟩) | ((with_reducible refine gate_callee (f := 17) rfl ?_); refine goesL_ (some 23) rfl rfl Try.func17 (by kernel_rfl) rfl #[.slice A0 l0.length c0, .bool false] rfl zq6 ?_; (with_reducible refine (laws_toTermS.calls k _ _ l0 false t269 _ ?side1 ?side2 A5.out).mono ?_); (case side1 => repeat (first | exact HR0.out | (with_reducible refine Kd.C_alloc ?_ _) | (with_reducible refine Kd.C_drewN ?_ _) | (with_reducible refine Kd.C_drew ?_))); (case side2 => exact HC0.out); rintro e w31 ⟨v270, rfl, ho0, hb, ho0F⟩; refine ⟨_, rfl, ?_⟩; have n0_ := Aside0.mk (Kd.R_lower ho0 (below_size (zb0 HB))); have n0F_ := Aside0.mk (Kd.R_lower ho0F (below_size (zb0 HB))); have n1_ := Aside0.mk (below_step (zb0 HB) hb); clear HB; have HO271 := n0_; have HO271F := n0F_; have HB := n1_; clear n0_ n1_ n0F_; (try clear hb); (try clear hb2); (try clear hk); (try clear hi); (try clear ho0); (try clear ho0F); obtain ⟨Ao32, co32, eo32⟩ := Kd.R_slice HO271.out; subst eo32) | ((with_reducible refine gate_callee (f := 49) rfl ?_); refine goesL_ (some 25) rfl rfl Try.func49 (by kernel_rfl) rfl #[.slice Ao32 t269.length co32, .int .i64 a1] rfl zq6 ?_; (with_reducible refine (spec_DerivePoly.calls k _ _ t269 a1 t272 t273 _ ?side1 ?side2 A6.out).mono ?_); (case side1 => repeat (first | exact (Kd.R_reads' HO271.out).2.2 | (with_reducible refine Kd.C_alloc ?_ _) | (with_reducible refine Kd.C_drewN ?_ _) | (with_reducible refine Kd.C_drew ?_))); (case side2 => exact (Kd.R_reads' HO271.out).2.1); rintro e w33 ⟨v274, rfl, ho0, hb⟩; refine ⟨_, rfl, ?_⟩; have n0_ := Aside0.mk (Kd.R_elder' (zq3 HO271) (Kd.R_base ho0) hb); have n0F_ := Aside0.mk (Kd.R_elder' (zq3 HO271F) (Kd.R_base ho0) hb); have n1_ := Aside0.mk (Kd.R_lower (Kd.R_new' ho0 (Kd.R_lt (zq3 HO271))) (below_size (zb0 HB))); have n2_ := Aside0.mk (below_step (zb0 HB) hb); clear HO271 HO271F; clear HB; have HO271 := n0_; have HO271F := n0F_; have HO275 := n1_; have HB := n2_; clear n0_ n1_ n2_ n0F_; (try clear hb); (try clear hb2); (try clear hk); (try clear hi); (try clear ho0)) | ((with_reducible refine gate_callee (f := 17) rfl ?_); refine goesL_ (some 29) rfl rfl Try.func17 (by kernel_rfl) rfl #[.slice A0 l0.length c0, .bool false] rfl zq6 ?_; (with_reducible refine (laws_toTermS.calls k _ _ l0 false t276 _ ?side1 ?side2 A7.out).mono ?_); (case side1 => repeat (first | exact (Kd.C_below HR0.out HB.out) | (with_reducible refine Kd.C_alloc ?_ _) | (with_reducible refine Kd.C_drewN ?_ _) | (with_reducible refine Kd.C_drew ?_))); (case side2 => exact HC0.out); rintro e w34 ⟨v277, rfl, ho0, hb, ho0F⟩; refine ⟨_, rfl, ?_⟩; have n0_ := Aside0.mk (Kd.R_elder' (zq3 HO275) (Kd.R_base ho0) hb); have n1_ := Aside0.mk (Kd.R_lower (Kd.R_new' ho0 (Kd.R_lt (zq3 HO275))) (below_size (zb0 HB))); have n1F_ := Aside0.mk (Kd.R_lower (Kd.R_new' ho0F (Kd.R_lt (zq3 HO275))) (below_size (zb0 HB))); have n2_ := Aside0.mk (below_step (zb0 HB) hb); clear HO275; clear HB; have HO275 := n0_; have HO278 := n1_; have HO278F := n1F_; have HB := n2_; clear n0_ n1_ n2_ n1F_; (try clear hb); (try clear hb2); (try clear hk); (try clear hi); (try clear ho0); (try clear ho0F); obtain ⟨Ao35, co35, eo35⟩ := Kd.R_slice HO278.out; subst eo35) | ((with_reducible refine gate_callee (f := 50) rfl ?_); refine goesL_ (some 33) rfl rfl Try.func50 (by kernel_rfl) rfl #[.slice Ao35 t276.length co35, .int .i64 a1] rfl zq6 ?_; (with_reducible refine (impl_DerivePoly.calls k _ _ t276 a1 t279 t280 _ ?side1 ?side2 A8.out).mono ?_); (case side1 => repeat (first | exact (Kd.R_reads' HO278.out).2.2 | (with_reducible refine Kd.C_alloc ?_ _) | (with_reducible refine Kd.C_drewN ?_ _) | (with_reducible refine Kd.C_drew ?_))); (case side2 => exact (Kd.R_reads' HO278.out).2.1); rintro e w36 ⟨v281, rfl, ho0, hb⟩; refine ⟨_, rfl, ?_⟩; have n0_ := Aside0.mk (Kd.R_elder' (zq3 HO275) (Kd.R_base ho0) hb); have n1_ := Aside0.mk (Kd.R_elder' (zq3 HO278) (Kd.R_base ho0) hb); have n1F_ := Aside0.mk (Kd.R_elder' (zq3 HO278F) (Kd.R_base ho0) hb); have n2_ := Aside0.mk (Kd.R_lower (Kd.R_new' (Kd.R_new' ho0 (Kd.R_lt (zq3 HO275))) (Kd.R_lt (zq3 HO278))) (below_size (zb0 HB))); have n3_ := Aside0.mk (below_step (zb0 HB) hb); clear HO275; clear HO278 HO278F; clear HB; have HO275 := n0_; have HO278 := n1_; have HO278F := n1F_; have HO282 := n2_; have HB := n3_; clear n0_ n1_ n2_ n3_ n1F_; (try clear hb); (try clear hb2); (try clear hk); (try clear hi); (try clear ho0); obtain ⟨Ao37, co37, eo37⟩ := Kd.R_slice HO282.out; subst eo37; obtain ⟨Ao38, co38, eo38⟩ := Kd.R_slice HO275.out; subst eo38) | ((with_reducible refine gate_callee (f := 26) rfl ?_); refine goesL_ (some 38) rfl rfl Try.func26 (by kernel_rfl) rfl #[.slice Ao37 t279.length co37, .slice Ao38 t272.length co38] rfl zq6 ?_; (with_reducible refine (laws_eqTermS.calls k _ _ t279 _ _ t272 true _ ?side1 ?side2 ?side3 ?side4 A9.out).mono ?_); (case side1 => repeat (first | exact (Kd.R_reads' HO282.out).2.2 | (with_reducible refine Kd.C_alloc ?_ _) | (with_reducible refine Kd.C_drewN ?_ _) | (with_reducible refine Kd.C_drew ?_))); (case side2 => exact (Kd.R_reads' HO282.out).2.1); (case side3 => repeat (first | exact (Kd.R_reads' HO275.out).2.2 | (with_reducible refine Kd.C_alloc ?_ _) | (with_reducible refine Kd.C_drewN ?_ _) | (with_reducible refine Kd.C_drew ?_))); (case side4 => exact (Kd.R_reads' HO275.out).2.1); rintro e w39 ⟨rfl, hb⟩; refine ⟨_, rfl, ?_⟩; have n0_ := Aside0.mk (Kd.R_below (zq3 HO275) hb); have n1_ := Aside0.mk (Kd.R_below (zq3 HO278) hb); have n1F_ := Aside0.mk (Kd.R_below (zq3 HO278F) hb); have n2_ := Aside0.mk (Kd.R_below (zq3 HO282) hb); have n3_ := Aside0.mk (below_step (zb0 HB) hb); clear HO275; clear HO278 HO278F; clear HO282; clear HB; have HO275 := n0_; have HO278 := n1_; have HO278F := n1F_; have HO282 := n2_; have HB := n3_; clear n0_ n1_ n2_ n3_ n1F_; (try clear hb); (try clear hb2); (try clear hk); (try clear hi)) | ((with_reducible refine gate_callee (f := 17) rfl ?_); refine goesL_ (some 47) rfl rfl Try.func17 (by kernel_rfl) rfl #[.slice A0 l0.length c0, .bool false] rfl zq6 ?_; (with_reducible refine (laws_toTermS.calls k _ _ l0 false t284 _ ?side1 ?side2 A12.out).mono ?_); (case side1 => repeat (first | exact (Kd.C_below HR0.out HB.out) | (with_reducible refine Kd.C_alloc ?_ _) | (with_reducible refine Kd.C_drewN ?_ _) | (with_reducible refine Kd.C_drew ?_))); (case side2 => exact HC0.out); rintro e w40 ⟨v285, rfl, ho0, hb, ho0F⟩; refine ⟨_, rfl, ?_⟩; have n0_ := Aside0.mk (Kd.R_elder' (zq3 HO275) (Kd.R_base ho0) hb); have n1_ := Aside0.mk (Kd.R_elder' (zq3 HO278) (Kd.R_base ho0) hb); have n1F_ := Aside0.mk (Kd.R_elder' (zq3 HO278F) (Kd.R_base ho0) hb); have n2_ := Aside0.mk (Kd.R_elder' (zq3 HO282) (Kd.R_base ho0) hb); have n3_ := Aside0.mk (Kd.R_lower (Kd.R_new' (Kd.R_new' (Kd.R_new' ho0 (Kd.R_lt (zq3 HO275))) (Kd.R_lt (zq3 HO278))) (Kd.R_lt (zq3 HO282))) (below_size (zb0 HB))); have n3F_ := Aside0.mk (Kd.R_lower (Kd.R_new' (Kd.R_new' (Kd.R_new' ho0F (Kd.R_lt (zq3 HO275))) (Kd.R_lt (zq3 HO278))) (Kd.R_lt (zq3 HO282))) (below_size (zb0 HB))); have n4_ := Aside0.mk (below_step (zb0 HB) hb); clear HO275; clear HO278 HO278F; clear HO282; clear HB; have HO275 := n0_; have HO278 := n1_; have HO278F := n1F_; have HO282 := n2_; have HO286 := n3_; have HO286F := n3F_; have HB := n4_; clear n0_ n1_ n2_ n3_ n4_ n1F_ n3F_; (try clear hb); (try clear hb2); (try clear hk); (try clear hi); (try clear ho0); (try clear ho0F); obtain ⟨Ao41, co41, eo41⟩ := Kd.R_slice HO286.out; subst eo41) | ((with_reducible refine gate_callee (f := 19) rfl ?_); refine goesL_ (some 48) rfl rfl Try.func19 (by kernel_rfl) rfl #[.slice Ao35 t276.length co35, .slice Ao41 t284.length co41] rfl zq6 ?_; (with_reducible refine (laws_intactTermS.calls _ _ t276 _ _ t284 true _ ?side1 ?side2 ?side3 ?side4 A13.out ?sideF1 ?sideF2 ?sideF3 ?sideF4).mono ?_); (case side1 => repeat (first | exact (Kd.R_reads' HO278.out).2.2 | (with_reducible refine Kd.C_alloc ?_ _) | (with_reducible refine Kd.C_drewN ?_ _) | (with_reducible refine Kd.C_drew ?_))); (case side2 => exact (Kd.R_reads' HO278.out).2.1); (case side3 => repeat (first | exact (Kd.R_reads' HO286.out).2.2 | (with_reducible refine Kd.C_alloc ?_ _) | (with_reducible refine Kd.C_drewN ?_ _) | (with_reducible refine Kd.C_drew ?_))); (case side4 => exact (Kd.R_reads' HO286.out).2.1); (case sideF1 => repeat (first | exact (Kd.R_reads' HO278F.out).2.2 | (with_reducible refine Kd.C_alloc ?_ _) | (with_reducible refine Kd.C_drewN ?_ _) | (with_reducible refine Kd.C_drew ?_))); (case sideF2 => exact (Kd.R_reads' HO278F.out).2.1); (case sideF3 => repeat (first | exact (Kd.R_reads' HO286F.out).2.2 | (with_reducible refine Kd.C_alloc ?_ _) | (with_reducible refine Kd.C_drewN ?_ _) | (with_reducible refine Kd.C_drew ?_))); (case sideF4 => exact (Kd.R_reads' HO286F.out).2.1); rintro e w42 ⟨rfl, hb⟩; refine ⟨_, rfl, ?_⟩; have n0_ := Aside0.mk (Kd.R_below (zq3 HO275) hb); have n1_ := Aside0.mk (Kd.R_below (zq3 HO278) hb); have n1F_ := Aside0.mk (Kd.R_below (zq3 HO278F) hb); have n2_ := Aside0.mk (Kd.R_below (zq3 HO282) hb); have n3_ := Aside0.mk (Kd.R_below (zq3 HO286) hb); have n3F_ := Aside0.mk (Kd.R_below (zq3 HO286F) hb); have n4_ := Aside0.mk (below_step (zb0 HB) hb); clear HO275; clear HO278 HO278F; clear HO282; clear HO286 HO286F; clear HB; have HO275 := n0_; have HO278 := n1_; have HO278F := n1F_; have HO282 := n2_; have HO286 := n3_; have HO286F := n3F_; have HB := n4_; clear n0_ n1_ n2_ n3_ n4_ n1F_ n3F_; (try clear hb); (try clear hb2); (try clear hk); (try clear hi)) | ((with_reducible refine gate_callee (f := 27) rfl ?_); refine goesL_ (some 52) rfl rfl Try.func27 (by kernel_rfl) rfl #[.slice Ao35 t276.length co35, .int .i64 101] rfl zq6 ?_; (with_reducible refine (laws_markTermS.calls k (fun k_ => some k_ = (.slice Ao35 t276.length co35 : Value).ownBlock) (.slice Ao35 t276.length co35) t276 101 t288 t289 w _ ?side1 ?side2 A15.out).mono ?_); (case side1 => exact zb0 HB); (case side2 => exact Kd.R_tight rfl HO278.out); rintro e w43 ⟨rfl, hy0, hb, hkp⟩; refine ⟨_, rfl, ?_⟩; have n0_ := Aside0.mk (Kd.R_mono (ok' := fun k_ => some k_ ≠ (.slice Ao35 t276.length co35 : Value).ownBlock ∧ some k_ ≠ (.slice Ao37 t279.length co37 : Value).ownBlock) (Kd.R_keptB (HO275.out) hkp (fun k_ hk_ hs_ => (hk_.1.1.2) hs_)) (fun k_ hk_ => ⟨hk_.1.1.1.2, hk_.1.1.2⟩)); have n1_ := Aside0.mk (Kd.R_reok rfl hy0 (fun k_ e_ => HO278.out.1 k_ e_)); have n2_ := Aside0.mk (Kd.R_mono (ok' := fun k_ => some k_ ≠ (.slice Ao38 t272.length co38 : Value).ownBlock ∧ some k_ ≠ (.slice Ao35 t276.length co35 : Value).ownBlock) (Kd.R_keptB (HO282.out) hkp (fun k_ hk_ hs_ => (hk_.1.2) hs_)) (fun k_ hk_ => ⟨hk_.1.1.1.2, hk_.1.1.2⟩)); have n3_ := Aside0.mk (hb); clear HO275; clear HO278 HO278F; clear HO282; clear HB; have HO275 := n0_; have HO278 := n1_; have HO282 := n2_; have HB := n3_; clear n0_ n1_ n2_ n3_; (try clear hb); (try clear hkp); (try clear hy0)) | (go_at_call 26; (with_reducible refine (laws_eqTermS.calls k _ _ t279 _ _ t272 true _ ?side1 ?side2 ?side3 ?side4 A17.out).mono ?_); (case side1 => repeat (first | exact (Kd.R_reads' HO282.out).2.2 | (with_reducible refine Kd.C_alloc ?_ _) | (with_reducible refine Kd.C_drewN ?_ _) | (with_reducible refine Kd.C_drew ?_))); (case side2 => exact (Kd.R_reads' HO282.out).2.1); (case side3 => repeat (first | exact (Kd.R_reads' HO275.out).2.2 | (with_reducible refine Kd.C_alloc ?_ _) | (with_reducible refine Kd.C_drewN ?_ _) | (with_reducible refine Kd.C_drew ?_))); (case side4 => exact (Kd.R_reads' HO275.out).2.1); rintro e w44 ⟨rfl, hb⟩; replace HO275 := Aside0.mk (Kd.R_below (zq3 HO275) hb); replace HO282 := Aside0.mk (Kd.R_below (zq3 HO282) hb); replace HB := Aside0.mk (below_step (zb0 HB) hb); (try clear hb); (try clear hb2); (try clear hk); (try clear hi)) | ((with_reducible refine gate_callee (f := 27) rfl ?_); refine goesL_ (some 68) rfl rfl Try.func27 (by kernel_rfl) rfl #[.slice Ao37 t279.length co37, .int .i64 101] rfl zq6 ?_; (with_reducible refine (laws_markTermS.calls k (fun k_ => some k_ = (.slice Ao37 t279.length co37 : Value).ownBlock) (.slice Ao37 t279.length co37) t279 101 t291 t292 w _ ?side1 ?side2 A19.out).mono ?_); (case side1 => exact zb0 HB); (case side2 => exact Kd.R_tight rfl HO282.out); rintro e w45 ⟨rfl, hy0, hb, hkp⟩; refine ⟨_, rfl, ?_⟩; replace HO275 := Aside0.mk (Kd.R_mono (ok' := fun k_ => some k_ ≠ (.slice Ao37 t279.length co37 : Value).ownBlock) (Kd.R_keptB (HO275.out) hkp (fun k_ hk_ hs_ => (hk_.2) hs_)) (fun k_ hk_ => hk_.1.2)); replace HO282 := Aside0.mk (Kd.R_reok rfl hy0 (fun k_ e_ => HO282.out.1 k_ e_)); replace HB := Aside0.mk (hb); (try clear hb); (try clear hkp); (try clear hy0)) | ((with_reducible refine gate_callee (f := 28) rfl ?_); refine goesL_ (some 71) rfl rfl Try.func28 (by kernel_rfl) rfl #[.slice Ao37 t292.length co37, .int .i64 101] rfl (by (try simp only [List.map_toArray, List.map_cons, List.map_nil]); first | done | (rw [show t292.length = t279.length from (Kd.R_reads' HO282.out).1.symm] <;> rfl) | rfl | (simp only [List.length_drop, List.length_take]; rfl)) ?_; (with_reducible refine (laws_heldTermS.calls k _ _ t292 101 t293 _ ?side1 ?side2 A20.out).mono ?_); (case side1 => repeat (first | exact (Kd.R_reads' HO282.out).2.2 | (with_reducible refine Kd.C_alloc ?_ _) | (with_reducible refine Kd.C_drewN ?_ _) | (with_reducible refine Kd.C_drew ?_))); (case side2 => rw [show t292.length = t279.length from (Kd.R_reads' HO282.out).1.symm]; exact (Kd.R_reads' HO282.out).2.1); rintro e w' ⟨rfl, ⟨nd, rfl⟩⟩; refine ⟨_, rfl, ?_⟩) | ((with_reducible refine gate_callee (f := 17) rfl ?_); refine goesL_ (some 79) rfl rfl Try.func17 (by kernel_rfl) rfl #[.slice A0 l0.length c0, .bool true] rfl zq6 ?_; (with_reducible refine (laws_toTermS.calls k _ _ l0 true t294 _ ?side1 ?side2 A23.out).mono ?_); (case side1 => repeat (first | exact (Kd.C_below HR0.out (zb0 HB)) | (with_reducible refine Kd.C_alloc ?_ _) | (with_reducible refine Kd.C_drewN ?_ _) | (with_reducible refine Kd.C_drew ?_))); (case side2 => exact HC0.out); rintro e w46 ⟨v295, rfl, ho0, hb, ho0F⟩; refine ⟨_, rfl, ?_⟩; have n0_ := Aside0.mk (Kd.R_elder' (zq3 HO275) (Kd.R_base ho0) hb); have n1_ := Aside0.mk (Kd.R_elder' (zq3 HO282) (Kd.R_base ho0) hb); have n2_ := Aside0.mk (Kd.R_lower (Kd.R_new' (Kd.R_new' ho0 (Kd.R_lt (zq3 HO275))) (Kd.R_lt (zq3 HO282))) (below_size (zb0 HB))); have n2F_ := Aside0.mk (Kd.R_lower (Kd.R_new' (Kd.R_new' ho0F (Kd.R_lt (zq3 HO275))) (Kd.R_lt (zq3 HO282))) (below_size (zb0 HB))); have n3_ := Aside0.mk (below_step (zb0 HB) hb); clear HO275; clear HO282; clear HB; have HO275 := n0_; have HO282 := n1_; have HO296 := n2_; have HO296F := n2F_; have HB := n3_; clear n0_ n1_ n2_ n3_ n2F_; (try clear hb); (try clear hb2); (try clear hk); (try clear hi); (try clear ho0); (try clear ho0F); obtain ⟨Ao47, co47, eo47⟩ := Kd.R_slice HO296.out; subst eo47) | ((with_reducible refine gate_callee (f := 50) rfl ?_); refine goesL_ (some 81) rfl rfl Try.func50 (by kernel_rfl) rfl #[.slice Ao47 t294.length co47, .int .i64 a1] rfl zq6 ?_; (with_reducible refine (impl_DerivePoly.calls k _ _ t294 a1 t297 t298 _ ?side1 ?side2 A24.out).mono ?_); (case side1 => repeat (first | exact (Kd.R_reads' HO296.out).2.2 | (with_reducible refine Kd.C_alloc ?_ _) | (with_reducible refine Kd.C_drewN ?_ _) | (with_reducible refine Kd.C_drew ?_))); (case side2 => exact (Kd.R_reads' HO296.out).2.1); rintro e w48 ⟨v299, rfl, ho0, hb⟩; refine ⟨_, rfl, ?_⟩; have n0_ := Aside0.mk (Kd.R_elder' (zq3 HO275) (Kd.R_base ho0) hb); have n1_ := Aside0.mk (Kd.R_elder' (zq3 HO282) (Kd.R_base ho0) hb); have n2_ := Aside0.mk (Kd.R_elder' (zq3 HO296) (Kd.R_base ho0) hb); have n2F_ := Aside0.mk (Kd.R_elder' (zq3 HO296F) (Kd.R_base ho0) hb); have n3_ := Aside0.mk (Kd.R_lower (Kd.R_new' (Kd.R_new' (Kd.R_new' ho0 (Kd.R_lt (zq3 HO275))) (Kd.R_lt (zq3 HO282))) (Kd.R_lt (zq3 HO296))) (below_size (zb0 HB))); have n4_ := Aside0.mk (below_step (zb0 HB) hb); clear HO275; clear HO282; clear HO296 HO296F; clear HB; have HO275 := n0_; have HO282 := n1_; have HO296 := n2_; have HO296F := n2F_; have HO300 := n3_; have HB := n4_; clear n0_ n1_ n2_ n3_ n4_ n2F_; (try clear hb); (try clear hb2); (try clear hk); (try clear hi); (try clear ho0); obtain ⟨Ao49, co49, eo49⟩ := Kd.R_slice HO300.out; subst eo49) | ((with_reducible refine gate_callee (f := 26) rfl ?_); refine goesL_ (some 86) rfl rfl Try.func26 (by kernel_rfl) rfl #[.slice Ao49 t297.length co49, .slice Ao38 t272.length co38] rfl zq6 ?_; (with_reducible refine (laws_eqTermS.calls k _ _ t297 _ _ t272 true _ ?side1 ?side2 ?side3 ?side4 A25.out).mono ?_); (case side1 => repeat (first | exact (Kd.R_reads' HO300.out).2.2 | (with_reducible refine Kd.C_alloc ?_ _) | (with_reducible refine Kd.C_drewN ?_ _) | (with_reducible refine Kd.C_drew ?_))); (case side2 => exact (Kd.R_reads' HO300.out).2.1); (case side3 => repeat (first | exact (Kd.R_reads' HO275.out).2.2 | (with_reducible refine Kd.C_alloc ?_ _) | (with_reducible refine Kd.C_drewN ?_ _) | (with_reducible refine Kd.C_drew ?_))); (case side4 => exact (Kd.R_reads' HO275.out).2.1); rintro e w50 ⟨rfl, hb⟩; refine ⟨_, rfl, ?_⟩; replace HO275 := Aside0.mk (Kd.R_below (zq3 HO275) hb); replace HO282 := Aside0.mk (Kd.R_below (zq3 HO282) hb); replace HO300 := Aside0.mk (Kd.R_below (zq3 HO300) hb); replace HB := Aside0.mk (below_step (zb0 HB) hb); (try clear hb); (try clear hb2); (try clear hk); (try clear hi)) | ((with_reducible refine gate_callee (f := 28) rfl ?_); refine goesL_ (some 95) rfl rfl Try.func28 (by kernel_rfl) rfl #[.slice Ao37 t292.length co37, .int .i64 101] rfl (by (try simp only [List.map_toArray, List.map_cons, List.map_nil]); first | done | (rw [show t292.length = t279.length from (Kd.R_reads' HO282.out).1.symm] <;> rfl) | rfl | (simp only [List.length_drop, List.length_take]; rfl)) ?_; (with_reducible refine (laws_heldTermS.calls k _ _ t292 101 t302 _ ?side1 ?side2 A28.out).mono ?_); (case side1 => repeat (first | exact (Kd.R_reads' HO282.out).2.2 | (with_reducible refine Kd.C_alloc ?_ _) | (with_reducible refine Kd.C_drewN ?_ _) | (with_reducible refine Kd.C_drew ?_))); (case side2 => rw [show t292.length = t279.length from (Kd.R_reads' HO282.out).1.symm]; exact (Kd.R_reads' HO282.out).2.1); rintro e w' ⟨rfl, ⟨nd, rfl⟩⟩; refine ⟨_, rfl, ?_⟩))
             go_ret
             exact ⟨by first | rfl | (simp [errW_none, errW_some] <;> rfl) | (simp [*, errW_none, errW_some] <;> rfl), (zb0 HB)⟩
            ·
             rw [if_neg c30] at H
             exact absurd H (by simp)
         ·
          replace c26 := Bool.eq_false_iff.mpr c26
          subst c26
          have H1 : (none) = some r := by rw [if_neg (show ¬ (false = true) by decide)] at H; exact H
          clear H
          have H := H1
          clear H1
          exact absurd H (by simp)
        ·
         rw [if_neg c22] at H
         exact absurd H (by simp)
      ·
       replace c18 := Bool.eq_false_iff.mpr c18
       subst c18
       have H1 : (none) = some r := by rw [if_neg (show ¬ (false = true) by decide)] at H; exact H
       clear H
       have H := H1
       clear H1
       exact absurd H (by simp)
    ·
     replace c14 := Bool.eq_false_iff.mpr c14
     subst c14
     have H1 : (none) = some r := by rw [if_neg (show ¬ (false = true) by decide)] at H; exact H
     clear H
     have H := H1
     clear H1
     exact absurd H (by simp)
  ·
   replace c10 := Bool.eq_false_iff.mpr c10
   subst c10
   have H1 : (none) = some r := by rw [if_neg (show ¬ (false = true) by decide)] at H; exact H
   clear H
   have H := H1
   clear H1
   exact absurd H (by simp)
end Go.Proofs.Ytfnmppeoleicbaa.PD
