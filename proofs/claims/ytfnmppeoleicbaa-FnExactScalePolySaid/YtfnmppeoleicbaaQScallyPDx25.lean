-- By wip/mk/drv.py
import Derived.Test.YtfnmppeoleicbaaQScallyPDx0
import Derived.Test.YtfnmppeoleicbaaQScallyPDx1
import Derived.Test.YtfnmppeoleicbaaQScallyPDx2
import Derived.Test.YtfnmppeoleicbaaQScallyPDx4
import Derived.Test.YtfnmppeoleicbaaQScallyPDx5
import Derived.Test.YtfnmppeoleicbaaQScallyPDx6
import Derived.Test.YtfnmppeoleicbaaQScallyPDx7
import Derived.Test.YtfnmppeoleicbaaQScallyPDx23
import Derived.Test.YtfnmppeoleicbaaQScallyPDx24
namespace Go.Proofs.Ytfnmppeoleicbaa.PD
open Go.RowKit Go.Proofs.YtfnmppeoleicbaaW.PrintWords Go.Proofs.YtfnmppeoleicbaaW.PrintLast Go.Proofs.YtfnmppeoleicbaaW.PrintMore
attribute [local go_sem] max2_int min2_int max_two min_two max_three min_three max_four min_four
set_option linter.unusedVariables false
set_option linter.unusedSimpArgs false
/-! ### laws_FnExactScalePoly: function 11 -/
set_option maxHeartbeats 8000000 in
set_option maxRecDepth 100000 in
theorem laws_FnExactScalePoly.calls (k : Nat) (A0 : Option Addr) (c0 : Nat) (l0 : List (S57)) (a1 : Int) (r : Bool) (w : World) (hr0 : Kd.C k57 w A0 l0.length l0) (hc0 : l0.length ≤ c0) (h : laws_FnExactScalePoly.f k l0 a1 = some r) :
  Calls Try.prog 11 #[.slice A0 l0.length c0, .int .i64 a1] w fun e w' => e = .returned (.bool r) ∧ Below w.heap.size w w' := by
 have HR0 := Aside0.mk hr0
 have HC0 := Aside0.mk hc0
 clear hr0 hc0
 have HB := Aside0.mk (Below.refl w.heap.size w)
 have H : ((laws_szTermS.f l0 1000000).bind fun t395 => (if t395 < 0 then (some true) else ((laws_toTermS.f k l0 false).bind fun t396 => ((spec_ScalePoly.f k t396 a1).bind fun bt399 => ((laws_toTermS.f k l0 false).bind fun t403 => ((impl_ScalePoly.f k t403 a1).bind fun bt406 => ((laws_eqTermS.f k bt406.1 bt399.1).bind fun t410 => (if t410 = true then (if (bt406.2 != bt399.2) = true then (none) else ((laws_toTermS.f k l0 false).bind fun t411 => ((laws_intactTermS.f t403 t411).bind fun t414 => (if t414 = true then ((laws_markTermS.f k t403 101).bind fun bt415 => (if bt415.1 < 0 then (none) else ((laws_eqTermS.f k bt406.1 bt399.1).bind fun t417 => (if t417 = true then ((laws_markTermS.f k bt406.1 101).bind fun bt418 => ((laws_heldTermS.f k bt418.2 101).bind fun t420 => (if t420 < 0 then (none) else (if t420 = bt418.1 then ((laws_toTermS.f k l0 true).bind fun t421 => ((impl_ScalePoly.f k t421 a1).bind fun bt424 => ((laws_eqTermS.f k bt424.1 bt399.1).bind fun t428 => (if t428 = true then (if (bt424.2 != bt399.2) = true then (none) else ((laws_heldTermS.f k bt418.2 101).bind fun t429 => (if t429 < 0 then (none) else (if t429 = bt418.1 then (some true) else (none))))) else (none))))) else (none))))) else (none))))) else (none))))) else (none))))))))) = some r := h
 clear h
 replace H := Option.bind_eq_some_iff.mp H
 obtain ⟨t395, A30, H⟩ := H
 replace H : (if t395 < 0 then (some true) else ((laws_toTermS.f k l0 false).bind fun t396 => ((spec_ScalePoly.f k t396 a1).bind fun bt399 => ((laws_toTermS.f k l0 false).bind fun t403 => ((impl_ScalePoly.f k t403 a1).bind fun bt406 => ((laws_eqTermS.f k bt406.1 bt399.1).bind fun t410 => (if t410 = true then (if (bt406.2 != bt399.2) = true then (none) else ((laws_toTermS.f k l0 false).bind fun t411 => ((laws_intactTermS.f t403 t411).bind fun t414 => (if t414 = true then ((laws_markTermS.f k t403 101).bind fun bt415 => (if bt415.1 < 0 then (none) else ((laws_eqTermS.f k bt406.1 bt399.1).bind fun t417 => (if t417 = true then ((laws_markTermS.f k bt406.1 101).bind fun bt418 => ((laws_heldTermS.f k bt418.2 101).bind fun t420 => (if t420 < 0 then (none) else (if t420 = bt418.1 then ((laws_toTermS.f k l0 true).bind fun t421 => ((impl_ScalePoly.f k t421 a1).bind fun bt424 => ((laws_eqTermS.f k bt424.1 bt399.1).bind fun t428 => (if t428 = true then (if (bt424.2 != bt399.2) = true then (none) else ((laws_heldTermS.f k bt418.2 101).bind fun t429 => (if t429 < 0 then (none) else (if t429 = bt418.1 then (some true) else (none))))) else (none))))) else (none))))) else (none))))) else (none))))) else (none)))))))) = some r := H
 have A3 := Aside0.mk A30
 clear A30
 by_cases c4 : t395 < 0
 ·
  rw [if_pos c4] at H
  have c4b0 : decide (t395 < 0) = true := decide_eq_true c4
  clear c4
  obtain rfl := Option.some.inj H
  go_enter Try.func11, Try.ntmps11
  go_wp2_with (first | ((with_reducible refine gate_callee (f := 15) rfl ?_); refine goesL_ (some 18) rfl rfl Try.func15 (by kernel_rfl) rfl #[.slice A0 l0.length c0, .int .i64 1000000] rfl zq6 ?_; (with_reducible refine (laws_szTermS.calls _ _ l0 1000000 t395 _ ?side1 ?side2 A3.out).mono ?_); (case side1 => repeat (first | exact HR0.out | (with_reducible refine Kd.C_alloc ?_ _) | (with_reducible refine Kd.C_drewN ?_ _) | (with_reducible refine Kd.C_drew ?_))); (case side2 => exact HC0.out); rintro e w' ⟨rfl, ⟨nd, rfl⟩⟩; refine ⟨_, rfl, ?_⟩))
  go_ret
  exact ⟨by first | rfl | (simp [errW_none, errW_some] <;> rfl) | (simp [*, errW_none, errW_some] <;> rfl), (zb0 HB)⟩
 ·
  rw [if_neg c4] at H
  have c4b0 : decide (t395 < 0) = false := decide_eq_false c4
  clear c4
  replace H := Option.bind_eq_some_iff.mp H
  obtain ⟨t396, A50, H⟩ := H
  replace H : ((spec_ScalePoly.f k t396 a1).bind fun bt399 => ((laws_toTermS.f k l0 false).bind fun t403 => ((impl_ScalePoly.f k t403 a1).bind fun bt406 => ((laws_eqTermS.f k bt406.1 bt399.1).bind fun t410 => (if t410 = true then (if (bt406.2 != bt399.2) = true then (none) else ((laws_toTermS.f k l0 false).bind fun t411 => ((laws_intactTermS.f t403 t411).bind fun t414 => (if t414 = true then ((laws_markTermS.f k t403 101).bind fun bt415 => (if bt415.1 < 0 then (none) else ((laws_eqTermS.f k bt406.1 bt399.1).bind fun t417 => (if t417 = true then ((laws_markTermS.f k bt406.1 101).bind fun bt418 => ((laws_heldTermS.f k bt418.2 101).bind fun t420 => (if t420 < 0 then (none) else (if t420 = bt418.1 then ((laws_toTermS.f k l0 true).bind fun t421 => ((impl_ScalePoly.f k t421 a1).bind fun bt424 => ((laws_eqTermS.f k bt424.1 bt399.1).bind fun t428 => (if t428 = true then (if (bt424.2 != bt399.2) = true then (none) else ((laws_heldTermS.f k bt418.2 101).bind fun t429 => (if t429 < 0 then (none) else (if t429 = bt418.1 then (some true) else (none))))) else (none))))) else (none))))) else (none))))) else (none))))) else (none)))))) = some r := H
  have A5 := Aside0.mk A50
  clear A50
  replace H := Option.bind_eq_some_iff.mp H
  obtain ⟨⟨t399, t400⟩, A60, H⟩ := H
  replace H : ((laws_toTermS.f k l0 false).bind fun t403 => ((impl_ScalePoly.f k t403 a1).bind fun bt406 => ((laws_eqTermS.f k bt406.1 t399).bind fun t410 => (if t410 = true then (if (bt406.2 != t400) = true then (none) else ((laws_toTermS.f k l0 false).bind fun t411 => ((laws_intactTermS.f t403 t411).bind fun t414 => (if t414 = true then ((laws_markTermS.f k t403 101).bind fun bt415 => (if bt415.1 < 0 then (none) else ((laws_eqTermS.f k bt406.1 t399).bind fun t417 => (if t417 = true then ((laws_markTermS.f k bt406.1 101).bind fun bt418 => ((laws_heldTermS.f k bt418.2 101).bind fun t420 => (if t420 < 0 then (none) else (if t420 = bt418.1 then ((laws_toTermS.f k l0 true).bind fun t421 => ((impl_ScalePoly.f k t421 a1).bind fun bt424 => ((laws_eqTermS.f k bt424.1 t399).bind fun t428 => (if t428 = true then (if (bt424.2 != t400) = true then (none) else ((laws_heldTermS.f k bt418.2 101).bind fun t429 => (if t429 < 0 then (none) else (if t429 = bt418.1 then (some true) else (none))))) else (none))))) else (none))))) else (none))))) else (none))))) else (none))))) = some r := H
  have A6 := Aside0.mk A60
  clear A60
  replace H := Option.bind_eq_some_iff.mp H
  obtain ⟨t403, A70, H⟩ := H
  replace H : ((impl_ScalePoly.f k t403 a1).bind fun bt406 => ((laws_eqTermS.f k bt406.1 t399).bind fun t410 => (if t410 = true then (if (bt406.2 != t400) = true then (none) else ((laws_toTermS.f k l0 false).bind fun t411 => ((laws_intactTermS.f t403 t411).bind fun t414 => (if t414 = true then ((laws_markTermS.f k t403 101).bind fun bt415 => (if bt415.1 < 0 then (none) else ((laws_eqTermS.f k bt406.1 t399).bind fun t417 => (if t417 = true then ((laws_markTermS.f k bt406.1 101).bind fun bt418 => ((laws_heldTermS.f k bt418.2 101).bind fun t420 => (if t420 < 0 then (none) else (if t420 = bt418.1 then ((laws_toTermS.f k l0 true).bind fun t421 => ((impl_ScalePoly.f k t421 a1).bind fun bt424 => ((laws_eqTermS.f k bt424.1 t399).bind fun t428 => (if t428 = true then (if (bt424.2 != t400) = true then (none) else ((laws_heldTermS.f k bt418.2 101).bind fun t429 => (if t429 < 0 then (none) else (if t429 = bt418.1 then (some true) else (none))))) else (none))))) else (none))))) else (none))))) else (none))))) else (none)))) = some r := H
  have A7 := Aside0.mk A70
  clear A70
  replace H := Option.bind_eq_some_iff.mp H
  obtain ⟨⟨t406, t407⟩, A80, H⟩ := H
  replace H : ((laws_eqTermS.f k t406 t399).bind fun t410 => (if t410 = true then (if (t407 != t400) = true then (none) else ((laws_toTermS.f k l0 false).bind fun t411 => ((laws_intactTermS.f t403 t411).bind fun t414 => (if t414 = true then ((laws_markTermS.f k t403 101).bind fun bt415 => (if bt415.1 < 0 then (none) else ((laws_eqTermS.f k t406 t399).bind fun t417 => (if t417 = true then ((laws_markTermS.f k t406 101).bind fun bt418 => ((laws_heldTermS.f k bt418.2 101).bind fun t420 => (if t420 < 0 then (none) else (if t420 = bt418.1 then ((laws_toTermS.f k l0 true).bind fun t421 => ((impl_ScalePoly.f k t421 a1).bind fun bt424 => ((laws_eqTermS.f k bt424.1 t399).bind fun t428 => (if t428 = true then (if (bt424.2 != t400) = true then (none) else ((laws_heldTermS.f k bt418.2 101).bind fun t429 => (if t429 < 0 then (none) else (if t429 = bt418.1 then (some true) else (none))))) else (none))))) else (none))))) else (none))))) else (none))))) else (none))) = some r := H
  have A8 := Aside0.mk A80
  clear A80
  replace H := Option.bind_eq_some_iff.mp H
  obtain ⟨t410, A90, H⟩ := H
  replace H : (if t410 = true then (if (t407 != t400) = true then (none) else ((laws_toTermS.f k l0 false).bind fun t411 => ((laws_intactTermS.f t403 t411).bind fun t414 => (if t414 = true then ((laws_markTermS.f k t403 101).bind fun bt415 => (if bt415.1 < 0 then (none) else ((laws_eqTermS.f k t406 t399).bind fun t417 => (if t417 = true then ((laws_markTermS.f k t406 101).bind fun bt418 => ((laws_heldTermS.f k bt418.2 101).bind fun t420 => (if t420 < 0 then (none) else (if t420 = bt418.1 then ((laws_toTermS.f k l0 true).bind fun t421 => ((impl_ScalePoly.f k t421 a1).bind fun bt424 => ((laws_eqTermS.f k bt424.1 t399).bind fun t428 => (if t428 = true then (if (bt424.2 != t400) = true then (none) else ((laws_heldTermS.f k bt418.2 101).bind fun t429 => (if t429 < 0 then (none) else (if t429 = bt418.1 then (some true) else (none))))) else (none))))) else (none))))) else (none))))) else (none))))) else (none)) = some r := H
  have A9 := Aside0.mk A90
  clear A90
  by_cases c10 : t410 = true
  ·
   subst c10
   have H1 : (if (t407 != t400) = true then (none) else ((laws_toTermS.f k l0 false).bind fun t411 => ((laws_intactTermS.f t403 t411).bind fun t414 => (if t414 = true then ((laws_markTermS.f k t403 101).bind fun bt415 => (if bt415.1 < 0 then (none) else ((laws_eqTermS.f k t406 t399).bind fun t417 => (if t417 = true then ((laws_markTermS.f k t406 101).bind fun bt418 => ((laws_heldTermS.f k bt418.2 101).bind fun t420 => (if t420 < 0 then (none) else (if t420 = bt418.1 then ((laws_toTermS.f k l0 true).bind fun t421 => ((impl_ScalePoly.f k t421 a1).bind fun bt424 => ((laws_eqTermS.f k bt424.1 t399).bind fun t428 => (if t428 = true then (if (bt424.2 != t400) = true then (none) else ((laws_heldTermS.f k bt418.2 101).bind fun t429 => (if t429 < 0 then (none) else (if t429 = bt418.1 then (some true) else (none))))) else (none))))) else (none))))) else (none))))) else (none))))) = some r := by rw [if_pos rfl] at H; exact H
   clear H
   have H := H1
   clear H1
   by_cases c11 : (t407 != t400) = true
   ·
    rw [if_pos c11] at H
    exact absurd H (by simp)
   ·
    rw [if_neg c11] at H
    have c11b0 : (t407 != t400) = false := by simpa using c11
    (try (have c11b1 : decide (t407 = t400) = true := by simpa using c11))
    (try (have c11b2 : (t407 == t400) = true := by simpa using c11))
    clear c11
    replace H := Option.bind_eq_some_iff.mp H
    obtain ⟨t411, A120, H⟩ := H
    replace H : ((laws_intactTermS.f t403 t411).bind fun t414 => (if t414 = true then ((laws_markTermS.f k t403 101).bind fun bt415 => (if bt415.1 < 0 then (none) else ((laws_eqTermS.f k t406 t399).bind fun t417 => (if t417 = true then ((laws_markTermS.f k t406 101).bind fun bt418 => ((laws_heldTermS.f k bt418.2 101).bind fun t420 => (if t420 < 0 then (none) else (if t420 = bt418.1 then ((laws_toTermS.f k l0 true).bind fun t421 => ((impl_ScalePoly.f k t421 a1).bind fun bt424 => ((laws_eqTermS.f k bt424.1 t399).bind fun t428 => (if t428 = true then (if (bt424.2 != t400) = true then (none) else ((laws_heldTermS.f k bt418.2 101).bind fun t429 => (if t429 < 0 then (none) else (if t429 = bt418.1 then (some true) else (none))))) else (none))))) else (none))))) else (none))))) else (none))) = some r := H
    have A12 := Aside0.mk A120
    clear A120
    replace H := Option.bind_eq_some_iff.mp H
    obtain ⟨t414, A130, H⟩ := H
    replace H : (if t414 = true then ((laws_markTermS.f k t403 101).bind fun bt415 => (if bt415.1 < 0 then (none) else ((laws_eqTermS.f k t406 t399).bind fun t417 => (if t417 = true then ((laws_markTermS.f k t406 101).bind fun bt418 => ((laws_heldTermS.f k bt418.2 101).bind fun t420 => (if t420 < 0 then (none) else (if t420 = bt418.1 then ((laws_toTermS.f k l0 true).bind fun t421 => ((impl_ScalePoly.f k t421 a1).bind fun bt424 => ((laws_eqTermS.f k bt424.1 t399).bind fun t428 => (if t428 = true then (if (bt424.2 != t400) = true then (none) else ((laws_heldTermS.f k bt418.2 101).bind fun t429 => (if t429 < 0 then (none) else (if t429 = bt418.1 then (some true) else (none))))) else (none))))) else (none))))) else (none))))) else (none)) = some r := H
    have A13 := Aside0.mk A130
    clear A130
    by_cases c14 : t414 = true
    ·
     subst c14
     have H1 : ((laws_markTermS.f k t403 101).bind fun bt415 => (if bt415.1 < 0 then (none) else ((laws_eqTermS.f k t406 t399).bind fun t417 => (if t417 = true then ((laws_markTermS.f k t406 101).bind fun bt418 => ((laws_heldTermS.f k bt418.2 101).bind fun t420 => (if t420 < 0 then (none) else (if t420 = bt418.1 then ((laws_toTermS.f k l0 true).bind fun t421 => ((impl_ScalePoly.f k t421 a1).bind fun bt424 => ((laws_eqTermS.f k bt424.1 t399).bind fun t428 => (if t428 = true then (if (bt424.2 != t400) = true then (none) else ((laws_heldTermS.f k bt418.2 101).bind fun t429 => (if t429 < 0 then (none) else (if t429 = bt418.1 then (some true) else (none))))) else (none))))) else (none))))) else (none))))) = some r := by rw [if_pos rfl] at H; exact H
     clear H
     have H := H1
     clear H1
     replace H := Option.bind_eq_some_iff.mp H
     obtain ⟨⟨t415, t416⟩, A150, H⟩ := H
     replace H : (if t415 < 0 then (none) else ((laws_eqTermS.f k t406 t399).bind fun t417 => (if t417 = true then ((laws_markTermS.f k t406 101).bind fun bt418 => ((laws_heldTermS.f k bt418.2 101).bind fun t420 => (if t420 < 0 then (none) else (if t420 = bt418.1 then ((laws_toTermS.f k l0 true).bind fun t421 => ((impl_ScalePoly.f k t421 a1).bind fun bt424 => ((laws_eqTermS.f k bt424.1 t399).bind fun t428 => (if t428 = true then (if (bt424.2 != t400) = true then (none) else ((laws_heldTermS.f k bt418.2 101).bind fun t429 => (if t429 < 0 then (none) else (if t429 = bt418.1 then (some true) else (none))))) else (none))))) else (none))))) else (none)))) = some r := H
     have A15 := Aside0.mk A150
     clear A150
     by_cases c16 : t415 < 0
     ·
      rw [if_pos c16] at H
      exact absurd H (by simp)
     ·
      rw [if_neg c16] at H
      have c16b0 : decide (t415 < 0) = false := decide_eq_false c16
      clear c16
      replace H := Option.bind_eq_some_iff.mp H
      obtain ⟨t417, A170, H⟩ := H
      replace H : (if t417 = true then ((laws_markTermS.f k t406 101).bind fun bt418 => ((laws_heldTermS.f k bt418.2 101).bind fun t420 => (if t420 < 0 then (none) else (if t420 = bt418.1 then ((laws_toTermS.f k l0 true).bind fun t421 => ((impl_ScalePoly.f k t421 a1).bind fun bt424 => ((laws_eqTermS.f k bt424.1 t399).bind fun t428 => (if t428 = true then (if (bt424.2 != t400) = true then (none) else ((laws_heldTermS.f k bt418.2 101).bind fun t429 => (if t429 < 0 then (none) else (if t429 = bt418.1 then (some true) else (none))))) else (none))))) else (none))))) else (none)) = some r := H
      have A17 := Aside0.mk A170
      clear A170
      by_cases c18 : t417 = true
      ·
       subst c18
       have H1 : ((laws_markTermS.f k t406 101).bind fun bt418 => ((laws_heldTermS.f k bt418.2 101).bind fun t420 => (if t420 < 0 then (none) else (if t420 = bt418.1 then ((laws_toTermS.f k l0 true).bind fun t421 => ((impl_ScalePoly.f k t421 a1).bind fun bt424 => ((laws_eqTermS.f k bt424.1 t399).bind fun t428 => (if t428 = true then (if (bt424.2 != t400) = true then (none) else ((laws_heldTermS.f k bt418.2 101).bind fun t429 => (if t429 < 0 then (none) else (if t429 = bt418.1 then (some true) else (none))))) else (none))))) else (none))))) = some r := by rw [if_pos rfl] at H; exact H
       clear H
       have H := H1
       clear H1
       replace H := Option.bind_eq_some_iff.mp H
       obtain ⟨⟨t418, t419⟩, A190, H⟩ := H
       replace H : ((laws_heldTermS.f k t419 101).bind fun t420 => (if t420 < 0 then (none) else (if t420 = t418 then ((laws_toTermS.f k l0 true).bind fun t421 => ((impl_ScalePoly.f k t421 a1).bind fun bt424 => ((laws_eqTermS.f k bt424.1 t399).bind fun t428 => (if t428 = true then (if (bt424.2 != t400) = true then (none) else ((laws_heldTermS.f k t419 101).bind fun t429 => (if t429 < 0 then (none) else (if t429 = t418 then (some true) else (none))))) else (none))))) else (none)))) = some r := H
       have A19 := Aside0.mk A190
       clear A190
       replace H := Option.bind_eq_some_iff.mp H
       obtain ⟨t420, A200, H⟩ := H
       replace H : (if t420 < 0 then (none) else (if t420 = t418 then ((laws_toTermS.f k l0 true).bind fun t421 => ((impl_ScalePoly.f k t421 a1).bind fun bt424 => ((laws_eqTermS.f k bt424.1 t399).bind fun t428 => (if t428 = true then (if (bt424.2 != t400) = true then (none) else ((laws_heldTermS.f k t419 101).bind fun t429 => (if t429 < 0 then (none) else (if t429 = t418 then (some true) else (none))))) else (none))))) else (none))) = some r := H
       have A20 := Aside0.mk A200
       clear A200
       by_cases c21 : t420 < 0
       ·
        rw [if_pos c21] at H
        exact absurd H (by simp)
       ·
        rw [if_neg c21] at H
        have c21b0 : decide (t420 < 0) = false := decide_eq_false c21
        clear c21
        by_cases c22 : t420 = t418
        ·
         rw [if_pos c22] at H
         have c22b0 : (t420 == t418) = true := beq_iff_eq.mpr c22
         have c22b1 : (t420 != t418) = false := bne_eq_false_iff_eq.mpr c22
         clear c22
         replace H := Option.bind_eq_some_iff.mp H
         obtain ⟨t421, A230, H⟩ := H
         replace H : ((impl_ScalePoly.f k t421 a1).bind fun bt424 => ((laws_eqTermS.f k bt424.1 t399).bind fun t428 => (if t428 = true then (if (bt424.2 != t400) = true then (none) else ((laws_heldTermS.f k t419 101).bind fun t429 => (if t429 < 0 then (none) else (if t429 = t418 then (some true) else (none))))) else (none)))) = some r := H
         have A23 := Aside0.mk A230
         clear A230
         replace H := Option.bind_eq_some_iff.mp H
         obtain ⟨⟨t424, t425⟩, A240, H⟩ := H
         replace H : ((laws_eqTermS.f k t424 t399).bind fun t428 => (if t428 = true then (if (t425 != t400) = true then (none) else ((laws_heldTermS.f k t419 101).bind fun t429 => (if t429 < 0 then (none) else (if t429 = t418 then (some true) else (none))))) else (none))) = some r := H
         have A24 := Aside0.mk A240
         clear A240
         replace H := Option.bind_eq_some_iff.mp H
         obtain ⟨t428, A250, H⟩ := H
         replace H : (if t428 = true then (if (t425 != t400) = true then (none) else ((laws_heldTermS.f k t419 101).bind fun t429 => (if t429 < 0 then (none) else (if t429 = t418 then (some true) else (none))))) else (none)) = some r := H
         have A25 := Aside0.mk A250
         clear A250
         by_cases c26 : t428 = true
         ·
          subst c26
          have H1 : (if (t425 != t400) = true then (none) else ((laws_heldTermS.f k t419 101).bind fun t429 => (if t429 < 0 then (none) else (if t429 = t418 then (some true) else (none))))) = some r := by rw [if_pos rfl] at H; exact H
          clear H
          have H := H1
          clear H1
          by_cases c27 : (t425 != t400) = true
          ·
           rw [if_pos c27] at H
           exact absurd H (by simp)
          ·
           rw [if_neg c27] at H
           have c27b0 : (t425 != t400) = false := by simpa using c27
           (try (have c27b1 : decide (t425 = t400) = true := by simpa using c27))
           (try (have c27b2 : (t425 == t400) = true := by simpa using c27))
           clear c27
           replace H := Option.bind_eq_some_iff.mp H
           obtain ⟨t429, A280, H⟩ := H
           replace H : (if t429 < 0 then (none) else (if t429 = t418 then (some true) else (none))) = some r := H
           have A28 := Aside0.mk A280
           clear A280
           by_cases c29 : t429 < 0
           ·
            rw [if_pos c29] at H
            exact absurd H (by simp)
           ·
            rw [if_neg c29] at H
            have c29b0 : decide (t429 < 0) = false := decide_eq_false c29
            clear c29
            by_cases c30 : t429 = t418
            ·
             rw [if_pos c30] at H
             have c30b0 : (t429 == t418) = true := beq_iff_eq.mpr c30
             have c30b1 : (t429 != t418) = false := bne_eq_false_iff_eq.mpr c30
             clear c30
             obtain rfl := Option.some.inj H
             go_enter Try.func11, Try.ntmps11
             go_wp2_with (first | ((with_reducible refine gate_callee (f := 15) rfl ?_); refine goesL_ (some 18) rfl rfl Try.func15 (by kernel_rfl) rfl #[.slice A0 l0.length c0, .int .i64 1000000] rfl zq6 ?_; (with_reducible refine (laws_szTermS.calls _ _ l0 1000000 t395 _ ?side1 ?side2 A3.out).mono ?_); (case side1 => repeat (first | exact HR0.out | (with_reducible refine Kd.C_alloc ?_ _) | (with_reducible refine Kd.C_drewN ?_ _) | (with_reducible refine Kd.C_drew ?_))); (case side2 => exact HC0.out); rintro e w' ⟨rfl, ⟨nd, rfl⟩⟩; refine ⟨_, rfl, ?_⟩) | ((with_reducible refine gate_callee (f := 17) rfl ?_); refine goesL_ (some 23) rfl rfl Try.func17 (by kernel_rfl) rfl #[.slice A0 l0.length c0, .bool false] rfl zq6 ?_; (with_reducible refine (laws_toTermS.calls k _ _ l0 false t396 _ ?side1 ?side2 A5.out).mono ?_); (case side1 => repeat (first | exact HR0.out | (with_reducible refine Kd.C_alloc ?_ _) | (with_reducible refine Kd.C_drewN ?_ _) | (with_reducible refine Kd.C_drew ?_))); (case side2 => exact HC0.out); rintro e w31 ⟨v397, rfl, ho0, hb, ho0F⟩; refine ⟨_, rfl, ?_⟩; have n0_ := Aside0.mk (Kd.R_lower ho0 (below_size (zb0 HB))); have n0F_ := Aside0.mk (Kd.R_lower ho0F (below_size (zb0 HB))); have n1_ := Aside0.mk (below_step (zb0 HB) hb); clear HB; have HO398 := n0_; have HO398F := n0F_; have HB := n1_; clear n0_ n1_ n0F_; (try clear hb); (try clear hb2); (try clear hk); (try clear hi); (try clear ho0); (try clear ho0F); obtain ⟨Ao32, co32, eo32⟩ := Kd.R_slice HO398.out; subst eo32) | ((with_reducible refine gate_callee (f := 43) rfl ?_); refine goesL_ (some 25) rfl rfl Try.func43 (by kernel_rfl) rfl #[.slice Ao32 t396.length co32, .int .i64 a1] rfl zq6 ?_; (with_reducible refine (spec_ScalePoly.calls k _ _ t396 a1 t399 t400 _ ?side1 ?side2 A6.out).mono ?_); (case side1 => repeat (first | exact (Kd.R_reads' HO398.out).2.2 | (with_reducible refine Kd.C_alloc ?_ _) | (with_reducible refine Kd.C_drewN ?_ _) | (with_reducible refine Kd.C_drew ?_))); (case side2 => exact (Kd.R_reads' HO398.out).2.1); rintro e w33 ⟨v401, rfl, ho0, hb⟩; refine ⟨_, rfl, ?_⟩; have n0_ := Aside0.mk (Kd.R_elder' (zq3 HO398) (Kd.R_base ho0) hb); have n0F_ := Aside0.mk (Kd.R_elder' (zq3 HO398F) (Kd.R_base ho0) hb); have n1_ := Aside0.mk (Kd.R_lower (Kd.R_new' ho0 (Kd.R_lt (zq3 HO398))) (below_size (zb0 HB))); have n2_ := Aside0.mk (below_step (zb0 HB) hb); clear HO398 HO398F; clear HB; have HO398 := n0_; have HO398F := n0F_; have HO402 := n1_; have HB := n2_; clear n0_ n1_ n2_ n0F_; (try clear hb); (try clear hb2); (try clear hk); (try clear hi); (try clear ho0)) | ((with_reducible refine gate_callee (f := 17) rfl ?_); refine goesL_ (some 29) rfl rfl Try.func17 (by kernel_rfl) rfl #[.slice A0 l0.length c0, .bool false] rfl zq6 ?_; (with_reducible refine (laws_toTermS.calls k _ _ l0 false t403 _ ?side1 ?side2 A7.out).mono ?_); (case side1 => repeat (first | exact (Kd.C_below HR0.out HB.out) | (with_reducible refine Kd.C_alloc ?_ _) | (with_reducible refine Kd.C_drewN ?_ _) | (with_reducible refine Kd.C_drew ?_))); (case side2 => exact HC0.out); rintro e w34 ⟨v404, rfl, ho0, hb, ho0F⟩; refine ⟨_, rfl, ?_⟩; have n0_ := Aside0.mk (Kd.R_elder' (zq3 HO402) (Kd.R_base ho0) hb); have n1_ := Aside0.mk (Kd.R_lower (Kd.R_new' ho0 (Kd.R_lt (zq3 HO402))) (below_size (zb0 HB))); have n1F_ := Aside0.mk (Kd.R_lower (Kd.R_new' ho0F (Kd.R_lt (zq3 HO402))) (below_size (zb0 HB))); have n2_ := Aside0.mk (below_step (zb0 HB) hb); clear HO402; clear HB; have HO402 := n0_; have HO405 := n1_; have HO405F := n1F_; have HB := n2_; clear n0_ n1_ n2_ n1F_; (try clear hb); (try clear hb2); (try clear hk); (try clear hi); (try clear ho0); (try clear ho0F); obtain ⟨Ao35, co35, eo35⟩ := Kd.R_slice HO405.out; subst eo35) | ((with_reducible refine gate_callee (f := 44) rfl ?_); refine goesL_ (some 33) rfl rfl Try.func44 (by kernel_rfl) rfl #[.slice Ao35 t403.length co35, .int .i64 a1] rfl zq6 ?_; (with_reducible refine (impl_ScalePoly.calls k _ _ t403 a1 t406 t407 _ ?side1 ?side2 A8.out).mono ?_); (case side1 => repeat (first | exact (Kd.R_reads' HO405.out).2.2 | (with_reducible refine Kd.C_alloc ?_ _) | (with_reducible refine Kd.C_drewN ?_ _) | (with_reducible refine Kd.C_drew ?_))); (case side2 => exact (Kd.R_reads' HO405.out).2.1); rintro e w36 ⟨v408, rfl, ho0, hb⟩; refine ⟨_, rfl, ?_⟩; have n0_ := Aside0.mk (Kd.R_elder' (zq3 HO402) (Kd.R_base ho0) hb); have n1_ := Aside0.mk (Kd.R_elder' (zq3 HO405) (Kd.R_base ho0) hb); have n1F_ := Aside0.mk (Kd.R_elder' (zq3 HO405F) (Kd.R_base ho0) hb); have n2_ := Aside0.mk (Kd.R_lower (Kd.R_new' (Kd.R_new' ho0 (Kd.R_lt (zq3 HO402))) (Kd.R_lt (zq3 HO405))) (below_size (zb0 HB))); have n3_ := Aside0.mk (below_step (zb0 HB) hb); clear HO402; clear HO405 HO405F; clear HB; have HO402 := n0_; have HO405 := n1_; have HO405F := n1F_; have HO409 := n2_; have HB := n3_; clear n0_ n1_ n2_ n3_ n1F_; (try clear hb); (try clear hb2); (try clear hk); (try clear hi); (try clear ho0); obtain ⟨Ao37, co37, eo37⟩ := Kd.R_slice HO409.out; subst eo37; obtain ⟨Ao38, co38, eo38⟩ := Kd.R_slice HO402.out; subst eo38) | ((with_reducible refine gate_callee (f := 26) rfl ?_); refine goesL_ (some 38) rfl rfl Try.func26 (by kernel_rfl) rfl #[.slice Ao37 t406.length co37, .slice Ao38 t399.length co38] rfl zq6 ?_; (with_reducible refine (laws_eqTermS.calls k _ _ t406 _ _ t399 true _ ?side1 ?side2 ?side3 ?side4 A9.out).mono ?_); (case side1 => repeat (first | exact (Kd.R_reads' HO409.out).2.2 | (with_reducible refine Kd.C_alloc ?_ _) | (with_reducible refine Kd.C_drewN ?_ _) | (with_reducible refine Kd.C_drew ?_))); (case side2 => exact (Kd.R_reads' HO409.out).2.1); (case side3 => repeat (first | exact (Kd.R_reads' HO402.out).2.2 | (with_reducible refine Kd.C_alloc ?_ _) | (with_reducible refine Kd.C_drewN ?_ _) | (with_reducible refine Kd.C_drew ?_))); (case side4 => exact (Kd.R_reads' HO402.out).2.1); rintro e w39 ⟨rfl, hb⟩; refine ⟨_, rfl, ?_⟩; have n0_ := Aside0.mk (Kd.R_below (zq3 HO402) hb); have n1_ := Aside0.mk (Kd.R_below (zq3 HO405) hb); have n1F_ := Aside0.mk (Kd.R_below (zq3 HO405F) hb); have n2_ := Aside0.mk (Kd.R_below (zq3 HO409) hb); have n3_ := Aside0.mk (below_step (zb0 HB) hb); clear HO402; clear HO405 HO405F; clear HO409; clear HB; have HO402 := n0_; have HO405 := n1_; have HO405F := n1F_; have HO409 := n2_; have HB := n3_; clear n0_ n1_ n2_ n3_ n1F_; (try clear hb); (try clear hb2); (try clear hk); (try clear hi)) | ((with_reducible refine gate_callee (f := 17) rfl ?_); refine goesL_ (some 47) rfl rfl Try.func17 (by kernel_rfl) rfl #[.slice A0 l0.length c0, .bool false] rfl zq6 ?_; (with_reducible refine (laws_toTermS.calls k _ _ l0 false t411 _ ?side1 ?side2 A12.out).mono ?_); (case side1 => repeat (first | exact (Kd.C_below HR0.out HB.out) | (with_reducible refine Kd.C_alloc ?_ _) | (with_reducible refine Kd.C_drewN ?_ _) | (with_reducible refine Kd.C_drew ?_))); (case side2 => exact HC0.out); rintro e w40 ⟨v412, rfl, ho0, hb, ho0F⟩; refine ⟨_, rfl, ?_⟩; have n0_ := Aside0.mk (Kd.R_elder' (zq3 HO402) (Kd.R_base ho0) hb); have n1_ := Aside0.mk (Kd.R_elder' (zq3 HO405) (Kd.R_base ho0) hb); have n1F_ := Aside0.mk (Kd.R_elder' (zq3 HO405F) (Kd.R_base ho0) hb); have n2_ := Aside0.mk (Kd.R_elder' (zq3 HO409) (Kd.R_base ho0) hb); have n3_ := Aside0.mk (Kd.R_lower (Kd.R_new' (Kd.R_new' (Kd.R_new' ho0 (Kd.R_lt (zq3 HO402))) (Kd.R_lt (zq3 HO405))) (Kd.R_lt (zq3 HO409))) (below_size (zb0 HB))); have n3F_ := Aside0.mk (Kd.R_lower (Kd.R_new' (Kd.R_new' (Kd.R_new' ho0F (Kd.R_lt (zq3 HO402))) (Kd.R_lt (zq3 HO405))) (Kd.R_lt (zq3 HO409))) (below_size (zb0 HB))); have n4_ := Aside0.mk (below_step (zb0 HB) hb); clear HO402; clear HO405 HO405F; clear HO409; clear HB; have HO402 := n0_; have HO405 := n1_; have HO405F := n1F_; have HO409 := n2_; have HO413 := n3_; have HO413F := n3F_; have HB := n4_; clear n0_ n1_ n2_ n3_ n4_ n1F_ n3F_; (try clear hb); (try clear hb2); (try clear hk); (try clear hi); (try clear ho0); (try clear ho0F); obtain ⟨Ao41, co41, eo41⟩ := Kd.R_slice HO413.out; subst eo41) | ((with_reducible refine gate_callee (f := 19) rfl ?_); refine goesL_ (some 48) rfl rfl Try.func19 (by kernel_rfl) rfl #[.slice Ao35 t403.length co35, .slice Ao41 t411.length co41] rfl zq6 ?_; (with_reducible refine (laws_intactTermS.calls _ _ t403 _ _ t411 true _ ?side1 ?side2 ?side3 ?side4 A13.out ?sideF1 ?sideF2 ?sideF3 ?sideF4).mono ?_); (case side1 => repeat (first | exact (Kd.R_reads' HO405.out).2.2 | (with_reducible refine Kd.C_alloc ?_ _) | (with_reducible refine Kd.C_drewN ?_ _) | (with_reducible refine Kd.C_drew ?_))); (case side2 => exact (Kd.R_reads' HO405.out).2.1); (case side3 => repeat (first | exact (Kd.R_reads' HO413.out).2.2 | (with_reducible refine Kd.C_alloc ?_ _) | (with_reducible refine Kd.C_drewN ?_ _) | (with_reducible refine Kd.C_drew ?_))); (case side4 => exact (Kd.R_reads' HO413.out).2.1); (case sideF1 => repeat (first | exact (Kd.R_reads' HO405F.out).2.2 | (with_reducible refine Kd.C_alloc ?_ _) | (with_reducible refine Kd.C_drewN ?_ _) | (with_reducible refine Kd.C_drew ?_))); (case sideF2 => exact (Kd.R_reads' HO405F.out).2.1); (case sideF3 => repeat (first | exact (Kd.R_reads' HO413F.out).2.2 | (with_reducible refine Kd.C_alloc ?_ _) | (with_reducible refine Kd.C_drewN ?_ _) | (with_reducible refine Kd.C_drew ?_))); (case sideF4 => exact (Kd.R_reads' HO413F.out).2.1); rintro e w42 ⟨rfl, hb⟩; refine ⟨_, rfl, ?_⟩; have n0_ := Aside0.mk (Kd.R_below (zq3 HO402) hb); have n1_ := Aside0.mk (Kd.R_below (zq3 HO405) hb); have n1F_ := Aside0.mk (Kd.R_below (zq3 HO405F) hb); have n2_ := Aside0.mk (Kd.R_below (zq3 HO409) hb); have n3_ := Aside0.mk (Kd.R_below (zq3 HO413) hb); have n3F_ := Aside0.mk (Kd.R_below (zq3 HO413F) hb); have n4_ := Aside0.mk (below_step (zb0 HB) hb); clear HO402; clear HO405 HO405F; clear HO409; clear HO413 HO413F; clear HB; have HO402 := n0_; have HO405 := n1_; have HO405F := n1F_; have HO409 := n2_; have HO413 := n3_; have HO413F := n3F_; have HB := n4_; clear n0_ n1_ n2_ n3_ n4_ n1F_ n3F_; (try clear hb); (try clear hb2); (try clear hk); (try clear hi)) | ((with_reducible refine gate_callee (f := 27) rfl ?_); refine goesL_ (some 52) rfl rfl Try.func27 (by kernel_rfl) rfl #[.slice Ao35 t403.length co35, .int .i64 101] rfl zq6 ?_; (with_reducible refine (laws_markTermS.calls k (fun k_ => some k_ = (.slice Ao35 t403.length co35 : Value).ownBlock) (.slice Ao35 t403.length co35) t403 101 t415 t416 w _ ?side1 ?side2 A15.out).mono ?_); (case side1 => exact zb0 HB); (case side2 => exact Kd.R_tight rfl HO405.out); rintro e w43 ⟨rfl, hy0, hb, hkp⟩; refine ⟨_, rfl, ?_⟩; have n0_ := Aside0.mk (Kd.R_mono (ok' := fun k_ => some k_ ≠ (.slice Ao35 t403.length co35 : Value).ownBlock ∧ some k_ ≠ (.slice Ao37 t406.length co37 : Value).ownBlock) (Kd.R_keptB (HO402.out) hkp (fun k_ hk_ hs_ => (hk_.1.1.2) hs_)) (fun k_ hk_ => ⟨hk_.1.1.1.2, hk_.1.1.2⟩)); have n1_ := Aside0.mk (Kd.R_reok rfl hy0 (fun k_ e_ => HO405.out.1 k_ e_)); have n2_ := Aside0.mk (Kd.R_mono (ok' := fun k_ => some k_ ≠ (.slice Ao38 t399.length co38 : Value).ownBlock ∧ some k_ ≠ (.slice Ao35 t403.length co35 : Value).ownBlock) (Kd.R_keptB (HO409.out) hkp (fun k_ hk_ hs_ => (hk_.1.2) hs_)) (fun k_ hk_ => ⟨hk_.1.1.1.2, hk_.1.1.2⟩)); have n3_ := Aside0.mk (hb); clear HO402; clear HO405 HO405F; clear HO409; clear HB; have HO402 := n0_; have HO405 := n1_; have HO409 := n2_; have HB := n3_; clear n0_ n1_ n2_ n3_; (try clear hb); (try clear hkp); (try clear hy0)) | (go_at_call 26; (with_reducible refine (laws_eqTermS.calls k _ _ t406 _ _ t399 true _ ?side1 ?side2 ?side3 ?side4 A17.out).mono ?_); (case side1 => repeat (first | exact (Kd.R_reads' HO409.out).2.2 | (with_reducible refine Kd.C_alloc ?_ _) | (with_reducible refine Kd.C_drewN ?_ _) | (with_reducible refine Kd.C_drew ?_))); (case side2 => exact (Kd.R_reads' HO409.out).2.1); (case side3 => repeat (first | exact (Kd.R_reads' HO402.out).2.2 | (with_reducible refine Kd.C_alloc ?_ _) | (with_reducible refine Kd.C_drewN ?_ _) | (with_reducible refine Kd.C_drew ?_))); (case side4 => exact (Kd.R_reads' HO402.out).2.1); rintro e w44 ⟨rfl, hb⟩; replace HO402 := Aside0.mk (Kd.R_below (zq3 HO402) hb); replace HO409 := Aside0.mk (Kd.R_below (zq3 HO409) hb); replace HB := Aside0.mk (below_step (zb0 HB) hb); (try clear hb); (try clear hb2); (try clear hk); (try clear hi)) | ((with_reducible refine gate_callee (f := 27) rfl ?_); refine goesL_ (some 68) rfl rfl Try.func27 (by kernel_rfl) rfl #[.slice Ao37 t406.length co37, .int .i64 101] rfl zq6 ?_; (with_reducible refine (laws_markTermS.calls k (fun k_ => some k_ = (.slice Ao37 t406.length co37 : Value).ownBlock) (.slice Ao37 t406.length co37) t406 101 t418 t419 w _ ?side1 ?side2 A19.out).mono ?_); (case side1 => exact zb0 HB); (case side2 => exact Kd.R_tight rfl HO409.out); rintro e w45 ⟨rfl, hy0, hb, hkp⟩; refine ⟨_, rfl, ?_⟩; replace HO402 := Aside0.mk (Kd.R_mono (ok' := fun k_ => some k_ ≠ (.slice Ao37 t406.length co37 : Value).ownBlock) (Kd.R_keptB (HO402.out) hkp (fun k_ hk_ hs_ => (hk_.2) hs_)) (fun k_ hk_ => hk_.1.2)); replace HO409 := Aside0.mk (Kd.R_reok rfl hy0 (fun k_ e_ => HO409.out.1 k_ e_)); replace HB := Aside0.mk (hb); (try clear hb); (try clear hkp); (try clear hy0)) | ((with_reducible refine gate_callee (f := 28) rfl ?_); refine goesL_ (some 71) rfl rfl Try.func28 (by kernel_rfl) rfl #[.slice Ao37 t419.length co37, .int .i64 101] rfl (by (try simp only [List.map_toArray, List.map_cons, List.map_nil]); first | done | (rw [show t419.length = t406.length from (Kd.R_reads' HO409.out).1.symm] <;> rfl) | rfl | (simp only [List.length_drop, List.length_take]; rfl)) ?_; (with_reducible refine (laws_heldTermS.calls k _ _ t419 101 t420 _ ?side1 ?side2 A20.out).mono ?_); (case side1 => repeat (first | exact (Kd.R_reads' HO409.out).2.2 | (with_reducible refine Kd.C_alloc ?_ _) | (with_reducible refine Kd.C_drewN ?_ _) | (with_reducible refine Kd.C_drew ?_))); (case side2 => rw [show t419.length = t406.length from (Kd.R_reads' HO409.out).1.symm]; exact (Kd.R_reads' HO409.out).2.1); rintro e w' ⟨rfl, ⟨nd, rfl⟩⟩; refine ⟨_, rfl, ?_⟩) | ((with_reducible refine gate_callee (f := 17) rfl ?_); refine goesL_ (some 79) rfl rfl Try.func17 (by kernel_rfl) rfl #[.slice A0 l0.length c0, .bool true] rfl zq6 ?_; (with_reducible refine (laws_toTermS.calls k _ _ l0 true t421 _ ?side1 ?side2 A23.out).mono ?_); (case side1 => repeat (first | exact (Kd.C_below HR0.out (zb0 HB)) | (with_reducible refine Kd.C_alloc ?_ _) | (with_reducible refine Kd.C_drewN ?_ _) | (with_reducible refine Kd.C_drew ?_))); (case side2 => exact HC0.out); rintro e w46 ⟨v422, rfl, ho0, hb, ho0F⟩; refine ⟨_, rfl, ?_⟩; have n0_ := Aside0.mk (Kd.R_elder' (zq3 HO402) (Kd.R_base ho0) hb); have n1_ := Aside0.mk (Kd.R_elder' (zq3 HO409) (Kd.R_base ho0) hb); have n2_ := Aside0.mk (Kd.R_lower (Kd.R_new' (Kd.R_new' ho0 (Kd.R_lt (zq3 HO402))) (Kd.R_lt (zq3 HO409))) (below_size (zb0 HB))); have n2F_ := Aside0.mk (Kd.R_lower (Kd.R_new' (Kd.R_new' ho0F (Kd.R_lt (zq3 HO402))) (Kd.R_lt (zq3 HO409))) (below_size (zb0 HB))); have n3_ := Aside0.mk (below_step (zb0 HB) hb); clear HO402; clear HO409; clear HB; have HO402 := n0_; have HO409 := n1_; have HO423 := n2_; have HO423F := n2F_; have HB := n3_; clear n0_ n1_ n2_ n3_ n2F_; (try clear hb); (try clear hb2); (try clear hk); (try clear hi); (try clear ho0); (try clear ho0F); obtain ⟨Ao47, co47, eo47⟩ := Kd.R_slice HO423.out; subst eo47) | ((with_reducible refine gate_callee (f := 44) rfl ?_); refine goesL_ (some 81) rfl rfl Try.func44 (by kernel_rfl) rfl #[.slice Ao47 t421.length co47, .int .i64 a1] rfl zq6 ?_; (with_reducible refine (impl_ScalePoly.calls k _ _ t421 a1 t424 t425 _ ?side1 ?side2 A24.out).mono ?_); (case side1 => repeat (first | exact (Kd.R_reads' HO423.out).2.2 | (with_reducible refine Kd.C_alloc ?_ _) | (with_reducible refine Kd.C_drewN ?_ _) | (with_reducible refine Kd.C_drew ?_))); (case side2 => exact (Kd.R_reads' HO423.out).2.1); rintro e w48 ⟨v426, rfl, ho0, hb⟩; refine ⟨_, rfl, ?_⟩; have n0_ := Aside0.mk (Kd.R_elder' (zq3 HO402) (Kd.R_base ho0) hb); have n1_ := Aside0.mk (Kd.R_elder' (zq3 HO409) (Kd.R_base ho0) hb); have n2_ := Aside0.mk (Kd.R_elder' (zq3 HO423) (Kd.R_base ho0) hb); have n2F_ := Aside0.mk (Kd.R_elder' (zq3 HO423F) (Kd.R_base ho0) hb); have n3_ := Aside0.mk (Kd.R_lower (Kd.R_new' (Kd.R_new' (Kd.R_new' ho0 (Kd.R_lt (zq3 HO402))) (Kd.R_lt (zq3 HO409))) (Kd.R_lt (zq3 HO423))) (below_size (zb0 HB))); have n4_ := Aside0.mk (below_step (zb0 HB) hb); clear HO402; clear HO409; clear HO423 HO423F; clear HB; have HO402 := n0_; have HO409 := n1_; have HO423 := n2_; have HO423F := n2F_; have HO427 := n3_; have HB := n4_; clear n0_ n1_ n2_ n3_ n4_ n2F_; (try clear hb); (try clear hb2); (try clear hk); (try clear hi); (try clear ho0); obtain ⟨Ao49, co49, eo49⟩ := Kd.R_slice HO427.out; subst eo49) | ((with_reducible refine gate_callee (f := 26) rfl ?_); refine goesL_ (some 86) rfl rfl Try.func26 (by kernel_rfl) rfl #[.slice Ao49 t424.length co49, .slice Ao38 t399.length co38] rfl zq6 ?_; (with_reducible refine (laws_eqTermS.calls k _ _ t424 _ _ t399 true _ ?side1 ?side2 ?side3 ?side4 A25.out).mono ?_); (case side1 => repeat (first | exact (Kd.R_reads' HO427.out).2.2 | (with_reducible refine Kd.C_alloc ?_ _) | (with_reducible refine Kd.C_drewN ?_ _) | (with_reducible refine Kd.C_drew ?_))); (case side2 => exact (Kd.R_reads' HO427.out).2.1); (case side3 => repeat (first | exact (Kd.R_reads' HO402.out).2.2 | (with_reducible refine Kd.C_alloc ?_ _) | (with_reducible refine Kd.C_drewN ?_ _) | (with_reducible refine Kd.C_drew ?_))); (case side4 => exact (Kd.R_reads' HO402.out).2.1); rintro e w50 ⟨rfl, hb⟩; refine ⟨_, rfl, ?_⟩; replace HO402 := Aside0.mk (Kd.R_below (zq3 HO402) hb); replace HO409 := Aside0.mk (Kd.R_below (zq3 HO409) hb); replace HO427 := Aside0.mk (Kd.R_below (zq3 HO427) hb); replace HB := Aside0.mk (below_step (zb0 HB) hb); (try clear hb); (try clear hb2); (try clear hk); (try clear hi)) | ((with_reducible refine gate_callee (f := 28) rfl ?_); refine goesL_ (some 95) rfl rfl Try.func28 (by kernel_rfl) rfl #[.slice Ao37 t419.length co37, .int .i64 101] rfl (by (try simp only [List.map_toArray, List.map_cons, List.map_nil]); first | done | (rw [show t419.length = t406.length from (Kd.R_reads' HO409.out).1.symm] <;> rfl) | rfl | (simp only [List.length_drop, List.length_take]; rfl)) ?_; (with_reducible refine (laws_heldTermS.calls k _ _ t419 101 t429 _ ?side1 ?side2 A28.out).mono ?_); (case side1 => repeat (first | exact (Kd.R_reads' HO409.out).2.2 | (with_reducible refine Kd.C_alloc ?_ _) | (with_reducible refine Kd.C_drewN ?_ _) | (with_reducible refine Kd.C_drew ?_))); (case side2 => rw [show t419.length = t406.length from (Kd.R_reads' HO409.out).1.symm]; exact (Kd.R_reads' HO409.out).2.1); rintro e w' ⟨rfl, ⟨nd, rfl⟩⟩; refine ⟨_, rfl, ?_⟩))
             go_ret
             exact ⟨by first | rfl | (simp [errW_none, errW_some] <;> rfl) | (simp [*, errW_none, errW_some] <;> rfl), (zb0 HB)⟩
            ·
             rw [if_neg c30] at H
             exact absurd H (by simp)
         ·
          replace c26 := Bool.eq_false_iff.mpr c26
          subst c26
          have H1 : (none) = some r := by rw [if_neg (show ¬ (false = true) by decide)] at H; exact H
          clear H
          have H := H1
          clear H1
          exact absurd H (by simp)
        ·
         rw [if_neg c22] at H
         exact absurd H (by simp)
      ·
       replace c18 := Bool.eq_false_iff.mpr c18
       subst c18
       have H1 : (none) = some r := by rw [if_neg (show ¬ (false = true) by decide)] at H; exact H
       clear H
       have H := H1
       clear H1
       exact absurd H (by simp)
    ·
     replace c14 := Bool.eq_false_iff.mpr c14
     subst c14
     have H1 : (none) = some r := by rw [if_neg (show ¬ (false = true) by decide)] at H; exact H
     clear H
     have H := H1
     clear H1
     exact absurd H (by simp)
  ·
   replace c10 := Bool.eq_false_iff.mpr c10
   subst c10
   have H1 : (none) = some r := by rw [if_neg (show ¬ (false = true) by decide)] at H; exact H
   clear H
   have H := H1
   clear H1
   exact absurd H (by simp)
end Go.Proofs.Ytfnmppeoleicbaa.PD
