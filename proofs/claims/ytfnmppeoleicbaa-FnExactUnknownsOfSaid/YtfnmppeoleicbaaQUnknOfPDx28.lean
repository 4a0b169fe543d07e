-- By wip/mk/drv.py
import Derived.Test.YtfnmppeoleicbaaQUnknOfPDx0
import Derived.Test.YtfnmppeoleicbaaQUnknOfPDx1
import Derived.Test.YtfnmppeoleicbaaQUnknOfPDx2
import Derived.Test.YtfnmppeoleicbaaQUnknOfPDx4
import Derived.Test.YtfnmppeoleicbaaQUnknOfPDx7
import Derived.Test.YtfnmppeoleicbaaQUnknOfPDx12
import Derived.Test.YtfnmppeoleicbaaQUnknOfPDx21
import Derived.Test.YtfnmppeoleicbaaQUnknOfPDx26
import Derived.Test.YtfnmppeoleicbaaQUnknOfPDx27
namespace Go.Proofs.Ytfnmppeoleicbaa.PD
open Go.RowKit Go.Proofs.YtfnmppeoleicbaaW.PrintWords Go.Proofs.YtfnmppeoleicbaaW.PrintLast Go.Proofs.YtfnmppeoleicbaaW.PrintMore
attribute [local go_sem] max2_int min2_int max_two min_two max_three min_three max_four min_four
set_option linter.unusedVariables false
set_option linter.unusedSimpArgs false
/-! ### laws_FnExactUnknownsOf: function 7 -/
set_option maxHeartbeats 8000000 in
set_option maxRecDepth 100000 in
theorem laws_FnExactUnknownsOf.calls (k : Nat) (A0 : Option Addr) (c0 : Nat) (l0 : List (S57)) (r : Bool) (w : World) (hr0 : Kd.C k57 w A0 l0.length l0) (hc0 : l0.length ≤ c0) (h : laws_FnExactUnknownsOf.f k l0 = some r) :
  Calls Try.prog 7 #[.slice A0 l0.length c0] w fun e w' => e = .returned (.bool r) ∧ Below w.heap.size w w' := by
 have HR0 := Aside0.mk hr0
 have HC0 := Aside0.mk hc0
 clear hr0 hc0
 have HB := Aside0.mk (Below.refl w.heap.size w)
 have H : ((laws_szTermS.f l0 1000000).bind fun t329 => (if t329 < 0 then (some true) else ((laws_toTermS.f k l0 false).bind fun t330 => ((spec_UnknownsOf.f k t330).bind fun bt333 => ((laws_toTermS.f k l0 false).bind fun t337 => ((impl_UnknownsOf.f k t337).bind fun bt340 => ((laws_eqIntS.f k bt340.1 bt333.1).bind fun t344 => (if t344 = true then (if (bt340.2 != bt333.2) = true then (none) else ((laws_toTermS.f k l0 false).bind fun t345 => ((laws_intactTermS.f t337 t345).bind fun t348 => (if t348 = true then ((laws_markTermS.f k t337 101).bind fun bt349 => (if bt349.1 < 0 then (none) else ((laws_eqIntS.f k bt340.1 bt333.1).bind fun t351 => (if t351 = true then ((laws_markIntS.f k bt340.1 101).bind fun bt352 => ((laws_heldIntS.f k bt352.2 101).bind fun t354 => (if t354 < 0 then (none) else (if t354 = bt352.1 then ((laws_toTermS.f k l0 true).bind fun t355 => ((impl_UnknownsOf.f k t355).bind fun bt358 => ((laws_eqIntS.f k bt358.1 bt333.1).bind fun t362 => (if t362 = true then (if (bt358.2 != bt333.2) = true then (none) else ((laws_heldIntS.f k bt352.2 101).bind fun t363 => (if t363 < 0 then (none) else (if t363 = bt352.1 then (some true) else (none))))) else (none))))) else (none))))) else (none))))) else (none))))) else (none))))))))) = some r := h
 clear h
 replace H := Option.bind_eq_some_iff.mp H
 obtain ⟨t329, A20, H⟩ := H
 replace H : (if t329 < 0 then (some true) else ((laws_toTermS.f k l0 false).bind fun t330 => ((spec_UnknownsOf.f k t330).bind fun bt333 => ((laws_toTermS.f k l0 false).bind fun t337 => ((impl_UnknownsOf.f k t337).bind fun bt340 => ((laws_eqIntS.f k bt340.1 bt333.1).bind fun t344 => (if t344 = true then (if (bt340.2 != bt333.2) = true then (none) else ((laws_toTermS.f k l0 false).bind fun t345 => ((laws_intactTermS.f t337 t345).bind fun t348 => (if t348 = true then ((laws_markTermS.f k t337 101).bind fun bt349 => (if bt349.1 < 0 then (none) else ((laws_eqIntS.f k bt340.1 bt333.1).bind fun t351 => (if t351 = true then ((laws_markIntS.f k bt340.1 101).bind fun bt352 => ((laws_heldIntS.f k bt352.2 101).bind fun t354 => (if t354 < 0 then (none) else (if t354 = bt352.1 then ((laws_toTermS.f k l0 true).bind fun t355 => ((impl_UnknownsOf.f k t355).bind fun bt358 => ((laws_eqIntS.f k bt358.1 bt333.1).bind fun t362 => (if t362 = true then (if (bt358.2 != bt333.2) = true then (none) else ((laws_heldIntS.f k bt352.2 101).bind fun t363 => (if t363 < 0 then (none) else (if t363 = bt352.1 then (some true) else (none))))) else (none))))) else (none))))) else (none))))) else (none))))) else (none)))))))) = some r := H
 have A2 := Aside0.mk A20
 clear A20
 by_cases c3 : t329 < 0
 ·
  rw [if_pos c3] at H
  have c3b0 : decide (t329 < 0) = true := decide_eq_true c3
  clear c3
  obtain rfl := Option.some.inj H
  go_enter Try.func7, Try.ntmps7
  go_wp2_with (first | ((with_reducible refine gate_callee (f := 15) rfl ?_); refine goesL_ (some 16) rfl rfl Try.func15 (by kernel_rfl) rfl #[.slice A0 l0.length c0, .int .i64 1000000] rfl zq6 ?_; (with_reducible refine (laws_szTermS.calls _ _ l0 1000000 t329 _ ?side1 ?side2 A2.out).mono ?_); (case side1 => repeat (first | exact HR0.out | (with_reducible refine Kd.C_alloc ?_ _) | (with_reducible refine Kd.C_drewN ?_ _) | (with_reducible refine Kd.C_drew ?_))); (case side2 => exact HC0.out); rintro e w' ⟨rfl, ⟨nd, rfl⟩⟩; refine ⟨_, rfl, ?_⟩))
  go_ret
  exact ⟨by first | rfl | (simp [errW_none, errW_some] <;> rfl) | (simp [*, errW_none, errW_some] <;> rfl), (zb0 HB)⟩
 ·
  rw [if_neg c3] at H
  have c3b0 : decide (t329 < 0) = false := decide_eq_false c3
  clear c3
  replace H := Option.bind_eq_some_iff.mp H
  obtain ⟨t330, A40, H⟩ := H
  replace H : ((spec_UnknownsOf.f k t330).bind fun bt333 => ((laws_toTermS.f k l0 false).bind fun t337 => ((impl_UnknownsOf.f k t337).bind fun bt340 => ((laws_eqIntS.f k bt340.1 bt333.1).bind fun t344 => (if t344 = true then (if (bt340.2 != bt333.2) = true then (none) else ((laws_toTermS.f k l0 false).bind fun t345 => ((laws_intactTermS.f t337 t345).bind fun t348 => (if t348 = true then ((laws_markTermS.f k t337 101).bind fun bt349 => (if bt349.1 < 0 then (none) else ((laws_eqIntS.f k bt340.1 bt333.1).bind fun t351 => (if t351 = true then ((laws_markIntS.f k bt340.1 101).bind fun bt352 => ((laws_heldIntS.f k bt352.2 101).bind fun t354 => (if t354 < 0 then (none) else (if t354 = bt352.1 then ((laws_toTermS.f k l0 true).bind fun t355 => ((impl_UnknownsOf.f k t355).bind fun bt358 => ((laws_eqIntS.f k bt358.1 bt333.1).bind fun t362 => (if t362 = true then (if (bt358.2 != bt333.2) = true then (none) else ((laws_heldIntS.f k bt352.2 101).bind fun t363 => (if t363 < 0 then (none) else (if t363 = bt352.1 then (some true) else (none))))) else (none))))) else (none))))) else (none))))) else (none))))) else (none)))))) = some r := H
  have A4 := Aside0.mk A40
  clear A40
  replace H := Option.bind_eq_some_iff.mp H
  obtain ⟨⟨t333, t334⟩, A50, H⟩ := H
  replace H : ((laws_toTermS.f k l0 false).bind fun t337 => ((impl_UnknownsOf.f k t337).bind fun bt340 => ((laws_eqIntS.f k bt340.1 t333).bind fun t344 => (if t344 = true then (if (bt340.2 != t334) = true then (none) else ((laws_toTermS.f k l0 false).bind fun t345 => ((laws_intactTermS.f t337 t345).bind fun t348 => (if t348 = true then ((laws_markTermS.f k t337 101).bind fun bt349 => (if bt349.1 < 0 then (none) else ((laws_eqIntS.f k bt340.1 t333).bind fun t351 => (if t351 = true then ((laws_markIntS.f k bt340.1 101).bind fun bt352 => ((laws_heldIntS.f k bt352.2 101).bind fun t354 => (if t354 < 0 then (none) else (if t354 = bt352.1 then ((laws_toTermS.f k l0 true).bind fun t355 => ((impl_UnknownsOf.f k t355).bind fun bt358 => ((laws_eqIntS.f k bt358.1 t333).bind fun t362 => (if t362 = true then (if (bt358.2 != t334) = true then (none) else ((laws_heldIntS.f k bt352.2 101).bind fun t363 => (if t363 < 0 then (none) else (if t363 = bt352.1 then (some true) else (none))))) else (none))))) else (none))))) else (none))))) else (none))))) else (none))))) = some r := H
  have A5 := Aside0.mk A50
  clear A50
  replace H := Option.bind_eq_some_iff.mp H
  obtain ⟨t337, A60, H⟩ := H
  replace H : ((impl_UnknownsOf.f k t337).bind fun bt340 => ((laws_eqIntS.f k bt340.1 t333).bind fun t344 => (if t344 = true then (if (bt340.2 != t334) = true then (none) else ((laws_toTermS.f k l0 false).bind fun t345 => ((laws_intactTermS.f t337 t345).bind fun t348 => (if t348 = true then ((laws_markTermS.f k t337 101).bind fun bt349 => (if bt349.1 < 0 then (none) else ((laws_eqIntS.f k bt340.1 t333).bind fun t351 => (if t351 = true then ((laws_markIntS.f k bt340.1 101).bind fun bt352 => ((laws_heldIntS.f k bt352.2 101).bind fun t354 => (if t354 < 0 then (none) else (if t354 = bt352.1 then ((laws_toTermS.f k l0 true).bind fun t355 => ((impl_UnknownsOf.f k t355).bind fun bt358 => ((laws_eqIntS.f k bt358.1 t333).bind fun t362 => (if t362 = true then (if (bt358.2 != t334) = true then (none) else ((laws_heldIntS.f k bt352.2 101).bind fun t363 => (if t363 < 0 then (none) else (if t363 = bt352.1 then (some true) else (none))))) else (none))))) else (none))))) else (none))))) else (none))))) else (none)))) = some r := H
  have A6 := Aside0.mk A60
  clear A60
  replace H := Option.bind_eq_some_iff.mp H
  obtain ⟨⟨t340, t341⟩, A70, H⟩ := H
  replace H : ((laws_eqIntS.f k t340 t333).bind fun t344 => (if t344 = true then (if (t341 != t334) = true then (none) else ((laws_toTermS.f k l0 false).bind fun t345 => ((laws_intactTermS.f t337 t345).bind fun t348 => (if t348 = true then ((laws_markTermS.f k t337 101).bind fun bt349 => (if bt349.1 < 0 then (none) else ((laws_eqIntS.f k t340 t333).bind fun t351 => (if t351 = true then ((laws_markIntS.f k t340 101).bind fun bt352 => ((laws_heldIntS.f k bt352.2 101).bind fun t354 => (if t354 < 0 then (none) else (if t354 = bt352.1 then ((laws_toTermS.f k l0 true).bind fun t355 => ((impl_UnknownsOf.f k t355).bind fun bt358 => ((laws_eqIntS.f k bt358.1 t333).bind fun t362 => (if t362 = true then (if (bt358.2 != t334) = true then (none) else ((laws_heldIntS.f k bt352.2 101).bind fun t363 => (if t363 < 0 then (none) else (if t363 = bt352.1 then (some true) else (none))))) else (none))))) else (none))))) else (none))))) else (none))))) else (none))) = some r := H
  have A7 := Aside0.mk A70
  clear A70
  replace H := Option.bind_eq_some_iff.mp H
  obtain ⟨t344, A80, H⟩ := H
  replace H : (if t344 = true then (if (t341 != t334) = true then (none) else ((laws_toTermS.f k l0 false).bind fun t345 => ((laws_intactTermS.f t337 t345).bind fun t348 => (if t348 = true then ((laws_markTermS.f k t337 101).bind fun bt349 => (if bt349.1 < 0 then (none) else ((laws_eqIntS.f k t340 t333).bind fun t351 => (if t351 = true then ((laws_markIntS.f k t340 101).bind fun bt352 => ((laws_heldIntS.f k bt352.2 101).bind fun t354 => (if t354 < 0 then (none) else (if t354 = bt352.1 then ((laws_toTermS.f k l0 true).bind fun t355 => ((impl_UnknownsOf.f k t355).bind fun bt358 => ((laws_eqIntS.f k bt358.1 t333).bind fun t362 => (if t362 = true then (if (bt358.2 != t334) = true then (none) else ((laws_heldIntS.f k bt352.2 101).bind fun t363 => (if t363 < 0 then (none) else (if t363 = bt352.1 then (some true) else (none))))) else (none))))) else (none))))) else (none))))) else (none))))) else (none)) = some r := H
  have A8 := Aside0.mk A80
  clear A80
  by_cases c9 : t344 = true
  ·
   subst c9
   have H1 : (if (t341 != t334) = true then (none) else ((laws_toTermS.f k l0 false).bind fun t345 => ((laws_intactTermS.f t337 t345).bind fun t348 => (if t348 = true then ((laws_markTermS.f k t337 101).bind fun bt349 => (if bt349.1 < 0 then (none) else ((laws_eqIntS.f k t340 t333).bind fun t351 => (if t351 = true then ((laws_markIntS.f k t340 101).bind fun bt352 => ((laws_heldIntS.f k bt352.2 101).bind fun t354 => (if t354 < 0 then (none) else (if t354 = bt352.1 then ((laws_toTermS.f k l0 true).bind fun t355 => ((impl_UnknownsOf.f k t355).bind fun bt358 => ((laws_eqIntS.f k bt358.1 t333).bind fun t362 => (if t362 = true then (if (bt358.2 != t334) = true then (none) else ((laws_heldIntS.f k bt352.2 101).bind fun t363 => (if t363 < 0 then (none) else (if t363 = bt352.1 then (some true) else (none))))) else (none))))) else (none))))) else (none))))) else (none))))) = some r := by rw [if_pos rfl] at H; exact H
   clear H
   have H := H1
   clear H1
   by_cases c10 : (t341 != t334) = true
   ·
    rw [if_pos c10] at H
    exact absurd H (by simp)
   ·
    rw [if_neg c10] at H
    have c10b0 : (t341 != t334) = false := by simpa using c10
    (try (have c10b1 : decide (t341 = t334) = true := by simpa using c10))
    (try (have c10b2 : (t341 == t334) = true := by simpa using c10))
    clear c10
    replace H := Option.bind_eq_some_iff.mp H
    obtain ⟨t345, A110, H⟩ := H
    replace H : ((laws_intactTermS.f t337 t345).bind fun t348 => (if t348 = true then ((laws_markTermS.f k t337 101).bind fun bt349 => (if bt349.1 < 0 then (none) else ((laws_eqIntS.f k t340 t333).bind fun t351 => (if t351 = true then ((laws_markIntS.f k t340 101).bind fun bt352 => ((laws_heldIntS.f k bt352.2 101).bind fun t354 => (if t354 < 0 then (none) else (if t354 = bt352.1 then ((laws_toTermS.f k l0 true).bind fun t355 => ((impl_UnknownsOf.f k t355).bind fun bt358 => ((laws_eqIntS.f k bt358.1 t333).bind fun t362 => (if t362 = true then (if (bt358.2 != t334) = true then (none) else ((laws_heldIntS.f k bt352.2 101).bind fun t363 => (if t363 < 0 then (none) else (if t363 = bt352.1 then (some true) else (none))))) else (none))))) else (none))))) else (none))))) else (none))) = some r := H
    have A11 := Aside0.mk A110
    clear A110
    replace H := Option.bind_eq_some_iff.mp H
    obtain ⟨t348, A120, H⟩ := H
    replace H : (if t348 = true then ((laws_markTermS.f k t337 101).bind fun bt349 => (if bt349.1 < 0 then (none) else ((laws_eqIntS.f k t340 t333).bind fun t351 => (if t351 = true then ((laws_markIntS.f k t340 101).bind fun bt352 => ((laws_heldIntS.f k bt352.2 101).bind fun t354 => (if t354 < 0 then (none) else (if t354 = bt352.1 then ((laws_toTermS.f k l0 true).bind fun t355 => ((impl_UnknownsOf.f k t355).bind fun bt358 => ((laws_eqIntS.f k bt358.1 t333).bind fun t362 => (if t362 = true then (if (bt358.2 != t334) = true then (none) else ((laws_heldIntS.f k bt352.2 101).bind fun t363 => (if t363 < 0 then (none) else (if t363 = bt352.1 then (some true) else (none))))) else (none))))) else (none))))) else (none))))) else (none)) = some r := H
    have A12 := Aside0.mk A120
    clear A120
    by_cases c13 : t348 = true
    ·
     subst c13
     have H1 : ((laws_markTermS.f k t337 101).bind fun bt349 => (if bt349.1 < 0 then (none) else ((laws_eqIntS.f k t340 t333).bind fun t351 => (if t351 = true then ((laws_markIntS.f k t340 101).bind fun bt352 => ((laws_heldIntS.f k bt352.2 101).bind fun t354 => (if t354 < 0 then (none) else (if t354 = bt352.1 then ((laws_toTermS.f k l0 true).bind fun t355 => ((impl_UnknownsOf.f k t355).bind fun bt358 => ((laws_eqIntS.f k bt358.1 t333).bind fun t362 => (if t362 = true then (if (bt358.2 != t334) = true then (none) else ((laws_heldIntS.f k bt352.2 101).bind fun t363 => (if t363 < 0 then (none) else (if t363 = bt352.1 then (some true) else (none))))) else (none))))) else (none))))) else (none))))) = some r := by rw [if_pos rfl] at H; exact H
     clear H
     have H := H1
     clear H1
     replace H := Option.bind_eq_some_iff.mp H
     obtain ⟨⟨t349, t350⟩, A140, H⟩ := H
     replace H : (if t349 < 0 then (none) else ((laws_eqIntS.f k t340 t333).bind fun t351 => (if t351 = true then ((laws_markIntS.f k t340 101).bind fun bt352 => ((laws_heldIntS.f k bt352.2 101).bind fun t354 => (if t354 < 0 then (none) else (if t354 = bt352.1 then ((laws_toTermS.f k l0 true).bind fun t355 => ((impl_UnknownsOf.f k t355).bind fun bt358 => ((laws_eqIntS.f k bt358.1 t333).bind fun t362 => (if t362 = true then (if (bt358.2 != t334) = true then (none) else ((laws_heldIntS.f k bt352.2 101).bind fun t363 => (if t363 < 0 then (none) else (if t363 = bt352.1 then (some true) else (none))))) else (none))))) else (none))))) else (none)))) = some r := H
     have A14 := Aside0.mk A140
     clear A140
     by_cases c15 : t349 < 0
     ·
      rw [if_pos c15] at H
      exact absurd H (by simp)
     ·
      rw [if_neg c15] at H
      have c15b0 : decide (t349 < 0) = false := decide_eq_false c15
      clear c15
      replace H := Option.bind_eq_some_iff.mp H
      obtain ⟨t351, A160, H⟩ := H
      replace H : (if t351 = true then ((laws_markIntS.f k t340 101).bind fun bt352 => ((laws_heldIntS.f k bt352.2 101).bind fun t354 => (if t354 < 0 then (none) else (if t354 = bt352.1 then ((laws_toTermS.f k l0 true).bind fun t355 => ((impl_UnknownsOf.f k t355).bind fun bt358 => ((laws_eqIntS.f k bt358.1 t333).bind fun t362 => (if t362 = true then (if (bt358.2 != t334) = true then (none) else ((laws_heldIntS.f k bt352.2 101).bind fun t363 => (if t363 < 0 then (none) else (if t363 = bt352.1 then (some true) else (none))))) else (none))))) else (none))))) else (none)) = some r := H
      have A16 := Aside0.mk A160
      clear A160
      by_cases c17 : t351 = true
      ·
       subst c17
       have H1 : ((laws_markIntS.f k t340 101).bind fun bt352 => ((laws_heldIntS.f k bt352.2 101).bind fun t354 => (if t354 < 0 then (none) else (if t354 = bt352.1 then ((laws_toTermS.f k l0 true).bind fun t355 => ((impl_UnknownsOf.f k t355).bind fun bt358 => ((laws_eqIntS.f k bt358.1 t333).bind fun t362 => (if t362 = true then (if (bt358.2 != t334) = true then (none) else ((laws_heldIntS.f k bt352.2 101).bind fun t363 => (if t363 < 0 then (none) else (if t363 = bt352.1 then (some true) else (none))))) else (none))))) else (none))))) = some r := by rw [if_pos rfl] at H; exact H
       clear H
       have H := H1
       clear H1
       replace H := Option.bind_eq_some_iff.mp H
       obtain ⟨⟨t352, t353⟩, A180, H⟩ := H
       replace H : ((laws_heldIntS.f k t353 101).bind fun t354 => (if t354 < 0 then (none) else (if t354 = t352 then ((laws_toTermS.f k l0 true).bind fun t355 => ((impl_UnknownsOf.f k t355).bind fun bt358 => ((laws_eqIntS.f k bt358.1 t333).bind fun t362 => (if t362 = true then (if (bt358.2 != t334) = true then (none) else ((laws_heldIntS.f k t353 101).bind fun t363 => (if t363 < 0 then (none) else (if t363 = t352 then (some true) else (none))))) else (none))))) else (none)))) = some r := H
       have A18 := Aside0.mk A180
       clear A180
       replace H := Option.bind_eq_some_iff.mp H
       obtain ⟨t354, A190, H⟩ := H
       replace H : (if t354 < 0 then (none) else (if t354 = t352 then ((laws_toTermS.f k l0 true).bind fun t355 => ((impl_UnknownsOf.f k t355).bind fun bt358 => ((laws_eqIntS.f k bt358.1 t333).bind fun t362 => (if t362 = true then (if (bt358.2 != t334) = true then (none) else ((laws_heldIntS.f k t353 101).bind fun t363 => (if t363 < 0 then (none) else (if t363 = t352 then (some true) else (none))))) else (none))))) else (none))) = some r := H
       have A19 := Aside0.mk A190
       clear A190
       by_cases c20 : t354 < 0
       ·
        rw [if_pos c20] at H
        exact absurd H (by simp)
       ·
        rw [if_neg c20] at H
        have c20b0 : decide (t354 < 0) = false := decide_eq_false c20
        clear c20
        by_cases c21 : t354 = t352
        ·
         rw [if_pos c21] at H
         have c21b0 : (t354 == t352) = true := beq_iff_eq.mpr c21
         have c21b1 : (t354 != t352) = false := bne_eq_false_iff_eq.mpr c21
         clear c21
         replace H := Option.bind_eq_some_iff.mp H
         obtain ⟨t355, A220, H⟩ := H
         replace H : ((impl_UnknownsOf.f k t355).bind fun bt358 => ((laws_eqIntS.f k bt358.1 t333).bind fun t362 => (if t362 = true then (if (bt358.2 != t334) = true then (none) else ((laws_heldIntS.f k t353 101).bind fun t363 => (if t363 < 0 then (none) else (if t363 = t352 then (some true) else (none))))) else (none)))) = some r := H
         have A22 := Aside0.mk A220
         clear A220
         replace H := Option.bind_eq_some_iff.mp H
         obtain ⟨⟨t358, t359⟩, A230, H⟩ := H
         replace H : ((laws_eqIntS.f k t358 t333).bind fun t362 => (if t362 = true then (if (t359 != t334) = true then (none) else ((laws_heldIntS.f k t353 101).bind fun t363 => (if t363 < 0 then (none) else (if t363 = t352 then (some true) else (none))))) else (none))) = some r := H
         have A23 := Aside0.mk A230
         clear A230
         replace H := Option.bind_eq_some_iff.mp H
         obtain ⟨t362, A240, H⟩ := H
         replace H : (if t362 = true then (if (t359 != t334) = true then (none) else ((laws_heldIntS.f k t353 101).bind fun t363 => (if t363 < 0 then (none) else (if t363 = t352 then (some true) else (none))))) else (none)) = some r := H
         have A24 := Aside0.mk A240
         clear A240
         by_cases c25 : t362 = true
         ·
          subst c25
          have H1 : (if (t359 != t334) = true then (none) else ((laws_heldIntS.f k t353 101).bind fun t363 => (if t363 < 0 then (none) else (if t363 = t352 then (some true) else (none))))) = some r := by rw [if_pos rfl] at H; exact H
          clear H
          have H := H1
          clear H1
          by_cases c26 : (t359 != t334) = true
          ·
           rw [if_pos c26] at H
           exact absurd H (by simp)
          ·
           rw [if_neg c26] at H
           have c26b0 : (t359 != t334) = false := by simpa using c26
           (try (have c26b1 : decide (t359 = t334) = true := by simpa using c26))
           (try (have c26b2 : (t359 == t334) = true := by simpa using c26))
           clear c26
           replace H := Option.bind_eq_some_iff.mp H
           obtain ⟨t363, A270, H⟩ := H
           replace H : (if t363 < 0 then (none) else (if t363 = t352 then (some true) else (none))) = some r := H
           have A27 := Aside0.mk A270
           clear A270
           by_cases c28 : t363 < 0
           ·
            rw [if_pos c28] at H
            exact absurd H (by simp)
           ·
            rw [if_neg c28] at H
            have c28b0 : decide (t363 < 0) = false := decide_eq_false c28
            clear c28
            by_cases c29 : t363 = t352
            ·
             rw [if_pos c29] at H
             have c29b0 : (t363 == t352) = true := beq_iff_eq.mpr c29
             have c29b1 : (t363 != t352) = false := bne_eq_false_iff_eq.mpr c29
             clear c29
             obtain rfl := Option.some.inj H
             go_enter Try.func7, Try.ntmps7
             go_wp2_with (first | ((with_reducible refine gate_callee (f := 15) rfl ?_); refine goesL_ (some 16) rfl rfl Try.func15 (by kernel_rfl) rfl #[.slice A0 l0.length c0, .int .i64 1000000] rfl zq6 ?_; (with_reducible refine (laws_szTermS.calls _ _ l0 1000000 t329 _ ?side1 ?side2 A2.out).mono ?_); (case side1 => repeat (first | exact HR0.out | (with_reducible refine Kd.C_alloc ?_ _) | (with_reducible refine Kd.C_drewN ?_ _) | (with_reducible refine Kd.C_drew ?_))); (case side2 => exact HC0.out); rintro e w' ⟨rfl, ⟨nd, rfl⟩⟩; refine ⟨_, rfl, ?_⟩) | ((with_reducible refine gate_callee (f := 17) rfl ?_); refine goesL_ (some 21) rfl rfl Try.func17 (by kernel_rfl) rfl #[.slice A0 l0.length c0, .bool false] rfl zq6 ?_; (with_reducible refine (laws_toTermS.calls k _ _ l0 false t330 _ ?side1 ?side2 A4.out).mono ?_); (case side1 => repeat (first | exact HR0.out | (with_reducible refine Kd.C_alloc ?_ _) | (with_reducible refine Kd.C_drewN ?_ _) | (with_reducible refine Kd.C_drew ?_))); (case side2 => exact HC0.out); rintro e w30 ⟨v331, rfl, ho0, hb, ho0F⟩; refine ⟨_, rfl, ?_⟩; have n0_ := Aside0.mk (Kd.R_lower ho0 (below_size (zb0 HB))); have n0F_ := Aside0.mk (Kd.R_lower ho0F (below_size (zb0 HB))); have n1_ := Aside0.mk (below_step (zb0 HB) hb); clear HB; have HO332 := n0_; have HO332F := n0F_; have HB := n1_; clear n0_ n1_ n0F_; (try clear hb); (try clear hb2); (try clear hk); (try clear hi); (try clear ho0); (try clear ho0F); obtain ⟨Ao31, co31, eo31⟩ := Kd.R_slice HO332.out; subst eo31) | ((with_reducible refine gate_callee (f := 29) rfl ?_); refine goesL_ (some 22) rfl rfl Try.func29 (by kernel_rfl) rfl #[.slice Ao31 t330.length co31] rfl zq6 ?_; (with_reducible refine (spec_UnknownsOf.calls k _ _ t330 t333 t334 _ ?side1 ?side2 A5.out).mono ?_); (case side1 => repeat (first | exact (Kd.R_reads' HO332.out).2.2 | (with_reducible refine Kd.C_alloc ?_ _) | (with_reducible refine Kd.C_drewN ?_ _) | (with_reducible refine Kd.C_drew ?_))); (case side2 => exact (Kd.R_reads' HO332.out).2.1); rintro e w32 ⟨v335, rfl, ho0, hb⟩; refine ⟨_, rfl, ?_⟩; have n0_ := Aside0.mk (Kd.R_below (zq3 HO332) hb); have n0F_ := Aside0.mk (Kd.R_below (zq3 HO332F) hb); have n1_ := Aside0.mk (Kd.R_lower ho0 (below_size (zb0 HB))); have n2_ := Aside0.mk (below_step (zb0 HB) hb); clear HO332 HO332F; clear HB; have HO332 := n0_; have HO332F := n0F_; have HO336 := n1_; have HB := n2_; clear n0_ n1_ n2_ n0F_; (try clear hb); (try clear hb2); (try clear hk); (try clear hi); (try clear ho0)) | ((with_reducible refine gate_callee (f := 17) rfl ?_); refine goesL_ (some 26) rfl rfl Try.func17 (by kernel_rfl) rfl #[.slice A0 l0.length c0, .bool false] rfl zq6 ?_; (with_reducible refine (laws_toTermS.calls k _ _ l0 false t337 _ ?side1 ?side2 A6.out).mono ?_); (case side1 => repeat (first | exact (Kd.C_below HR0.out HB.out) | (with_reducible refine Kd.C_alloc ?_ _) | (with_reducible refine Kd.C_drewN ?_ _) | (with_reducible refine Kd.C_drew ?_))); (case side2 => exact HC0.out); rintro e w33 ⟨v338, rfl, ho0, hb, ho0F⟩; refine ⟨_, rfl, ?_⟩; have n0_ := Aside0.mk (Kd.R_elder' (zq3 HO332) (Kd.R_base ho0) hb); have n0F_ := Aside0.mk (Kd.R_elder' (zq3 HO332F) (Kd.R_base ho0) hb); have n1_ := Aside0.mk (Kd.R_below (zq3 HO336) hb); have n2_ := Aside0.mk (Kd.R_lower (Kd.R_new' ho0 (Kd.R_lt (zq3 HO332))) (below_size (zb0 HB))); have n2F_ := Aside0.mk (Kd.R_lower (Kd.R_new' ho0F (Kd.R_lt (zq3 HO332))) (below_size (zb0 HB))); have n3_ := Aside0.mk (below_step (zb0 HB) hb); clear HO332 HO332F; clear HO336; clear HB; have HO332 := n0_; have HO332F := n0F_; have HO336 := n1_; have HO339 := n2_; have HO339F := n2F_; have HB := n3_; clear n0_ n1_ n2_ n3_ n0F_ n2F_; (try clear hb); (try clear hb2); (try clear hk); (try clear hi); (try clear ho0); (try clear ho0F); obtain ⟨Ao34, co34, eo34⟩ := Kd.R_slice HO339.out; subst eo34) | ((with_reducible refine gate_callee (f := 30) rfl ?_); refine goesL_ (some 29) rfl rfl Try.func30 (by kernel_rfl) rfl #[.slice Ao34 t337.length co34] rfl zq6 ?_; (with_reducible refine (impl_UnknownsOf.calls k _ _ t337 t340 t341 _ ?side1 ?side2 A7.out).mono ?_); (case side1 => repeat (first | exact (Kd.R_reads' HO339.out).2.2 | (with_reducible refine Kd.C_alloc ?_ _) | (with_reducible refine Kd.C_drewN ?_ _) | (with_reducible refine Kd.C_drew ?_))); (case side2 => exact (Kd.R_reads' HO339.out).2.1); rintro e w35 ⟨v342, rfl, ho0, hb⟩; refine ⟨_, rfl, ?_⟩; have n0_ := Aside0.mk (Kd.R_below (zq3 HO332) hb); have n0F_ := Aside0.mk (Kd.R_below (zq3 HO332F) hb); have n1_ := Aside0.mk (Kd.R_elder' (zq3 HO336) (Kd.R_base ho0) hb); have n2_ := Aside0.mk (Kd.R_below (zq3 HO339) hb); have n2F_ := Aside0.mk (Kd.R_below (zq3 HO339F) hb); have n3_ := Aside0.mk (Kd.R_lower (Kd.R_new' ho0 (Kd.R_lt (zq3 HO336))) (below_size (zb0 HB))); have n4_ := Aside0.mk (below_step (zb0 HB) hb); clear HO332 HO332F; clear HO336; clear HO339 HO339F; clear HB; have HO332 := n0_; have HO332F := n0F_; have HO336 := n1_; have HO339 := n2_; have HO339F := n2F_; have HO343 := n3_; have HB := n4_; clear n0_ n1_ n2_ n3_ n4_ n0F_ n2F_; (try clear hb); (try clear hb2); (try clear hk); (try clear hi); (try clear ho0); obtain ⟨Ao36, co36, eo36⟩ := Kd.R_slice HO343.out; subst eo36; obtain ⟨Ao37, co37, eo37⟩ := Kd.R_slice HO336.out; subst eo37) | ((with_reducible refine gate_callee (f := 31) rfl ?_); refine goesL_ (some 34) rfl rfl Try.func31 (by kernel_rfl) rfl #[.slice Ao36 t340.length co36, .slice Ao37 t333.length co37] rfl zq6 ?_; (with_reducible refine (laws_eqIntS.calls k _ _ t340 _ _ t333 true _ ?side1 ?side2 ?side3 ?side4 A8.out).mono ?_); (case side1 => repeat (first | exact (Kd.R_reads' HO343.out).2.2 | (with_reducible refine Kd.C_alloc ?_ _) | (with_reducible refine Kd.C_drewN ?_ _) | (with_reducible refine Kd.C_drew ?_))); (case side2 => exact (Kd.R_reads' HO343.out).2.1); (case side3 => repeat (first | exact (Kd.R_reads' HO336.out).2.2 | (with_reducible refine Kd.C_alloc ?_ _) | (with_reducible refine Kd.C_drewN ?_ _) | (with_reducible refine Kd.C_drew ?_))); (case side4 => exact (Kd.R_reads' HO336.out).2.1); rintro e w' ⟨rfl, ⟨nd, rfl⟩⟩; refine ⟨_, rfl, ?_⟩) | ((with_reducible refine gate_callee (f := 17) rfl ?_); refine goesL_ (some 43) rfl rfl Try.func17 (by kernel_rfl) rfl #[.slice A0 l0.length c0, .bool false] rfl zq6 ?_; (with_reducible refine (laws_toTermS.calls k _ _ l0 false t345 _ ?side1 ?side2 A11.out).mono ?_); (case side1 => repeat (first | exact (Kd.C_below HR0.out (zb0 HB)) | (with_reducible refine Kd.C_alloc ?_ _) | (with_reducible refine Kd.C_drewN ?_ _) | (with_reducible refine Kd.C_drew ?_))); (case side2 => exact HC0.out); rintro e w38 ⟨v346, rfl, ho0, hb, ho0F⟩; refine ⟨_, rfl, ?_⟩; have n0_ := Aside0.mk (Kd.R_elder' (zq3 HO332) (Kd.R_base ho0) hb); have n0F_ := Aside0.mk (Kd.R_elder' (zq3 HO332F) (Kd.R_base ho0) hb); have n1_ := Aside0.mk (Kd.R_below (zq3 HO336) hb); have n2_ := Aside0.mk (Kd.R_elder' (zq3 HO339) (Kd.R_base ho0) hb); have n2F_ := Aside0.mk (Kd.R_elder' (zq3 HO339F) (Kd.R_base ho0) hb); have n3_ := Aside0.mk (Kd.R_below (zq3 HO343) hb); have n4_ := Aside0.mk (Kd.R_lower (Kd.R_new' (Kd.R_new' ho0 (Kd.R_lt (zq3 HO332))) (Kd.R_lt (zq3 HO339))) (below_size (zb0 HB))); have n4F_ := Aside0.mk (Kd.R_lower (Kd.R_new' (Kd.R_new' ho0F (Kd.R_lt (zq3 HO332))) (Kd.R_lt (zq3 HO339))) (below_size (zb0 HB))); have n5_ := Aside0.mk (below_step (zb0 HB) hb); clear HO332 HO332F; clear HO336; clear HO339 HO339F; clear HO343; clear HB; have HO332 := n0_; have HO332F := n0F_; have HO336 := n1_; have HO339 := n2_; have HO339F := n2F_; have HO343 := n3_; have HO347 := n4_; have HO347F := n4F_; have HB := n5_; clear n0_ n1_ n2_ n3_ n4_ n5_ n0F_ n2F_ n4F_; (try clear hb); (try clear hb2); (try clear hk); (try clear hi); (try clear ho0); (try clear ho0F); obtain ⟨Ao39, co39, eo39⟩ := Kd.R_slice HO347.out; subst eo39) | ((with_reducible refine gate_callee (f := 19) rfl ?_); refine goesL_ (some 44) rfl rfl Try.func19 (by kernel_rfl) rfl #[.slice Ao34 t337.length co34, .slice Ao39 t345.length co39] rfl zq6 ?_; (with_reducible refine (laws_intactTermS.calls _ _ t337 _ _ t345 true _ ?side1 ?side2 ?side3 ?side4 A12.out ?sideF1 ?sideF2 ?sideF3 ?sideF4).mono ?_); (case side1 => repeat (first | exact (Kd.R_reads' HO339.out).2.2 | (with_reducible refine Kd.C_alloc ?_ _) | (with_reducible refine Kd.C_drewN ?_ _) | (with_reducible refine Kd.C_drew ?_))); (case side2 => exact (Kd.R_reads' HO339.out).2.1); (case side3 => repeat (first | exact (Kd.R_reads' HO347.out).2.2 | (with_reducible refine Kd.C_alloc ?_ _) | (with_reducible refine Kd.C_drewN ?_ _) | (with_reducible refine Kd.C_drew ?_))); (case side4 => exact (Kd.R_reads' HO347.out).2.1); (case sideF1 => repeat (first | exact (Kd.R_reads' HO339F.out).2.2 | (with_reducible refine Kd.C_alloc ?_ _) | (with_reducible refine Kd.C_drewN ?_ _) | (with_reducible refine Kd.C_drew ?_))); (case sideF2 => exact (Kd.R_reads' HO339F.out).2.1); (case sideF3 => repeat (first | exact (Kd.R_reads' HO347F.out).2.2 | (with_reducible refine Kd.C_alloc ?_ _) | (with_reducible refine Kd.C_drewN ?_ _) | (with_reducible refine Kd.C_drew ?_))); (case sideF4 => exact (Kd.R_reads' HO347F.out).2.1); rintro e w40 ⟨rfl, hb⟩; refine ⟨_, rfl, ?_⟩; have n0_ := Aside0.mk (Kd.R_below (zq3 HO332) hb); have n0F_ := Aside0.mk (Kd.R_below (zq3 HO332F) hb); have n1_ := Aside0.mk (Kd.R_below (zq3 HO336) hb); have n2_ := Aside0.mk (Kd.R_below (zq3 HO339) hb); have n2F_ := Aside0.mk (Kd.R_below (zq3 HO339F) hb); have n3_ := Aside0.mk (Kd.R_below (zq3 HO343) hb); have n4_ := Aside0.mk (Kd.R_below (zq3 HO347) hb); have n4F_ := Aside0.mk (Kd.R_below (zq3 HO347F) hb); have n5_ := Aside0.mk (below_step (zb0 HB) hb); clear HO332 HO332F; clear HO336; clear HO339 HO339F; clear HO343; clear HO347 HO347F; clear HB; have HO332 := n0_; have HO332F := n0F_; have HO336 := n1_; have HO339 := n2_; have HO339F := n2F_; have HO343 := n3_; have HO347 := n4_; have HO347F := n4F_; have HB := n5_; clear n0_ n1_ n2_ n3_ n4_ n5_ n0F_ n2F_ n4F_; (try clear hb); (try clear hb2); (try clear hk); (try clear hi)) | ((with_reducible refine gate_callee (f := 27) rfl ?_); refine goesL_ (some 48) rfl rfl Try.func27 (by kernel_rfl) rfl #[.slice Ao34 t337.length co34, .int .i64 101] rfl zq6 ?_; (with_reducible refine (laws_markTermS.calls k (fun k_ => some k_ = (.slice Ao34 t337.length co34 : Value).ownBlock) (.slice Ao34 t337.length co34) t337 101 t349 t350 w _ ?side1 ?side2 A14.out).mono ?_); (case side1 => exact zb0 HB); (case side2 => exact Kd.R_tight rfl HO339.out); rintro e w41 ⟨rfl, hy0, hb, hkp⟩; refine ⟨_, rfl, ?_⟩; have n0_ := Aside0.mk (Kd.R_mono (ok' := fun k_ => some k_ ≠ (.slice Ao34 t337.length co34 : Value).ownBlock ∧ some k_ ≠ (.slice Ao39 t345.length co39 : Value).ownBlock) (Kd.R_keptB (HO332.out) hkp (fun k_ hk_ hs_ => (hk_.1.2) hs_)) (fun k_ hk_ => ⟨hk_.1.1.2, hk_.1.2⟩)); have n0F_ := Aside0.mk (Kd.R_mono (ok' := fun k_ => some k_ ≠ (.slice Ao34 t337.length co34 : Value).ownBlock ∧ some k_ ≠ (.slice Ao39 t345.length co39 : Value).ownBlock) (Kd.R_keptB (HO332F.out) hkp (fun k_ hk_ hs_ => (hk_.1.2) hs_)) (fun k_ hk_ => ⟨hk_.1.1.2, hk_.1.2⟩)); have n1_ := Aside0.mk (Kd.R_mono (ok' := fun k_ => some k_ ≠ (.slice Ao36 t340.length co36 : Value).ownBlock) (Kd.R_keptB ((Kd.R_apart' HO336.out (Kd.R_typed HO339.out) (by decide))) hkp (fun k_ hk_ hs_ => (hk_.2) hs_)) (fun k_ hk_ => hk_.1.1.2)); have n2_ := Aside0.mk (Kd.R_reok rfl hy0 (fun k_ e_ => HO339.out.1 k_ e_)); have n3_ := Aside0.mk (Kd.R_mono (ok' := fun k_ => some k_ ≠ (.slice Ao37 t333.length co37 : Value).ownBlock) (Kd.R_keptB ((Kd.R_apart' HO343.out (Kd.R_typed HO339.out) (by decide))) hkp (fun k_ hk_ hs_ => (hk_.2) hs_)) (fun k_ hk_ => hk_.1.1.2)); have n4_ := Aside0.mk (Kd.R_mono (ok' := fun k_ => some k_ ≠ (.slice Ao31 t330.length co31 : Value).ownBlock ∧ some k_ ≠ (.slice Ao34 t337.length co34 : Value).ownBlock) (Kd.R_keptB (HO347.out) hkp (fun k_ hk_ hs_ => (hk_.2) hs_)) (fun k_ hk_ => ⟨hk_.1.1.2, hk_.1.2⟩)); have n4F_ := Aside0.mk (Kd.R_mono (ok' := fun k_ => some k_ ≠ (.slice Ao31 t330.length co31 : Value).ownBlock ∧ some k_ ≠ (.slice Ao34 t337.length co34 : Value).ownBlock) (Kd.R_keptB (HO347F.out) hkp (fun k_ hk_ hs_ => (hk_.2) hs_)) (fun k_ hk_ => ⟨hk_.1.1.2, hk_.1.2⟩)); have n5_ := Aside0.mk (hb); clear HO332 HO332F; clear HO336; clear HO339 HO339F; clear HO343; clear HO347 HO347F; clear HB; have HO332 := n0_; have HO332F := n0F_; have HO336 := n1_; have HO339 := n2_; have HO343 := n3_; have HO347 := n4_; have HO347F := n4F_; have HB := n5_; clear n0_ n1_ n2_ n3_ n4_ n5_ n0F_ n4F_; (try clear hb); (try clear hkp); (try clear hy0)) | (go_at_call 31; (with_reducible refine (laws_eqIntS.calls k _ _ t340 _ _ t333 true _ ?side1 ?side2 ?side3 ?side4 A16.out).mono ?_); (case side1 => repeat (first | exact (Kd.R_reads' HO343.out).2.2 | (with_reducible refine Kd.C_alloc ?_ _) | (with_reducible refine Kd.C_drewN ?_ _) | (with_reducible refine Kd.C_drew ?_))); (case side2 => exact (Kd.R_reads' HO343.out).2.1); (case side3 => repeat (first | exact (Kd.R_reads' HO336.out).2.2 | (with_reducible refine Kd.C_alloc ?_ _) | (with_reducible refine Kd.C_drewN ?_ _) | (with_reducible refine Kd.C_drew ?_))); (case side4 => exact (Kd.R_reads' HO336.out).2.1); rintro e w' ⟨rfl, ⟨nd, rfl⟩⟩) | ((with_reducible refine gate_callee (f := 32) rfl ?_); refine goesL_ (some 64) rfl rfl Try.func32 (by kernel_rfl) rfl #[.slice Ao36 t340.length co36, .int .i64 101] rfl zq6 ?_; (with_reducible refine (laws_markIntS.calls k (fun k_ => some k_ = (.slice Ao36 t340.length co36 : Value).ownBlock) (.slice Ao36 t340.length co36) t340 101 t352 t353 w _ ?side1 ?side2 A18.out).mono ?_); (case side1 => exact zb0 HB); (case side2 => exact Kd.R_tight rfl HO343.out); rintro e w42 ⟨rfl, hy0, hb, hkp⟩; refine ⟨_, rfl, ?_⟩; have n0_ := Aside0.mk (Kd.R_mono (ok' := fun k_ => some k_ ≠ (.slice Ao34 t337.length co34 : Value).ownBlock ∧ some k_ ≠ (.slice Ao39 t345.length co39 : Value).ownBlock) (Kd.R_keptB ((Kd.R_apart' HO332.out (Kd.R_typed HO343.out) (by decide))) hkp (fun k_ hk_ hs_ => (hk_.2) hs_)) (fun k_ hk_ => ⟨hk_.1.1.1, hk_.1.1.2⟩)); have n0F_ := Aside0.mk (Kd.R_mono (ok' := fun k_ => some k_ ≠ (.slice Ao34 t337.length co34 : Value).ownBlock ∧ some k_ ≠ (.slice Ao39 t345.length co39 : Value).ownBlock) (Kd.R_keptB ((Kd.R_apart' HO332F.out (Kd.R_typed HO343.out) (by decide))) hkp (fun k_ hk_ hs_ => (hk_.2) hs_)) (fun k_ hk_ => ⟨hk_.1.1.1, hk_.1.1.2⟩)); have n1_ := Aside0.mk (Kd.R_mono (ok' := fun k_ => some k_ ≠ (.slice Ao36 t340.length co36 : Value).ownBlock) (Kd.R_keptB (HO336.out) hkp (fun k_ hk_ hs_ => (hk_) hs_)) (fun k_ hk_ => hk_.1)); have n2_ := Aside0.mk (Kd.R_mono (ok' := fun k_ => some k_ ≠ (.slice Ao31 t330.length co31 : Value).ownBlock ∧ some k_ ≠ (.slice Ao39 t345.length co39 : Value).ownBlock) (Kd.R_keptB ((Kd.R_apart' HO339.out (Kd.R_typed HO343.out) (by decide))) hkp (fun k_ hk_ hs_ => (hk_.2) hs_)) (fun k_ hk_ => ⟨hk_.1.1.1.2, hk_.1.1.2⟩)); have n3_ := Aside0.mk (Kd.R_reok rfl hy0 (fun k_ e_ => HO343.out.1 k_ e_)); have n4_ := Aside0.mk (Kd.R_mono (ok' := fun k_ => some k_ ≠ (.slice Ao31 t330.length co31 : Value).ownBlock ∧ some k_ ≠ (.slice Ao34 t337.length co34 : Value).ownBlock) (Kd.R_keptB ((Kd.R_apart' HO347.out (Kd.R_typed HO343.out) (by decide))) hkp (fun k_ hk_ hs_ => (hk_.2) hs_)) (fun k_ hk_ => ⟨hk_.1.1.1, hk_.1.1.2⟩)); have n4F_ := Aside0.mk (Kd.R_mono (ok' := fun k_ => some k_ ≠ (.slice Ao31 t330.length co31 : Value).ownBlock ∧ some k_ ≠ (.slice Ao34 t337.length co34 : Value).ownBlock) (Kd.R_keptB ((Kd.R_apart' HO347F.out (Kd.R_typed HO343.out) (by decide))) hkp (fun k_ hk_ hs_ => (hk_.2) hs_)) (fun k_ hk_ => ⟨hk_.1.1.1, hk_.1.1.2⟩)); have n5_ := Aside0.mk (hb); clear HO332 HO332F; clear HO336; clear HO339; clear HO343; clear HO347 HO347F; clear HB; have HO332 := n0_; have HO332F := n0F_; have HO336 := n1_; have HO339 := n2_; have HO343 := n3_; have HO347 := n4_; have HO347F := n4F_; have HB := n5_; clear n0_ n1_ n2_ n3_ n4_ n5_ n0F_ n4F_; (try clear hb); (try clear hkp); (try clear hy0)) | ((with_reducible refine gate_callee (f := 33) rfl ?_); refine goesL_ (some 67) rfl rfl Try.func33 (by kernel_rfl) rfl #[.slice Ao36 t353.length co36, .int .i64 101] rfl (by (try simp only [List.map_toArray, List.map_cons, List.map_nil]); first | done | (rw [show t353.length = t340.length from (Kd.R_reads' HO343.out).1.symm] <;> rfl) | rfl | (simp only [List.length_drop, List.length_take]; rfl)) ?_; (with_reducible refine (laws_heldIntS.calls k _ _ t353 101 t354 _ ?side1 ?side2 A19.out).mono ?_); (case side1 => repeat (first | exact (Kd.R_reads' HO343.out).2.2 | (with_reducible refine Kd.C_alloc ?_ _) | (with_reducible refine Kd.C_drewN ?_ _) | (with_reducible refine Kd.C_drew ?_))); (case side2 => rw [show t353.length = t340.length from (Kd.R_reads' HO343.out).1.symm]; exact (Kd.R_reads' HO343.out).2.1); rintro e w' ⟨rfl, ⟨nd, rfl⟩⟩; refine ⟨_, rfl, ?_⟩) | ((with_reducible refine gate_callee (f := 17) rfl ?_); refine goesL_ (some 75) rfl rfl Try.func17 (by kernel_rfl) rfl #[.slice A0 l0.length c0, .bool true] rfl zq6 ?_; (with_reducible refine (laws_toTermS.calls k _ _ l0 true t355 _ ?side1 ?side2 A22.out).mono ?_); (case side1 => repeat (first | exact (Kd.C_below HR0.out (zb0 HB)) | (with_reducible refine Kd.C_alloc ?_ _) | (with_reducible refine Kd.C_drewN ?_ _) | (with_reducible refine Kd.C_drew ?_))); (case side2 => exact HC0.out); rintro e w43 ⟨v356, rfl, ho0, hb, ho0F⟩; refine ⟨_, rfl, ?_⟩; have n0_ := Aside0.mk (Kd.R_elder' (zq3 HO332) (Kd.R_base ho0) hb); have n0F_ := Aside0.mk (Kd.R_elder' (zq3 HO332F) (Kd.R_base ho0) hb); have n1_ := Aside0.mk (Kd.R_below (zq3 HO336) hb); have n2_ := Aside0.mk (Kd.R_elder' (zq3 HO339) (Kd.R_base ho0) hb); have n3_ := Aside0.mk (Kd.R_below (zq3 HO343) hb); have n4_ := Aside0.mk (Kd.R_elder' (zq3 HO347) (Kd.R_base ho0) hb); have n4F_ := Aside0.mk (Kd.R_elder' (zq3 HO347F) (Kd.R_base ho0) hb); have n5_ := Aside0.mk (Kd.R_lower (Kd.R_new' (Kd.R_new' (Kd.R_new' ho0 (Kd.R_lt (zq3 HO332))) (Kd.R_lt (zq3 HO339))) (Kd.R_lt (zq3 HO347))) (below_size (zb0 HB))); have n5F_ := Aside0.mk (Kd.R_lower (Kd.R_new' (Kd.R_new' (Kd.R_new' ho0F (Kd.R_lt (zq3 HO332))) (Kd.R_lt (zq3 HO339))) (Kd.R_lt (zq3 HO347))) (below_size (zb0 HB))); have n6_ := Aside0.mk (below_step (zb0 HB) hb); clear HO332 HO332F; clear HO336; clear HO339; clear HO343; clear HO347 HO347F; clear HB; have HO332 := n0_; have HO332F := n0F_; have HO336 := n1_; have HO339 := n2_; have HO343 := n3_; have HO347 := n4_; have HO347F := n4F_; have HO357 := n5_; have HO357F := n5F_; have HB := n6_; clear n0_ n1_ n2_ n3_ n4_ n5_ n6_ n0F_ n4F_ n5F_; (try clear hb); (try clear hb2); (try clear hk); (try clear hi); (try clear ho0); (try clear ho0F); obtain ⟨Ao44, co44, eo44⟩ := Kd.R_slice HO357.out; subst eo44) | ((with_reducible refine gate_callee (f := 30) rfl ?_); refine goesL_ (some 76) rfl rfl Try.func30 (by kernel_rfl) rfl #[.slice Ao44 t355.length co44] rfl zq6 ?_; (with_reducible refine (impl_UnknownsOf.calls k _ _ t355 t358 t359 _ ?side1 ?side2 A23.out).mono ?_); (case side1 => repeat (first | exact (Kd.R_reads' HO357.out).2.2 | (with_reducible refine Kd.C_alloc ?_ _) | (with_reducible refine Kd.C_drewN ?_ _) | (with_reducible refine Kd.C_drew ?_))); (case side2 => exact (Kd.R_reads' HO357.out).2.1); rintro e w45 ⟨v360, rfl, ho0, hb⟩; refine ⟨_, rfl, ?_⟩; have n0_ := Aside0.mk (Kd.R_below (zq3 HO332) hb); have n0F_ := Aside0.mk (Kd.R_below (zq3 HO332F) hb); have n1_ := Aside0.mk (Kd.R_elder' (zq3 HO336) (Kd.R_base ho0) hb); have n2_ := Aside0.mk (Kd.R_below (zq3 HO339) hb); have n3_ := Aside0.mk (Kd.R_elder' (zq3 HO343) (Kd.R_base ho0) hb); have n4_ := Aside0.mk (Kd.R_below (zq3 HO347) hb); have n4F_ := Aside0.mk (Kd.R_below (zq3 HO347F) hb); have n5_ := Aside0.mk (Kd.R_below (zq3 HO357) hb); have n5F_ := Aside0.mk (Kd.R_below (zq3 HO357F) hb); have n6_ := Aside0.mk (Kd.R_lower (Kd.R_new' (Kd.R_new' ho0 (Kd.R_lt (zq3 HO336))) (Kd.R_lt (zq3 HO343))) (below_size (zb0 HB))); have n7_ := Aside0.mk (below_step (zb0 HB) hb); clear HO332 HO332F; clear HO336; clear HO339; clear HO343; clear HO347 HO347F; clear HO357 HO357F; clear HB; have HO332 := n0_; have HO332F := n0F_; have HO336 := n1_; have HO339 := n2_; have HO343 := n3_; have HO347 := n4_; have HO347F := n4F_; have HO357 := n5_; have HO357F := n5F_; have HO361 := n6_; have HB := n7_; clear n0_ n1_ n2_ n3_ n4_ n5_ n6_ n7_ n0F_ n4F_ n5F_; (try clear hb); (try clear hb2); (try clear hk); (try clear hi); (try clear ho0); obtain ⟨Ao46, co46, eo46⟩ := Kd.R_slice HO361.out; subst eo46) | ((with_reducible refine gate_callee (f := 31) rfl ?_); refine goesL_ (some 81) rfl rfl Try.func31 (by kernel_rfl) rfl #[.slice Ao46 t358.length co46, .slice Ao37 t333.length co37] rfl zq6 ?_; (with_reducible refine (laws_eqIntS.calls k _ _ t358 _ _ t333 true _ ?side1 ?side2 ?side3 ?side4 A24.out).mono ?_); (case side1 => repeat (first | exact (Kd.R_reads' HO361.out).2.2 | (with_reducible refine Kd.C_alloc ?_ _) | (with_reducible refine Kd.C_drewN ?_ _) | (with_reducible refine Kd.C_drew ?_))); (case side2 => exact (Kd.R_reads' HO361.out).2.1); (case side3 => repeat (first | exact (Kd.R_reads' HO336.out).2.2 | (with_reducible refine Kd.C_alloc ?_ _) | (with_reducible refine Kd.C_drewN ?_ _) | (with_reducible refine Kd.C_drew ?_))); (case side4 => exact (Kd.R_reads' HO336.out).2.1); rintro e w' ⟨rfl, ⟨nd, rfl⟩⟩; refine ⟨_, rfl, ?_⟩) | ((with_reducible refine gate_callee (f := 33) rfl ?_); refine goesL_ (some 90) rfl rfl Try.func33 (by kernel_rfl) rfl #[.slice Ao36 t353.length co36, .int .i64 101] rfl (by (try simp only [List.map_toArray, List.map_cons, List.map_nil]); first | done | (rw [show t353.length = t340.length from (Kd.R_reads' HO343.out).1.symm] <;> rfl) | rfl | (simp only [List.length_drop, List.length_take]; rfl)) ?_; (with_reducible refine (laws_heldIntS.calls k _ _ t353 101 t363 _ ?side1 ?side2 A27.out).mono ?_); (case side1 => repeat (first | exact (Kd.R_reads' HO343.out).2.2 | (with_reducible refine Kd.C_alloc ?_ _) | (with_reducible refine Kd.C_drewN ?_ _) | (with_reducible refine Kd.C_drew ?_))); (case side2 => rw [show t353.length = t340.length from (Kd.R_reads' HO343.out).1.symm]; exact (Kd.R_reads' HO343.out).2.1); rintro e w' ⟨rfl, ⟨nd, rfl⟩⟩; refine ⟨_, rfl, ?_⟩))
             go_ret
             exact ⟨by first | rfl | (simp [errW_none, errW_some] <;> rfl) | (simp [*, errW_none, errW_some] <;> rfl), (zb0 HB)⟩
            ·
             rw [if_neg c29] at H
             exact absurd H (by simp)
         ·
          replace c25 := Bool.eq_false_iff.mpr c25
          subst c25
          have H1 : (none) = some r := by rw [if_neg (show ¬ (false = true) by decide)] at H; exact H
          clear H
          have H := H1
          clear H1
          exact absurd H (by simp)
        ·
         rw [if_neg c21] at H
         exact absurd H (by simp)
      ·
       replace c17 := Bool.eq_false_iff.mpr c17
       subst c17
       have H1 : (none) = some r := by rw [if_neg (show ¬ (false = true) by decide)] at H; exact H
       clear H
       have H := H1
       clear H1
       exact absurd H (by simp)
    ·
     replace c13 := Bool.eq_false_iff.mpr c13
     subst c13
     have H1 : (none) = some r := by rw [if_neg (show ¬ (false = true) by decide)] at H; exact H
     clear H
     have H := H1
     clear H1
     exact absurd H (by simp)
  ·
   replace c9 := Bool.eq_false_iff.mpr c9
   subst c9
   have H1 : (none) = some r := by rw [if_neg (show ¬ (false = true) by decide)] at H; exact H
   clear H
   have H := H1
   clear H1
   exact absurd H (by simp)
end Go.Proofs.Ytfnmppeoleicbaa.PD
