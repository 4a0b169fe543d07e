-- By wip/mk/drv.py
import Derived.Test.YtfnmppeoleicbaaQNormlyPDx0
import Derived.Test.YtfnmppeoleicbaaQNormlyPDx1
import Derived.Test.YtfnmppeoleicbaaQNormlyPDx2
import Derived.Test.YtfnmppeoleicbaaQNormlyPDx4
import Derived.Test.YtfnmppeoleicbaaQNormlyPDx5
import Derived.Test.YtfnmppeoleicbaaQNormlyPDx6
import Derived.Test.YtfnmppeoleicbaaQNormlyPDx7
import Derived.Test.YtfnmppeoleicbaaQNormlyPDx11
import Derived.Test.YtfnmppeoleicbaaQNormlyPDx16
namespace Go.Proofs.Ytfnmppeoleicbaa.PD
open Go.RowKit Go.Proofs.YtfnmppeoleicbaaW.PrintWords Go.Proofs.YtfnmppeoleicbaaW.PrintLast Go.Proofs.YtfnmppeoleicbaaW.PrintMore
attribute [local go_sem] max2_int min2_int max_two min_two max_three min_three max_four min_four
set_option linter.unusedVariables false
set_option linter.unusedSimpArgs false
/-! ### laws_FnExactNormalPoly: function 9 -/
set_option maxHeartbeats 8000000 in
set_option maxRecDepth 100000 in
theorem laws_FnExactNormalPoly.calls (k : Nat) (A0 : Option Addr) (c0 : Nat) (l0 : List (S57)) (r : Bool) (w : World) (hr0 : Kd.C k57 w A0 l0.length l0) (hc0 : l0.length ≤ c0) (h : laws_FnExactNormalPoly.f k l0 = some r) :
  Calls Try.prog 9 #[.slice A0 l0.length c0] w fun e w' => e = .returned (.bool r) ∧ Below w.heap.size w w' := by
 have HR0 := Aside0.mk hr0
 have HC0 := Aside0.mk hc0
 clear hr0 hc0
 have HB := Aside0.mk (Below.refl w.heap.size w)
 have H : ((laws_szTermS.f l0 1000000).bind fun t252 => (if t252 < 0 then (some true) else ((laws_toTermS.f k l0 false).bind fun t253 => ((spec_NormalPoly.f k t253).bind fun bt256 => ((laws_toTermS.f k l0 false).bind fun t260 => ((impl_NormalPoly.f k t260).bind fun bt263 => ((laws_eqTermS.f k bt263.1 bt256.1).bind fun t267 => (if t267 = true then (if (bt263.2 != bt256.2) = true then (none) else ((laws_toTermS.f k l0 false).bind fun t268 => ((laws_intactTermS.f t260 t268).bind fun t271 => (if t271 = true then ((laws_markTermS.f k t260 101).bind fun bt272 => (if bt272.1 < 0 then (none) else ((laws_eqTermS.f k bt263.1 bt256.1).bind fun t274 => (if t274 = true then ((laws_markTermS.f k bt263.1 101).bind fun bt275 => ((laws_heldTermS.f k bt275.2 101).bind fun t277 => (if t277 < 0 then (none) else (if t277 = bt275.1 then ((laws_toTermS.f k l0 true).bind fun t278 => ((impl_NormalPoly.f k t278).bind fun bt281 => ((laws_eqTermS.f k bt281.1 bt256.1).bind fun t285 => (if t285 = true then (if (bt281.2 != bt256.2) = true then (none) else ((laws_heldTermS.f k bt275.2 101).bind fun t286 => (if t286 < 0 then (none) else (if t286 = bt275.1 then (some true) else (none))))) else (none))))) else (none))))) else (none))))) else (none))))) else (none))))))))) = some r := h
 clear h
 replace H := Option.bind_eq_some_iff.mp H
 obtain ⟨t252, A20, H⟩ := H
 replace H : (if t252 < 0 then (some true) else ((laws_toTermS.f k l0 false).bind fun t253 => ((spec_NormalPoly.f k t253).bind fun bt256 => ((laws_toTermS.f k l0 false).bind fun t260 => ((impl_NormalPoly.f k t260).bind fun bt263 => ((laws_eqTermS.f k bt263.1 bt256.1).bind fun t267 => (if t267 = true then (if (bt263.2 != bt256.2) = true then (none) else ((laws_toTermS.f k l0 false).bind fun t268 => ((laws_intactTermS.f t260 t268).bind fun t271 => (if t271 = true then ((laws_markTermS.f k t260 101).bind fun bt272 => (if bt272.1 < 0 then (none) else ((laws_eqTermS.f k bt263.1 bt256.1).bind fun t274 => (if t274 = true then ((laws_markTermS.f k bt263.1 101).bind fun bt275 => ((laws_heldTermS.f k bt275.2 101).bind fun t277 => (if t277 < 0 then (none) else (if t277 = bt275.1 then ((laws_toTermS.f k l0 true).bind fun t278 => ((impl_NormalPoly.f k t278).bind fun bt281 => ((laws_eqTermS.f k bt281.1 bt256.1).bind fun t285 => (if t285 = true then (if (bt281.2 != bt256.2) = true then (none) else ((laws_heldTermS.f k bt275.2 101).bind fun t286 => (if t286 < 0 then (none) else (if t286 = bt275.1 then (some true) else (none))))) else (none))))) else (none))))) else (none))))) else (none))))) else (none)))))))) = some r := H
 have A2 := Aside0.mk A20
 clear A20
 by_cases c3 : t252 < 0
 ·
  rw [if_pos c3] at H
  have c3b0 : decide (t252 < 0) = true := decide_eq_true c3
  clear c3
  obtain rfl := Option.some.inj H
  go_enter Try.func9, Try.ntmps9
  go_wp2_with (first | ((with_reducible refine gate_callee (f := 15) rfl ?_); refine goesL_ (some 16) rfl rfl Try.func15 (by kernel_rfl) rfl #[.slice A0 l0.length c0, .int .i64 1000000] rfl zq6 ?_; (with_reducible refine (laws_szTermS.calls _ _ l0 1000000 t252 _ ?side1 ?side2 A2.out).mono ?_); (case side1 => repeat (first | exact HR0.out | (with_reducible refine Kd.C_alloc ?_ _) | (with_reducible refine Kd.C_drewN ?_ _) | (with_reducible refine Kd.C_drew ?_))); (case side2 => exact HC0.out); rintro e w' ⟨rfl, ⟨nd, rfl⟩⟩; refine ⟨_, rfl, ?_⟩))
  go_ret
  exact ⟨by first | rfl | (simp [errW_none, errW_some] <;> rfl) | (simp [*, errW_none, errW_some] <;> rfl), (zb0 HB)⟩
 ·
  rw [if_neg c3] at H
  have c3b0 : decide (t252 < 0) = false := decide_eq_false c3
  clear c3
  replace H := Option.bind_eq_some_iff.mp H
  obtain ⟨t253, A40, H⟩ := H
  replace H : ((spec_NormalPoly.f k t253).bind fun bt256 => ((laws_toTermS.f k l0 false).bind fun t260 => ((impl_NormalPoly.f k t260).bind fun bt263 => ((laws_eqTermS.f k bt263.1 bt256.1).bind fun t267 => (if t267 = true then (if (bt263.2 != bt256.2) = true then (none) else ((laws_toTermS.f k l0 false).bind fun t268 => ((laws_intactTermS.f t260 t268).bind fun t271 => (if t271 = true then ((laws_markTermS.f k t260 101).bind fun bt272 => (if bt272.1 < 0 then (none) else ((laws_eqTermS.f k bt263.1 bt256.1).bind fun t274 => (if t274 = true then ((laws_markTermS.f k bt263.1 101).bind fun bt275 => ((laws_heldTermS.f k bt275.2 101).bind fun t277 => (if t277 < 0 then (none) else (if t277 = bt275.1 then ((laws_toTermS.f k l0 true).bind fun t278 => ((impl_NormalPoly.f k t278).bind fun bt281 => ((laws_eqTermS.f k bt281.1 bt256.1).bind fun t285 => (if t285 = true then (if (bt281.2 != bt256.2) = true then (none) else ((laws_heldTermS.f k bt275.2 101).bind fun t286 => (if t286 < 0 then (none) else (if t286 = bt275.1 then (some true) else (none))))) else (none))))) else (none))))) else (none))))) else (none))))) else (none)))))) = some r := H
  have A4 := Aside0.mk A40
  clear A40
  replace H := Option.bind_eq_some_iff.mp H
  obtain ⟨⟨t256, t257⟩, A50, H⟩ := H
  replace H : ((laws_toTermS.f k l0 false).bind fun t260 => ((impl_NormalPoly.f k t260).bind fun bt263 => ((laws_eqTermS.f k bt263.1 t256).bind fun t267 => (if t267 = true then (if (bt263.2 != t257) = true then (none) else ((laws_toTermS.f k l0 false).bind fun t268 => ((laws_intactTermS.f t260 t268).bind fun t271 => (if t271 = true then ((laws_markTermS.f k t260 101).bind fun bt272 => (if bt272.1 < 0 then (none) else ((laws_eqTermS.f k bt263.1 t256).bind fun t274 => (if t274 = true then ((laws_markTermS.f k bt263.1 101).bind fun bt275 => ((laws_heldTermS.f k bt275.2 101).bind fun t277 => (if t277 < 0 then (none) else (if t277 = bt275.1 then ((laws_toTermS.f k l0 true).bind fun t278 => ((impl_NormalPoly.f k t278).bind fun bt281 => ((laws_eqTermS.f k bt281.1 t256).bind fun t285 => (if t285 = true then (if (bt281.2 != t257) = true then (none) else ((laws_heldTermS.f k bt275.2 101).bind fun t286 => (if t286 < 0 then (none) else (if t286 = bt275.1 then (some true) else (none))))) else (none))))) else (none))))) else (none))))) else (none))))) else (none))))) = some r := H
  have A5 := Aside0.mk A50
  clear A50
  replace H := Option.bind_eq_some_iff.mp H
  obtain ⟨t260, A60, H⟩ := H
  replace H : ((impl_NormalPoly.f k t260).bind fun bt263 => ((laws_eqTermS.f k bt263.1 t256).bind fun t267 => (if t267 = true then (if (bt263.2 != t257) = true then (none) else ((laws_toTermS.f k l0 false).bind fun t268 => ((laws_intactTermS.f t260 t268).bind fun t271 => (if t271 = true then ((laws_markTermS.f k t260 101).bind fun bt272 => (if bt272.1 < 0 then (none) else ((laws_eqTermS.f k bt263.1 t256).bind fun t274 => (if t274 = true then ((laws_markTermS.f k bt263.1 101).bind fun bt275 => ((laws_heldTermS.f k bt275.2 101).bind fun t277 => (if t277 < 0 then (none) else (if t277 = bt275.1 then ((laws_toTermS.f k l0 true).bind fun t278 => ((impl_NormalPoly.f k t278).bind fun bt281 => ((laws_eqTermS.f k bt281.1 t256).bind fun t285 => (if t285 = true then (if (bt281.2 != t257) = true then (none) else ((laws_heldTermS.f k bt275.2 101).bind fun t286 => (if t286 < 0 then (none) else (if t286 = bt275.1 then (some true) else (none))))) else (none))))) else (none))))) else (none))))) else (none))))) else (none)))) = some r := H
  have A6 := Aside0.mk A60
  clear A60
  replace H := Option.bind_eq_some_iff.mp H
  obtain ⟨⟨t263, t264⟩, A70, H⟩ := H
  replace H : ((laws_eqTermS.f k t263 t256).bind fun t267 => (if t267 = true then (if (t264 != t257) = true then (none) else ((laws_toTermS.f k l0 false).bind fun t268 => ((laws_intactTermS.f t260 t268).bind fun t271 => (if t271 = true then ((laws_markTermS.f k t260 101).bind fun bt272 => (if bt272.1 < 0 then (none) else ((laws_eqTermS.f k t263 t256).bind fun t274 => (if t274 = true then ((laws_markTermS.f k t263 101).bind fun bt275 => ((laws_heldTermS.f k bt275.2 101).bind fun t277 => (if t277 < 0 then (none) else (if t277 = bt275.1 then ((laws_toTermS.f k l0 true).bind fun t278 => ((impl_NormalPoly.f k t278).bind fun bt281 => ((laws_eqTermS.f k bt281.1 t256).bind fun t285 => (if t285 = true then (if (bt281.2 != t257) = true then (none) else ((laws_heldTermS.f k bt275.2 101).bind fun t286 => (if t286 < 0 then (none) else (if t286 = bt275.1 then (some true) else (none))))) else (none))))) else (none))))) else (none))))) else (none))))) else (none))) = some r := H
  have A7 := Aside0.mk A70
  clear A70
  replace H := Option.bind_eq_some_iff.mp H
  obtain ⟨t267, A80, H⟩ := H
  replace H : (if t267 = true then (if (t264 != t257) = true then (none) else ((laws_toTermS.f k l0 false).bind fun t268 => ((laws_intactTermS.f t260 t268).bind fun t271 => (if t271 = true then ((laws_markTermS.f k t260 101).bind fun bt272 => (if bt272.1 < 0 then (none) else ((laws_eqTermS.f k t263 t256).bind fun t274 => (if t274 = true then ((laws_markTermS.f k t263 101).bind fun bt275 => ((laws_heldTermS.f k bt275.2 101).bind fun t277 => (if t277 < 0 then (none) else (if t277 = bt275.1 then ((laws_toTermS.f k l0 true).bind fun t278 => ((impl_NormalPoly.f k t278).bind fun bt281 => ((laws_eqTermS.f k bt281.1 t256).bind fun t285 => (if t285 = true then (if (bt281.2 != t257) = true then (none) else ((laws_heldTermS.f k bt275.2 101).bind fun t286 => (if t286 < 0 then (none) else (if t286 = bt275.1 then (some true) else (none))))) else (none))))) else (none))))) else (none))))) else (none))))) else (none)) = some r := H
  have A8 := Aside0.mk A80
  clear A80
  by_cases c9 : t267 = true
  ·
   subst c9
   have H1 : (if (t264 != t257) = true then (none) else ((laws_toTermS.f k l0 false).bind fun t268 => ((laws_intactTermS.f t260 t268).bind fun t271 => (if t271 = true then ((laws_markTermS.f k t260 101).bind fun bt272 => (if bt272.1 < 0 then (none) else ((laws_eqTermS.f k t263 t256).bind fun t274 => (if t274 = true then ((laws_markTermS.f k t263 101).bind fun bt275 => ((laws_heldTermS.f k bt275.2 101).bind fun t277 => (if t277 < 0 then (none) else (if t277 = bt275.1 then ((laws_toTermS.f k l0 true).bind fun t278 => ((impl_NormalPoly.f k t278).bind fun bt281 => ((laws_eqTermS.f k bt281.1 t256).bind fun t285 => (if t285 = true then (if (bt281.2 != t257) = true then (none) else ((laws_heldTermS.f k bt275.2 101).bind fun t286 => (if t286 < 0 then (none) else (if t286 = bt275.1 then (some true) else (none))))) else (none))))) else (none))))) else (none))))) else (none))))) = some r := by rw [if_pos rfl] at H; exact H
   clear H
   have H := H1
   clear H1
   by_cases c10 : (t264 != t257) = true
   ·
    rw [if_pos c10] at H
    exact absurd H (by simp)
   ·
    rw [if_neg c10] at H
    have c10b0 : (t264 != t257) = false := by simpa using c10
    (try (have c10b1 : decide (t264 = t257) = true := by simpa using c10))
    (try (have c10b2 : (t264 == t257) = true := by simpa using c10))
    clear c10
    replace H := Option.bind_eq_some_iff.mp H
    obtain ⟨t268, A110, H⟩ := H
    replace H : ((laws_intactTermS.f t260 t268).bind fun t271 => (if t271 = true then ((laws_markTermS.f k t260 101).bind fun bt272 => (if bt272.1 < 0 then (none) else ((laws_eqTermS.f k t263 t256).bind fun t274 => (if t274 = true then ((laws_markTermS.f k t263 101).bind fun bt275 => ((laws_heldTermS.f k bt275.2 101).bind fun t277 => (if t277 < 0 then (none) else (if t277 = bt275.1 then ((laws_toTermS.f k l0 true).bind fun t278 => ((impl_NormalPoly.f k t278).bind fun bt281 => ((laws_eqTermS.f k bt281.1 t256).bind fun t285 => (if t285 = true then (if (bt281.2 != t257) = true then (none) else ((laws_heldTermS.f k bt275.2 101).bind fun t286 => (if t286 < 0 then (none) else (if t286 = bt275.1 then (some true) else (none))))) else (none))))) else (none))))) else (none))))) else (none))) = some r := H
    have A11 := Aside0.mk A110
    clear A110
    replace H := Option.bind_eq_some_iff.mp H
    obtain ⟨t271, A120, H⟩ := H
    replace H : (if t271 = true then ((laws_markTermS.f k t260 101).bind fun bt272 => (if bt272.1 < 0 then (none) else ((laws_eqTermS.f k t263 t256).bind fun t274 => (if t274 = true then ((laws_markTermS.f k t263 101).bind fun bt275 => ((laws_heldTermS.f k bt275.2 101).bind fun t277 => (if t277 < 0 then (none) else (if t277 = bt275.1 then ((laws_toTermS.f k l0 true).bind fun t278 => ((impl_NormalPoly.f k t278).bind fun bt281 => ((laws_eqTermS.f k bt281.1 t256).bind fun t285 => (if t285 = true then (if (bt281.2 != t257) = true then (none) else ((laws_heldTermS.f k bt275.2 101).bind fun t286 => (if t286 < 0 then (none) else (if t286 = bt275.1 then (some true) else (none))))) else (none))))) else (none))))) else (none))))) else (none)) = some r := H
    have A12 := Aside0.mk A120
    clear A120
    by_cases c13 : t271 = true
    ·
     subst c13
     have H1 : ((laws_markTermS.f k t260 101).bind fun bt272 => (if bt272.1 < 0 then (none) else ((laws_eqTermS.f k t263 t256).bind fun t274 => (if t274 = true then ((laws_markTermS.f k t263 101).bind fun bt275 => ((laws_heldTermS.f k bt275.2 101).bind fun t277 => (if t277 < 0 then (none) else (if t277 = bt275.1 then ((laws_toTermS.f k l0 true).bind fun t278 => ((impl_NormalPoly.f k t278).bind fun bt281 => ((laws_eqTermS.f k bt281.1 t256).bind fun t285 => (if t285 = true then (if (bt281.2 != t257) = true then (none) else ((laws_heldTermS.f k bt275.2 101).bind fun t286 => (if t286 < 0 then (none) else (if t286 = bt275.1 then (some true) else (none))))) else (none))))) else (none))))) else (none))))) = some r := by rw [if_pos rfl] at H; exact H
     clear H
     have H := H1
     clear H1
     replace H := Option.bind_eq_some_iff.mp H
     obtain ⟨⟨t272, t273⟩, A140, H⟩ := H
     replace H : (if t272 < 0 then (none) else ((laws_eqTermS.f k t263 t256).bind fun t274 => (if t274 = true then ((laws_markTermS.f k t263 101).bind fun bt275 => ((laws_heldTermS.f k bt275.2 101).bind fun t277 => (if t277 < 0 then (none) else (if t277 = bt275.1 then ((laws_toTermS.f k l0 true).bind fun t278 => ((impl_NormalPoly.f k t278).bind fun bt281 => ((laws_eqTermS.f k bt281.1 t256).bind fun t285 => (if t285 = true then (if (bt281.2 != t257) = true then (none) else ((laws_heldTermS.f k bt275.2 101).bind fun t286 => (if t286 < 0 then (none) else (if t286 = bt275.1 then (some true) else (none))))) else (none))))) else (none))))) else (none)))) = some r := H
     have A14 := Aside0.mk A140
     clear A140
     by_cases c15 : t272 < 0
     ·
      rw [if_pos c15] at H
      exact absurd H (by simp)
     ·
      rw [if_neg c15] at H
      have c15b0 : decide (t272 < 0) = false := decide_eq_false c15
      clear c15
      replace H := Option.bind_eq_some_iff.mp H
      obtain ⟨t274, A160, H⟩ := H
      replace H : (if t274 = true then ((laws_markTermS.f k t263 101).bind fun bt275 => ((laws_heldTermS.f k bt275.2 101).bind fun t277 => (if t277 < 0 then (none) else (if t277 = bt275.1 then ((laws_toTermS.f k l0 true).bind fun t278 => ((impl_NormalPoly.f k t278).bind fun bt281 => ((laws_eqTermS.f k bt281.1 t256).bind fun t285 => (if t285 = true then (if (bt281.2 != t257) = true then (none) else ((laws_heldTermS.f k bt275.2 101).bind fun t286 => (if t286 < 0 then (none) else (if t286 = bt275.1 then (some true) else (none))))) else (none))))) else (none))))) else (none)) = some r := H
      have A16 := Aside0.mk A160
      clear A160
      by_cases c17 : t274 = true
      ·
       subst c17
       have H1 : ((laws_markTermS.f k t263 101).bind fun bt275 => ((laws_heldTermS.f k bt275.2 101).bind fun t277 => (if t277 < 0 then (none) else (if t277 = bt275.1 then ((laws_toTermS.f k l0 true).bind fun t278 => ((impl_NormalPoly.f k t278).bind fun bt281 => ((laws_eqTermS.f k bt281.1 t256).bind fun t285 => (if t285 = true then (if (bt281.2 != t257) = true then (none) else ((laws_heldTermS.f k bt275.2 101).bind fun t286 => (if t286 < 0 then (none) else (if t286 = bt275.1 then (some true) else (none))))) else (none))))) else (none))))) = some r := by rw [if_pos rfl] at H; exact H
       clear H
       have H := H1
       clear H1
       replace H := Option.bind_eq_some_iff.mp H
       obtain ⟨⟨t275, t276⟩, A180, H⟩ := H
       replace H : ((laws_heldTermS.f k t276 101).bind fun t277 => (if t277 < 0 then (none) else (if t277 = t275 then ((laws_toTermS.f k l0 true).bind fun t278 => ((impl_NormalPoly.f k t278).bind fun bt281 => ((laws_eqTermS.f k bt281.1 t256).bind fun t285 => (if t285 = true then (if (bt281.2 != t257) = true then (none) else ((laws_heldTermS.f k t276 101).bind fun t286 => (if t286 < 0 then (none) else (if t286 = t275 then (some true) else (none))))) else (none))))) else (none)))) = some r := H
       have A18 := Aside0.mk A180
       clear A180
       replace H := Option.bind_eq_some_iff.mp H
       obtain ⟨t277, A190, H⟩ := H
       replace H : (if t277 < 0 then (none) else (if t277 = t275 then ((laws_toTermS.f k l0 true).bind fun t278 => ((impl_NormalPoly.f k t278).bind fun bt281 => ((laws_eqTermS.f k bt281.1 t256).bind fun t285 => (if t285 = true then (if (bt281.2 != t257) = true then (none) else ((laws_heldTermS.f k t276 101).bind fun t286 => (if t286 < 0 then (none) else (if t286 = t275 then (some true) else (none))))) else (none))))) else (none))) = some r := H
       have A19 := Aside0.mk A190
       clear A190
       by_cases c20 : t277 < 0
       ·
        rw [if_pos c20] at H
        exact absurd H (by simp)
       ·
        rw [if_neg c20] at H
        have c20b0 : decide (t277 < 0) = false := decide_eq_false c20
        clear c20
        by_cases c21 : t277 = t275
        ·
         rw [if_pos c21] at H
         have c21b0 : (t277 == t275) = true := beq_iff_eq.mpr c21
         have c21b1 : (t277 != t275) = false := bne_eq_false_iff_eq.mpr c21
         clear c21
         replace H := Option.bind_eq_some_iff.mp H
         obtain ⟨t278, A220, H⟩ := H
         replace H : ((impl_NormalPoly.f k t278).bind fun bt281 => ((laws_eqTermS.f k bt281.1 t256).bind fun t285 => (if t285 = true then (if (bt281.2 != t257) = true then (none) else ((laws_heldTermS.f k t276 101).bind fun t286 => (if t286 < 0 then (none) else (if t286 = t275 then (some true) else (none))))) else (none)))) = some r := H
         have A22 := Aside0.mk A220
         clear A220
         replace H := Option.bind_eq_some_iff.mp H
         obtain ⟨⟨t281, t282⟩, A230, H⟩ := H
         replace H : ((laws_eqTermS.f k t281 t256).bind fun t285 => (if t285 = true then (if (t282 != t257) = true then (none) else ((laws_heldTermS.f k t276 101).bind fun t286 => (if t286 < 0 then (none) else (if t286 = t275 then (some true) else (none))))) else (none))) = some r := H
         have A23 := Aside0.mk A230
         clear A230
         replace H := Option.bind_eq_some_iff.mp H
         obtain ⟨t285, A240, H⟩ := H
         replace H : (if t285 = true then (if (t282 != t257) = true then (none) else ((laws_heldTermS.f k t276 101).bind fun t286 => (if t286 < 0 then (none) else (if t286 = t275 then (some true) else (none))))) else (none)) = some r := H
         have A24 := Aside0.mk A240
         clear A240
         by_cases c25 : t285 = true
         ·
          subst c25
          have H1 : (if (t282 != t257) = true then (none) else ((laws_heldTermS.f k t276 101).bind fun t286 => (if t286 < 0 then (none) else (if t286 = t275 then (some true) else (none))))) = some r := by rw [if_pos rfl] at H; exact H
          clear H
          have H := H1
          clear H1
          by_cases c26 : (t282 != t257) = true
          ·
           rw [if_pos c26] at H
           exact absurd H (by simp)
          ·
           rw [if_neg c26] at H
           have c26b0 : (t282 != t257) = false := by simpa using c26
           (try (have c26b1 : decide (t282 = t257) = true := by simpa using c26))
           (try (have c26b2 : (t282 == t257) = true := by simpa using c26))
           clear c26
           replace H := Option.bind_eq_some_iff.mp H
           obtain ⟨t286, A270, H⟩ := H
           replace H : (if t286 < 0 then (none) else (if t286 = t275 then (some true) else (none))) = some r := H
           have A27 := Aside0.mk A270
           clear A270
           by_cases c28 : t286 < 0
           ·
            rw [if_pos c28] at H
            exact absurd H (by simp)
           ·
            rw [if_neg c28] at H
            have c28b0 : decide (t286 < 0) = false := decide_eq_false c28
            clear c28
            by_cases c29 : t286 = t275
            ·
             rw [if_pos c29] at H
             have c29b0 : (t286 == t275) = true := beq_iff_eq.mpr c29
             have c29b1 : (t286 != t275) = false := bne_eq_false_iff_eq.mpr c29
             clear c29
             obtain rfl := Option.some.inj H
             go_enter Try.func9, Try.ntmps9
             go_wp2_with (first | ((with_reducible refine gate_callee (f := 15) rfl ?_); refine goesL_ (some 16) rfl rfl Try.func15 (by kernel_rfl) rfl #[.slice A0 l0.length c0, .int .i64 1000000] rfl zq6 ?_; (with_reducible refine (laws_szTermS.calls _ _ l0 1000000 t252 _ ?side1 ?side2 A2.out).mono ?_); (case side1 => repeat (first | exact HR0.out | (with_reducible refine Kd.C_alloc ?_ _) | (with_reducible refine Kd.C_drewN ?_ _) | (with_reducible refine Kd.C_drew ?_))); (case side2 => exact HC0.out); rintro e w' ⟨rfl, ⟨nd, rfl⟩⟩; refine ⟨_, rfl, ?_⟩) | ((with_reducible refine gate_callee (f := 17) rfl ?_); refine goesL_ (some 21) rfl rfl Try.func17 (by kernel_rfl) rfl #[.slice A0 l0.length c0, .bool false] rfl zq6 ?_; (with_reducible refine (laws_toTermS.calls k _ _ l0 false t253 _ ?side1 ?side2 A4.out).mono ?_); (case side1 => repeat (first | exact HR0.out | (with_reducible refine Kd.C_alloc ?_ _) | (with_reducible refine Kd.C_drewN ?_ _) | (with_reducible refine Kd.C_drew ?_))); (case side2 => exact HC0.out); rintro e w30 ⟨v254, rfl, ho0, hb, ho0F⟩; refine ⟨_, rfl, ?_⟩; have n0_ := Aside0.mk (Kd.R_lower ho0 (below_size (zb0 HB))); have n0F_ := Aside0.mk (Kd.R_lower ho0F (below_size (zb0 HB))); have n1_ := Aside0.mk (below_step (zb0 HB) hb); clear HB; have HO255 := n0_; have HO255F := n0F_; have HB := n1_; clear n0_ n1_ n0F_; (try clear hb); (try clear hb2); (try clear hk); (try clear hi); (try clear ho0); (try clear ho0F); obtain ⟨Ao31, co31, eo31⟩ := Kd.R_slice HO255.out; subst eo31) | ((with_reducible refine gate_callee (f := 39) rfl ?_); refine goesL_ (some 22) rfl rfl Try.func39 (by kernel_rfl) rfl #[.slice Ao31 t253.length co31] rfl zq6 ?_; (with_reducible refine (spec_NormalPoly.calls k _ _ t253 t256 t257 _ ?side1 ?side2 A5.out).mono ?_); (case side1 => repeat (first | exact (Kd.R_reads' HO255.out).2.2 | (with_reducible refine Kd.C_alloc ?_ _) | (with_reducible refine Kd.C_drewN ?_ _) | (with_reducible refine Kd.C_drew ?_))); (case side2 => exact (Kd.R_reads' HO255.out).2.1); rintro e w32 ⟨v258, rfl, ho0, hb⟩; refine ⟨_, rfl, ?_⟩; have n0_ := Aside0.mk (Kd.R_elder' (zq3 HO255) (Kd.R_base ho0) hb); have n0F_ := Aside0.mk (Kd.R_elder' (zq3 HO255F) (Kd.R_base ho0) hb); have n1_ := Aside0.mk (Kd.R_lower (Kd.R_new' ho0 (Kd.R_lt (zq3 HO255))) (below_size (zb0 HB))); have n2_ := Aside0.mk (below_step (zb0 HB) hb); clear HO255 HO255F; clear HB; have HO255 := n0_; have HO255F := n0F_; have HO259 := n1_; have HB := n2_; clear n0_ n1_ n2_ n0F_; (try clear hb); (try clear hb2); (try clear hk); (try clear hi); (try clear ho0)) | ((with_reducible refine gate_callee (f := 17) rfl ?_); refine goesL_ (some 26) rfl rfl Try.func17 (by kernel_rfl) rfl #[.slice A0 l0.length c0, .bool false] rfl zq6 ?_; (with_reducible refine (laws_toTermS.calls k _ _ l0 false t260 _ ?side1 ?side2 A6.out).mono ?_); (case side1 => repeat (first | exact (Kd.C_below HR0.out HB.out) | (with_reducible refine Kd.C_alloc ?_ _) | (with_reducible refine Kd.C_drewN ?_ _) | (with_reducible refine Kd.C_drew ?_))); (case side2 => exact HC0.out); rintro e w33 ⟨v261, rfl, ho0, hb, ho0F⟩; refine ⟨_, rfl, ?_⟩; have n0_ := Aside0.mk (Kd.R_elder' (zq3 HO259) (Kd.R_base ho0) hb); have n1_ := Aside0.mk (Kd.R_lower (Kd.R_new' ho0 (Kd.R_lt (zq3 HO259))) (below_size (zb0 HB))); have n1F_ := Aside0.mk (Kd.R_lower (Kd.R_new' ho0F (Kd.R_lt (zq3 HO259))) (below_size (zb0 HB))); have n2_ := Aside0.mk (below_step (zb0 HB) hb); clear HO259; clear HB; have HO259 := n0_; have HO262 := n1_; have HO262F := n1F_; have HB := n2_; clear n0_ n1_ n2_ n1F_; (try clear hb); (try clear hb2); (try clear hk); (try clear hi); (try clear ho0); (try clear ho0F); obtain ⟨Ao34, co34, eo34⟩ := Kd.R_slice HO262.out; subst eo34) | ((with_reducible refine gate_callee (f := 40) rfl ?_); refine goesL_ (some 29) rfl rfl Try.func40 (by kernel_rfl) rfl #[.slice Ao34 t260.length co34] rfl zq6 ?_; (with_reducible refine (impl_NormalPoly.calls k _ _ t260 t263 t264 _ ?side1 ?side2 A7.out).mono ?_); (case side1 => repeat (first | exact (Kd.R_reads' HO262.out).2.2 | (with_reducible refine Kd.C_alloc ?_ _) | (with_reducible refine Kd.C_drewN ?_ _) | (with_reducible refine Kd.C_drew ?_))); (case side2 => exact (Kd.R_reads' HO262.out).2.1); rintro e w35 ⟨v265, rfl, ho0, hb⟩; refine ⟨_, rfl, ?_⟩; have n0_ := Aside0.mk (Kd.R_elder' (zq3 HO259) (Kd.R_base ho0) hb); have n1_ := Aside0.mk (Kd.R_elder' (zq3 HO262) (Kd.R_base ho0) hb); have n1F_ := Aside0.mk (Kd.R_elder' (zq3 HO262F) (Kd.R_base ho0) hb); have n2_ := Aside0.mk (Kd.R_lower (Kd.R_new' (Kd.R_new' ho0 (Kd.R_lt (zq3 HO259))) (Kd.R_lt (zq3 HO262))) (below_size (zb0 HB))); have n3_ := Aside0.mk (below_step (zb0 HB) hb); clear HO259; clear HO262 HO262F; clear HB; have HO259 := n0_; have HO262 := n1_; have HO262F := n1F_; have HO266 := n2_; have HB := n3_; clear n0_ n1_ n2_ n3_ n1F_; (try clear hb); (try clear hb2); (try clear hk); (try clear hi); (try clear ho0); obtain ⟨Ao36, co36, eo36⟩ := Kd.R_slice HO266.out; subst eo36; obtain ⟨Ao37, co37, eo37⟩ := Kd.R_slice HO259.out; subst eo37) | ((with_reducible refine gate_callee (f := 26) rfl ?_); refine goesL_ (some 34) rfl rfl Try.func26 (by kernel_rfl) rfl #[.slice Ao36 t263.length co36, .slice Ao37 t256.length co37] rfl zq6 ?_; (with_reducible refine (laws_eqTermS.calls k _ _ t263 _ _ t256 true _ ?side1 ?side2 ?side3 ?side4 A8.out).mono ?_); (case side1 => repeat (first | exact (Kd.R_reads' HO266.out).2.2 | (with_reducible refine Kd.C_alloc ?_ _) | (with_reducible refine Kd.C_drewN ?_ _) | (with_reducible refine Kd.C_drew ?_))); (case side2 => exact (Kd.R_reads' HO266.out).2.1); (case side3 => repeat (first | exact (Kd.R_reads' HO259.out).2.2 | (with_reducible refine Kd.C_alloc ?_ _) | (with_reducible refine Kd.C_drewN ?_ _) | (with_reducible refine Kd.C_drew ?_))); (case side4 => exact (Kd.R_reads' HO259.out).2.1); rintro e w38 ⟨rfl, hb⟩; refine ⟨_, rfl, ?_⟩; have n0_ := Aside0.mk (Kd.R_below (zq3 HO259) hb); have n1_ := Aside0.mk (Kd.R_below (zq3 HO262) hb); have n1F_ := Aside0.mk (Kd.R_below (zq3 HO262F) hb); have n2_ := Aside0.mk (Kd.R_below (zq3 HO266) hb); have n3_ := Aside0.mk (below_step (zb0 HB) hb); clear HO259; clear HO262 HO262F; clear HO266; clear HB; have HO259 := n0_; have HO262 := n1_; have HO262F := n1F_; have HO266 := n2_; have HB := n3_; clear n0_ n1_ n2_ n3_ n1F_; (try clear hb); (try clear hb2); (try clear hk); (try clear hi)) | ((with_reducible refine gate_callee (f := 17) rfl ?_); refine goesL_ (some 43) rfl rfl Try.func17 (by kernel_rfl) rfl #[.slice A0 l0.length c0, .bool false] rfl zq6 ?_; (with_reducible refine (laws_toTermS.calls k _ _ l0 false t268 _ ?side1 ?side2 A11.out).mono ?_); (case side1 => repeat (first | exact (Kd.C_below HR0.out HB.out) | (with_reducible refine Kd.C_alloc ?_ _) | (with_reducible refine Kd.C_drewN ?_ _) | (with_reducible refine Kd.C_drew ?_))); (case side2 => exact HC0.out); rintro e w39 ⟨v269, rfl, ho0, hb, ho0F⟩; refine ⟨_, rfl, ?_⟩; have n0_ := Aside0.mk (Kd.R_elder' (zq3 HO259) (Kd.R_base ho0) hb); have n1_ := Aside0.mk (Kd.R_elder' (zq3 HO262) (Kd.R_base ho0) hb); have n1F_ := Aside0.mk (Kd.R_elder' (zq3 HO262F) (Kd.R_base ho0) hb); have n2_ := Aside0.mk (Kd.R_elder' (zq3 HO266) (Kd.R_base ho0) hb); have n3_ := Aside0.mk (Kd.R_lower (Kd.R_new' (Kd.R_new' (Kd.R_new' ho0 (Kd.R_lt (zq3 HO259))) (Kd.R_lt (zq3 HO262))) (Kd.R_lt (zq3 HO266))) (below_size (zb0 HB))); have n3F_ := Aside0.mk (Kd.R_lower (Kd.R_new' (Kd.R_new' (Kd.R_new' ho0F (Kd.R_lt (zq3 HO259))) (Kd.R_lt (zq3 HO262))) (Kd.R_lt (zq3 HO266))) (below_size (zb0 HB))); have n4_ := Aside0.mk (below_step (zb0 HB) hb); clear HO259; clear HO262 HO262F; clear HO266; clear HB; have HO259 := n0_; have HO262 := n1_; have HO262F := n1F_; have HO266 := n2_; have HO270 := n3_; have HO270F := n3F_; have HB := n4_; clear n0_ n1_ n2_ n3_ n4_ n1F_ n3F_; (try clear hb); (try clear hb2); (try clear hk); (try clear hi); (try clear ho0); (try clear ho0F); obtain ⟨Ao40, co40, eo40⟩ := Kd.R_slice HO270.out; subst eo40) | ((with_reducible refine gate_callee (f := 19) rfl ?_); refine goesL_ (some 44) rfl rfl Try.func19 (by kernel_rfl) rfl #[.slice Ao34 t260.length co34, .slice Ao40 t268.length co40] rfl zq6 ?_; (with_reducible refine (laws_intactTermS.calls _ _ t260 _ _ t268 true _ ?side1 ?side2 ?side3 ?side4 A12.out ?sideF1 ?sideF2 ?sideF3 ?sideF4).mono ?_); (case side1 => repeat (first | exact (Kd.R_reads' HO262.out).2.2 | (with_reducible refine Kd.C_alloc ?_ _) | (with_reducible refine Kd.C_drewN ?_ _) | (with_reducible refine Kd.C_drew ?_))); (case side2 => exact (Kd.R_reads' HO262.out).2.1); (case side3 => repeat (first | exact (Kd.R_reads' HO270.out).2.2 | (with_reducible refine Kd.C_alloc ?_ _) | (with_reducible refine Kd.C_drewN ?_ _) | (with_reducible refine Kd.C_drew ?_))); (case side4 => exact (Kd.R_reads' HO270.out).2.1); (case sideF1 => repeat (first | exact (Kd.R_reads' HO262F.out).2.2 | (with_reducible refine Kd.C_alloc ?_ _) | (with_reducible refine Kd.C_drewN ?_ _) | (with_reducible refine Kd.C_drew ?_))); (case sideF2 => exact (Kd.R_reads' HO262F.out).2.1); (case sideF3 => repeat (first | exact (Kd.R_reads' HO270F.out).2.2 | (with_reducible refine Kd.C_alloc ?_ _) | (with_reducible refine Kd.C_drewN ?_ _) | (with_reducible refine Kd.C_drew ?_))); (case sideF4 => exact (Kd.R_reads' HO270F.out).2.1); rintro e w41 ⟨rfl, hb⟩; refine ⟨_, rfl, ?_⟩; have n0_ := Aside0.mk (Kd.R_below (zq3 HO259) hb); have n1_ := Aside0.mk (Kd.R_below (zq3 HO262) hb); have n1F_ := Aside0.mk (Kd.R_below (zq3 HO262F) hb); have n2_ := Aside0.mk (Kd.R_below (zq3 HO266) hb); have n3_ := Aside0.mk (Kd.R_below (zq3 HO270) hb); have n3F_ := Aside0.mk (Kd.R_below (zq3 HO270F) hb); have n4_ := Aside0.mk (below_step (zb0 HB) hb); clear HO259; clear HO262 HO262F; clear HO266; clear HO270 HO270F; clear HB; have HO259 := n0_; have HO262 := n1_; have HO262F := n1F_; have HO266 := n2_; have HO270 := n3_; have HO270F := n3F_; have HB := n4_; clear n0_ n1_ n2_ n3_ n4_ n1F_ n3F_; (try clear hb); (try clear hb2); (try clear hk); (try clear hi)) | ((with_reducible refine gate_callee (f := 27) rfl ?_); refine goesL_ (some 48) rfl rfl Try.func27 (by kernel_rfl) rfl #[.slice Ao34 t260.length co34, .int .i64 101] rfl zq6 ?_; (with_reducible refine (laws_markTermS.calls k (fun k_ => some k_ = (.slice Ao34 t260.length co34 : Value).ownBlock) (.slice Ao34 t260.length co34) t260 101 t272 t273 w _ ?side1 ?side2 A14.out).mono ?_); (case side1 => exact zb0 HB); (case side2 => exact Kd.R_tight rfl HO262.out); rintro e w42 ⟨rfl, hy0, hb, hkp⟩; refine ⟨_, rfl, ?_⟩; have n0_ := Aside0.mk (Kd.R_mono (ok' := fun k_ => some k_ ≠ (.slice Ao34 t260.length co34 : Value).ownBlock ∧ some k_ ≠ (.slice Ao36 t263.length co36 : Value).ownBlock) (Kd.R_keptB (HO259.out) hkp (fun k_ hk_ hs_ => (hk_.1.1.2) hs_)) (fun k_ hk_ => ⟨hk_.1.1.1.2, hk_.1.1.2⟩)); have n1_ := Aside0.mk (Kd.R_reok rfl hy0 (fun k_ e_ => HO262.out.1 k_ e_)); have n2_ := Aside0.mk (Kd.R_mono (ok' := fun k_ => some k_ ≠ (.slice Ao37 t256.length co37 : Value).ownBlock ∧ some k_ ≠ (.slice Ao34 t260.length co34 : Value).ownBlock) (Kd.R_keptB (HO266.out) hkp (fun k_ hk_ hs_ => (hk_.1.2) hs_)) (fun k_ hk_ => ⟨hk_.1.1.1.2, hk_.1.1.2⟩)); have n3_ := Aside0.mk (hb); clear HO259; clear HO262 HO262F; clear HO266; clear HB; have HO259 := n0_; have HO262 := n1_; have HO266 := n2_; have HB := n3_; clear n0_ n1_ n2_ n3_; (try clear hb); (try clear hkp); (try clear hy0)) | (go_at_call 26; (with_reducible refine (laws_eqTermS.calls k _ _ t263 _ _ t256 true _ ?side1 ?side2 ?side3 ?side4 A16.out).mono ?_); (case side1 => repeat (first | exact (Kd.R_reads' HO266.out).2.2 | (with_reducible refine Kd.C_alloc ?_ _) | (with_reducible refine Kd.C_drewN ?_ _) | (with_reducible refine Kd.C_drew ?_))); (case side2 => exact (Kd.R_reads' HO266.out).2.1); (case side3 => repeat (first | exact (Kd.R_reads' HO259.out).2.2 | (with_reducible refine Kd.C_alloc ?_ _) | (with_reducible refine Kd.C_drewN ?_ _) | (with_reducible refine Kd.C_drew ?_))); (case side4 => exact (Kd.R_reads' HO259.out).2.1); rintro e w43 ⟨rfl, hb⟩; replace HO259 := Aside0.mk (Kd.R_below (zq3 HO259) hb); replace HO266 := Aside0.mk (Kd.R_below (zq3 HO266) hb); replace HB := Aside0.mk (below_step (zb0 HB) hb); (try clear hb); (try clear hb2); (try clear hk); (try clear hi)) | ((with_reducible refine gate_callee (f := 27) rfl ?_); refine goesL_ (some 64) rfl rfl Try.func27 (by kernel_rfl) rfl #[.slice Ao36 t263.length co36, .int .i64 101] rfl zq6 ?_; (with_reducible refine (laws_markTermS.calls k (fun k_ => some k_ = (.slice Ao36 t263.length co36 : Value).ownBlock) (.slice Ao36 t263.length co36) t263 101 t275 t276 w _ ?side1 ?side2 A18.out).mono ?_); (case side1 => exact zb0 HB); (case side2 => exact Kd.R_tight rfl HO266.out); rintro e w44 ⟨rfl, hy0, hb, hkp⟩; refine ⟨_, rfl, ?_⟩; replace HO259 := Aside0.mk (Kd.R_mono (ok' := fun k_ => some k_ ≠ (.slice Ao36 t263.length co36 : Value).ownBlock) (Kd.R_keptB (HO259.out) hkp (fun k_ hk_ hs_ => (hk_.2) hs_)) (fun k_ hk_ => hk_.1.2)); replace HO266 := Aside0.mk (Kd.R_reok rfl hy0 (fun k_ e_ => HO266.out.1 k_ e_)); replace HB := Aside0.mk (hb); (try clear hb); (try clear hkp); (try clear hy0)) | ((with_reducible refine gate_callee (f := 28) rfl ?_); refine goesL_ (some 67) rfl rfl Try.func28 (by kernel_rfl) rfl #[.slice Ao36 t276.length co36, .int .i64 101] rfl (by (try simp only [List.map_toArray, List.map_cons, List.map_nil]); first | done | (rw [show t276.length = t263.length from (Kd.R_reads' HO266.out).1.symm] <;> rfl) | rfl | (simp only [List.length_drop, List.length_take]; rfl)) ?_; (with_reducible refine (laws_heldTermS.calls k _ _ t276 101 t277 _ ?side1 ?side2 A19.out).mono ?_); (case side1 => repeat (first | exact (Kd.R_reads' HO266.out).2.2 | (with_reducible refine Kd.C_alloc ?_ _) | (with_reducible refine Kd.C_drewN ?_ _) | (with_reducible refine Kd.C_drew ?_))); (case side2 => rw [show t276.length = t263.length from (Kd.R_reads' HO266.out).1.symm]; exact (Kd.R_reads' HO266.out).2.1); rintro e w' ⟨rfl, ⟨nd, rfl⟩⟩; refine ⟨_, rfl, ?_⟩) | ((with_reducible refine gate_callee (f := 17) rfl ?_); refine goesL_ (some 75) rfl rfl Try.func17 (by kernel_rfl) rfl #[.slice A0 l0.length c0, .bool true] rfl zq6 ?_; (with_reducible refine (laws_toTermS.calls k _ _ l0 true t278 _ ?side1 ?side2 A22.out).mono ?_); (case side1 => repeat (first | exact (Kd.C_below HR0.out (zb0 HB)) | (with_reducible refine Kd.C_alloc ?_ _) | (with_reducible refine Kd.C_drewN ?_ _) | (with_reducible refine Kd.C_drew ?_))); (case side2 => exact HC0.out); rintro e w45 ⟨v279, rfl, ho0, hb, ho0F⟩; refine ⟨_, rfl, ?_⟩; have n0_ := Aside0.mk (Kd.R_elder' (zq3 HO259) (Kd.R_base ho0) hb); have n1_ := Aside0.mk (Kd.R_elder' (zq3 HO266) (Kd.R_base ho0) hb); have n2_ := Aside0.mk (Kd.R_lower (Kd.R_new' (Kd.R_new' ho0 (Kd.R_lt (zq3 HO259))) (Kd.R_lt (zq3 HO266))) (below_size (zb0 HB))); have n2F_ := Aside0.mk (Kd.R_lower (Kd.R_new' (Kd.R_new' ho0F (Kd.R_lt (zq3 HO259))) (Kd.R_lt (zq3 HO266))) (below_size (zb0 HB))); have n3_ := Aside0.mk (below_step (zb0 HB) hb); clear HO259; clear HO266; clear HB; have HO259 := n0_; have HO266 := n1_; have HO280 := n2_; have HO280F := n2F_; have HB := n3_; clear n0_ n1_ n2_ n3_ n2F_; (try clear hb); (try clear hb2); (try clear hk); (try clear hi); (try clear ho0); (try clear ho0F); obtain ⟨Ao46, co46, eo46⟩ := Kd.R_slice HO280.out; subst eo46) | ((with_reducible refine gate_callee (f := 40) rfl ?_); refine goesL_ (some 76) rfl rfl Try.func40 (by kernel_rfl) rfl #[.slice Ao46 t278.length co46] rfl zq6 ?_; (with_reducible refine (impl_NormalPoly.calls k _ _ t278 t281 t282 _ ?side1 ?side2 A23.out).mono ?_); (case side1 => repeat (first | exact (Kd.R_reads' HO280.out).2.2 | (with_reducible refine Kd.C_alloc ?_ _) | (with_reducible refine Kd.C_drewN ?_ _) | (with_reducible refine Kd.C_drew ?_))); (case side2 => exact (Kd.R_reads' HO280.out).2.1); rintro e w47 ⟨v283, rfl, ho0, hb⟩; refine ⟨_, rfl, ?_⟩; have n0_ := Aside0.mk (Kd.R_elder' (zq3 HO259) (Kd.R_base ho0) hb); have n1_ := Aside0.mk (Kd.R_elder' (zq3 HO266) (Kd.R_base ho0) hb); have n2_ := Aside0.mk (Kd.R_elder' (zq3 HO280) (Kd.R_base ho0) hb); have n2F_ := Aside0.mk (Kd.R_elder' (zq3 HO280F) (Kd.R_base ho0) hb); have n3_ := Aside0.mk (Kd.R_lower (Kd.R_new' (Kd.R_new' (Kd.R_new' ho0 (Kd.R_lt (zq3 HO259))) (Kd.R_lt (zq3 HO266))) (Kd.R_lt (zq3 HO280))) (below_size (zb0 HB))); have n4_ := Aside0.mk (below_step (zb0 HB) hb); clear HO259; clear HO266; clear HO280 HO280F; clear HB; have HO259 := n0_; have HO266 := n1_; have HO280 := n2_; have HO280F := n2F_; have HO284 := n3_; have HB := n4_; clear n0_ n1_ n2_ n3_ n4_ n2F_; (try clear hb); (try clear hb2); (try clear hk); (try clear hi); (try clear ho0); obtain ⟨Ao48, co48, eo48⟩ := Kd.R_slice HO284.out; subst eo48) | ((with_reducible refine gate_callee (f := 26) rfl ?_); refine goesL_ (some 81) rfl rfl Try.func26 (by kernel_rfl) rfl #[.slice Ao48 t281.length co48, .slice Ao37 t256.length co37] rfl zq6 ?_; (with_reducible refine (laws_eqTermS.calls k _ _ t281 _ _ t256 true _ ?side1 ?side2 ?side3 ?side4 A24.out).mono ?_); (case side1 => repeat (first | exact (Kd.R_reads' HO284.out).2.2 | (with_reducible refine Kd.C_alloc ?_ _) | (with_reducible refine Kd.C_drewN ?_ _) | (with_reducible refine Kd.C_drew ?_))); (case side2 => exact (Kd.R_reads' HO284.out).2.1); (case side3 => repeat (first | exact (Kd.R_reads' HO259.out).2.2 | (with_reducible refine Kd.C_alloc ?_ _) | (with_reducible refine Kd.C_drewN ?_ _) | (with_reducible refine Kd.C_drew ?_))); (case side4 => exact (Kd.R_reads' HO259.out).2.1); rintro e w49 ⟨rfl, hb⟩; refine ⟨_, rfl, ?_⟩; replace HO259 := Aside0.mk (Kd.R_below (zq3 HO259) hb); replace HO266 := Aside0.mk (Kd.R_below (zq3 HO266) hb); replace HO284 := Aside0.mk (Kd.R_below (zq3 HO284) hb); replace HB := Aside0.mk (below_step (zb0 HB) hb); (try clear hb); (try clear hb2); (try clear hk); (try clear hi)) | ((with_reducible refine gate_callee (f := 28) rfl ?_); refine goesL_ (some 90) rfl rfl Try.func28 (by kernel_rfl) rfl #[.slice Ao36 t276.length co36, .int .i64 101] rfl (by (try simp only [List.map_toArray, List.map_cons, List.map_nil]); first | done | (rw [show t276.length = t263.length from (Kd.R_reads' HO266.out).1.symm] <;> rfl) | rfl | (simp only [List.length_drop, List.length_take]; rfl)) ?_; (with_reducible refine (laws_heldTermS.calls k _ _ t276 101 t286 _ ?side1 ?side2 A27.out).mono ?_); (case side1 => repeat (first | exact (Kd.R_reads' HO266.out).2.2 | (with_reducible refine Kd.C_alloc ?_ _) | (with_reducible refine Kd.C_drewN ?_ _) | (with_reducible refine Kd.C_drew ?_))); (case side2 => rw [show t276.length = t263.length from (Kd.R_reads' HO266.out).1.symm]; exact (Kd.R_reads' HO266.out).2.1); rintro e w' ⟨rfl, ⟨nd, rfl⟩⟩; refine ⟨_, rfl, ?_⟩))
             go_ret
             exact ⟨by first | rfl | (simp [errW_none, errW_some] <;> rfl) | (simp [*, errW_none, errW_some] <;> rfl), (zb0 HB)⟩
            ·
             rw [if_neg c29] at H
             exact absurd H (by simp)
         ·
          replace c25 := Bool.eq_false_iff.mpr c25
          subst c25
          have H1 : (none) = some r := by rw [if_neg (show ¬ (false = true) by decide)] at H; exact H
          clear H
          have H := H1
          clear H1
          exact absurd H (by simp)
        ·
         rw [if_neg c21] at H
         exact absurd H (by simp)
      ·
       replace c17 := Bool.eq_false_iff.mpr c17
       subst c17
       have H1 : (none) = some r := by rw [if_neg (show ¬ (false = true) by decide)] at H; exact H
       clear H
       have H := H1
       clear H1
       exact absurd H (by simp)
    ·
     replace c13 := Bool.eq_false_iff.mpr c13
     subst c13
     have H1 : (none) = some r := by rw [if_neg (show ¬ (false = true) by decide)] at H; exact H
     clear H
     have H := H1
     clear H1
     exact absurd H (by simp)
  ·
   replace c9 := Bool.eq_false_iff.mpr c9
   subst c9
   have H1 : (none) = some r := by rw [if_neg (show ¬ (false = true) by decide)] at H; exact H
   clear H
   have H := H1
   clear H1
   exact absurd H (by simp)
end Go.Proofs.Ytfnmppeoleicbaa.PD
