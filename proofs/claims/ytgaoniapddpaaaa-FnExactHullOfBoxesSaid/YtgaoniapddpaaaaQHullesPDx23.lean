-- By wip/mk/drv.py
import Derived.Test.YtgaoniapddpaaaaQHullesPDx0
import Derived.Test.YtgaoniapddpaaaaQHullesPDx1
import Derived.Test.YtgaoniapddpaaaaQHullesPDx2
import Derived.Test.YtgaoniapddpaaaaQHullesPDx3
import Derived.Test.YtgaoniapddpaaaaQHullesPDx5
import Derived.Test.YtgaoniapddpaaaaQHullesPDx6
import Derived.Test.YtgaoniapddpaaaaQHullesPDx19
import Derived.Test.YtgaoniapddpaaaaQHullesPDx21
import Derived.Test.YtgaoniapddpaaaaQHullesPDx22
namespace Go.Proofs.Ytgaoniapddpaaaa.PD
open Go.RowKit Go.Proofs.YtgaoniapddpaaaaW.PrintWords Go.Proofs.YtgaoniapddpaaaaW.PrintLast Go.Proofs.YtgaoniapddpaaaaW.PrintMore
attribute [local go_sem] max2_int min2_int max_two min_two max_three min_three max_four min_four
set_option linter.unusedVariables false
set_option linter.unusedSimpArgs false
/-! ### laws_FnExactHullOfBoxes: function 10 -/
def laws_FnExactHullOfBoxes.T8 : Bool × List (List Nat × List Nat) := (true, [([], []), ([0], [0]), ([], []), ([2, 1], [2]), ([1, 3, 3], [1, 3]), ([4], [4]), ([5], [5]), ([5], [5]), ([], []), ([8, 6, 4, 0, 1, 2, 3, 4, 5, 6, 8], [6, 8]), ([7, 9, 0, 1, 2, 3, 4, 5, 6, 7, 8, 9], [7])])
def laws_FnExactHullOfBoxes.B8 : List Nat := [0, 1, 0, 7, 15, 31, 63, 63, 0, 383, 1023]
theorem laws_FnExactHullOfBoxes.tab8 : rtab .any (opsOf Try.f10 8) = laws_FnExactHullOfBoxes.T8 := by kernel_rfl
theorem laws_FnExactHullOfBoxes.bits8 : waitsOk laws_FnExactHullOfBoxes.T8.2 laws_FnExactHullOfBoxes.B8 = true := by kernel_rfl
def laws_FnExactHullOfBoxes.T31 : Bool × List (List Nat × List Nat) := (true, [([], []), ([0], [0]), ([], []), ([2, 1], [2]), ([1, 3, 3], [1, 3]), ([4], [4]), ([5], [5]), ([5], [5]), ([], []), ([8, 6, 4, 0, 1, 2, 3, 4, 5, 6, 8], [6, 8]), ([7, 9, 0, 1, 2, 3, 4, 5, 6, 7, 8, 9], [7])])
def laws_FnExactHullOfBoxes.B31 : List Nat := [0, 1, 0, 7, 15, 31, 63, 63, 0, 383, 1023]
theorem laws_FnExactHullOfBoxes.tab31 : rtab .any (opsOf Try.f10 31) = laws_FnExactHullOfBoxes.T31 := by kernel_rfl
theorem laws_FnExactHullOfBoxes.bits31 : waitsOk laws_FnExactHullOfBoxes.T31.2 laws_FnExactHullOfBoxes.B31 = true := by kernel_rfl
set_option maxHeartbeats 8000000 in
set_option maxRecDepth 100000 in
theorem laws_FnExactHullOfBoxes.calls (k : Nat) (a0_0 : Int) (A0_1 : Option Addr) (c0_1 : Nat) (l0_1 : List Int) (A0_2 : Option Addr) (c0_2 : Nat) (l0_2 : List Int) (a1_0 : Int) (A1_1 : Option Addr) (c1_1 : Nat) (l1_1 : List Int) (A1_2 : Option Addr) (c1_2 : Nat) (l1_2 : List Int) (r : Bool) (w : World) (hr0_1 : Kd.C (Kd.int .i64) w A0_1 l0_1.length l0_1) (hc0_1 : l0_1.length ≤ c0_1) (hr0_2 : Kd.C (Kd.int .i64) w A0_2 l0_2.length l0_2) (hc0_2 : l0_2.length ≤ c0_2) (hr1_1 : Kd.C (Kd.int .i64) w A1_1 l1_1.length l1_1) (hc1_1 : l1_1.length ≤ c1_1) (hr1_2 : Kd.C (Kd.int .i64) w A1_2 l1_2.length l1_2) (hc1_2 : l1_2.length ≤ c1_2) (h : laws_FnExactHullOfBoxes.f k a0_0 l0_1 l0_2 a1_0 l1_1 l1_2 = some r) :
  Calls Try.prog 10 #[.agg #[.int .i64 a0_0, .slice A0_1 l0_1.length c0_1, .slice A0_2 l0_2.length c0_2], .agg #[.int .i64 a1_0, .slice A1_1 l1_1.length c1_1, .slice A1_2 l1_2.length c1_2]] w fun e w' => e = .returned (.bool r) ∧ Below w.heap.size w w' := by
 have hu24 := Try.underlying24
 have hu27 := Try.underlying27
 have HR0_1 := Aside0.mk hr0_1
 have HC0_1 := Aside0.mk hc0_1
 clear hr0_1 hc0_1
 have HR0_2 := Aside0.mk hr0_2
 have HC0_2 := Aside0.mk hc0_2
 clear hr0_2 hc0_2
 have HR1_1 := Aside0.mk hr1_1
 have HC1_1 := Aside0.mk hc1_1
 clear hr1_1 hc1_1
 have HR1_2 := Aside0.mk hr1_2
 have HC1_2 := Aside0.mk hc1_2
 clear hr1_2 hc1_2
 have HB := Aside0.mk (Below.refl w.heap.size w)
 have H : ((laws_szBox.f a0_0 l0_1 l0_2 1000000).bind fun t406 => (if t406 < 0 then (some true) else ((laws_szBox.f a1_0 l1_1 l1_2 t406).bind fun t407 => (if t407 < 0 then (some true) else ((laws_toBox.f k a0_0 l0_1 l0_2 false).bind fun bt408 => ((laws_toBox.f k a1_0 l1_1 l1_2 false).bind fun bt415 => ((spec_HullOfBoxes.f k bt408.1 bt408.2.1 bt408.2.2 bt415.1 bt415.2.1 bt415.2.2).bind fun bt422 => ((laws_toBox.f k a0_0 l0_1 l0_2 false).bind fun bt431 => ((laws_toBox.f k a1_0 l1_1 l1_2 false).bind fun bt439 => ((impl_HullOfBoxes.f k bt431.1 bt431.2.1 bt431.2.2 bt439.1 bt439.2.1 bt439.2.2).bind fun bt447 => ((laws_eqBox.f k bt447.1 bt447.2.1 bt447.2.2.1 bt422.1 bt422.2.1 bt422.2.2.1).bind fun t456 => (if t456 = true then (if (bt447.2.2.2 != bt422.2.2.2) = true then (none) else ((laws_toBox.f k a0_0 l0_1 l0_2 false).bind fun bt457 => ((laws_intactBox.f bt431.1 bt431.2.1 bt431.2.2 bt457.1 bt457.2.1 bt457.2.2).bind fun t464 => (if t464 = true then ((laws_toBox.f k a1_0 l1_1 l1_2 false).bind fun bt465 => ((laws_intactBox.f bt439.1 bt439.2.1 bt439.2.2 bt465.1 bt465.2.1 bt465.2.2).bind fun t472 => (if t472 = true then ((laws_markBox.f k bt431.1 bt431.2.1 bt431.2.2 101).bind fun bt473 => ((laws_markBox.f k bt439.1 bt439.2.1 bt439.2.2 bt473.1).bind fun bt476 => (if bt476.1 < 0 then (none) else ((laws_eqBox.f k bt447.1 bt447.2.1 bt447.2.2.1 bt422.1 bt422.2.1 bt422.2.2.1).bind fun t479 => (if t479 = true then ((laws_markBox.f k bt447.1 bt447.2.1 bt447.2.2.1 101).bind fun bt480 => ((laws_heldBox.f k bt447.1 bt480.2.1 bt480.2.2 101).bind fun t483 => (if t483 < 0 then (none) else (if t483 = bt480.1 then ((laws_toBox.f k a0_0 l0_1 l0_2 true).bind fun bt484 => ((laws_toBox.f k a1_0 l1_1 l1_2 true).bind fun bt491 => ((impl_HullOfBoxes.f k bt484.1 bt484.2.1 bt484.2.2 bt491.1 bt491.2.1 bt491.2.2).bind fun bt498 => ((laws_eqBox.f k bt498.1 bt498.2.1 bt498.2.2.1 bt422.1 bt422.2.1 bt422.2.2.1).bind fun t507 => (if t507 = true then (if (bt498.2.2.2 != bt422.2.2.2) = true then (none) else ((laws_heldBox.f k bt447.1 bt480.2.1 bt480.2.2 101).bind fun t508 => (if t508 < 0 then (none) else (if t508 = bt480.1 then (some true) else (none))))) else (none)))))) else (none))))) else (none)))))) else (none)))) else (none))))) else (none))))))))))))) = some r := h
 clear h
 replace H := Option.bind_eq_some_iff.mp H
 obtain ⟨t406, A30, H⟩ := H
 replace H : (if t406 < 0 then (some true) else ((laws_szBox.f a1_0 l1_1 l1_2 t406).bind fun t407 => (if t407 < 0 then (some true) else ((laws_toBox.f k a0_0 l0_1 l0_2 false).bind fun bt408 => ((laws_toBox.f k a1_0 l1_1 l1_2 false).bind fun bt415 => ((spec_HullOfBoxes.f k bt408.1 bt408.2.1 bt408.2.2 bt415.1 bt415.2.1 bt415.2.2).bind fun bt422 => ((laws_toBox.f k a0_0 l0_1 l0_2 false).bind fun bt431 => ((laws_toBox.f k a1_0 l1_1 l1_2 false).bind fun bt439 => ((impl_HullOfBoxes.f k bt431.1 bt431.2.1 bt431.2.2 bt439.1 bt439.2.1 bt439.2.2).bind fun bt447 => ((laws_eqBox.f k bt447.1 bt447.2.1 bt447.2.2.1 bt422.1 bt422.2.1 bt422.2.2.1).bind fun t456 => (if t456 = true then (if (bt447.2.2.2 != bt422.2.2.2) = true then (none) else ((laws_toBox.f k a0_0 l0_1 l0_2 false).bind fun bt457 => ((laws_intactBox.f bt431.1 bt431.2.1 bt431.2.2 bt457.1 bt457.2.1 bt457.2.2).bind fun t464 => (if t464 = true then ((laws_toBox.f k a1_0 l1_1 l1_2 false).bind fun bt465 => ((laws_intactBox.f bt439.1 bt439.2.1 bt439.2.2 bt465.1 bt465.2.1 bt465.2.2).bind fun t472 => (if t472 = true then ((laws_markBox.f k bt431.1 bt431.2.1 bt431.2.2 101).bind fun bt473 => ((laws_markBox.f k bt439.1 bt439.2.1 bt439.2.2 bt473.1).bind fun bt476 => (if bt476.1 < 0 then (none) else ((laws_eqBox.f k bt447.1 bt447.2.1 bt447.2.2.1 bt422.1 bt422.2.1 bt422.2.2.1).bind fun t479 => (if t479 = true then ((laws_markBox.f k bt447.1 bt447.2.1 bt447.2.2.1 101).bind fun bt480 => ((laws_heldBox.f k bt447.1 bt480.2.1 bt480.2.2 101).bind fun t483 => (if t483 < 0 then (none) else (if t483 = bt480.1 then ((laws_toBox.f k a0_0 l0_1 l0_2 true).bind fun bt484 => ((laws_toBox.f k a1_0 l1_1 l1_2 true).bind fun bt491 => ((impl_HullOfBoxes.f k bt484.1 bt484.2.1 bt484.2.2 bt491.1 bt491.2.1 bt491.2.2).bind fun bt498 => ((laws_eqBox.f k bt498.1 bt498.2.1 bt498.2.2.1 bt422.1 bt422.2.1 bt422.2.2.1).bind fun t507 => (if t507 = true then (if (bt498.2.2.2 != bt422.2.2.2) = true then (none) else ((laws_heldBox.f k bt447.1 bt480.2.1 bt480.2.2 101).bind fun t508 => (if t508 < 0 then (none) else (if t508 = bt480.1 then (some true) else (none))))) else (none)))))) else (none))))) else (none)))))) else (none)))) else (none))))) else (none)))))))))))) = some r := H
 have A3 := Aside0.mk A30
 clear A30
 by_cases c4 : t406 < 0
 ·
  rw [if_pos c4] at H
  have c4b0 : decide (t406 < 0) = true := decide_eq_true c4
  clear c4
  obtain rfl := Option.some.inj H
  go_enter Try.func10, Try.ntmps10
  go_wp2_with (first | ((with_reducible refine gate_dst (N := 2) rfl ?_); refine zbe (N := 2) (cs := #[.int .i64 a0_0, .slice A0_1 l0_1.length c0_1, .slice A0_2 l0_2.length c0_2]) (t := 24) ?_; intro gb404 hg w5 hbox hb; have BK404 := Aside0.mk (hbox); have GW404 := Aside0.mk (zge (zb0 HB) hg); have GE404 := GW404; replace HB := Aside0.mk (below_step (zb0 HB) hb); clear hb hbox hg) | ((with_reducible refine gate_dst (N := 3) rfl ?_); refine zbe (N := 3) (cs := #[.int .i64 a1_0, .slice A1_1 l1_1.length c1_1, .slice A1_2 l1_2.length c1_2]) (t := 24) ?_; intro gb405 hg w6 hbox hb; have BK405 := Aside0.mk (hbox); have GW405 := Aside0.mk (zge (zb1 HB) hg); have GE405 := GW405; have NB404_405 := Aside0.mk (zlt BK404 hg); have NB405_404 := Aside0.mk (zgt BK404 hg); replace BK404 := Aside0.mk (zbb BK404 hb); replace HB := Aside0.mk (below_step (zb1 HB) hb); clear hb hbox hg; have hcz7_0 : w6.cell? ⟨gb404, 0, none⟩ = some (.int .i64 a0_0) := zc BK404 0; have hcz7_1 : w6.cell? ⟨gb404, 1, none⟩ = some (.slice A0_1 l0_1.length c0_1) := zc BK404 1; have hcz7_2 : w6.cell? ⟨gb404, 2, none⟩ = some (.slice A0_2 l0_2.length c0_2) := zc BK404 2; have hfz7_0 := blk_frozen BK404.out 0; have hfz7_1 := blk_frozen BK404.out 1; have hfz7_2 := blk_frozen BK404.out 2) | ((with_reducible refine gate_callee (f := 14) rfl ?_); refine goesL_ (some 19) rfl rfl Try.func14 (by kernel_rfl) rfl #[.agg #[.int .i64 a0_0, .slice A0_1 l0_1.length c0_1, .slice A0_2 l0_2.length c0_2], .int .i64 1000000] rfl zq6 ?_; (with_reducible refine (laws_szBox.calls a0_0 _ _ l0_1 _ _ l0_2 1000000 t406 _ ?side1 ?side2 ?side3 ?side4 A3.out).mono ?_); (case side1 => exact zcs HR0_1 HB); (case side2 => exact HC0_1.out); (case side3 => exact zcs HR0_2 HB); (case side4 => exact HC0_2.out); rintro e w8 ⟨rfl, hb⟩; refine ⟨_, rfl, ?_⟩; replace HB := Aside0.mk (below_step (zb0 HB) hb); (try clear hb); (try clear hb2); (try clear hk); (try clear hi)))
  go_ret
  exact ⟨by first | rfl | (simp [errW_none, errW_some] <;> rfl) | (simp [*, errW_none, errW_some] <;> rfl), (zb0 HB)⟩
 ·
  rw [if_neg c4] at H
  have c4b0 : decide (t406 < 0) = false := decide_eq_false c4
  clear c4
  replace H := Option.bind_eq_some_iff.mp H
  obtain ⟨t407, A90, H⟩ := H
  replace H : (if t407 < 0 then (some true) else ((laws_toBox.f k a0_0 l0_1 l0_2 false).bind fun bt408 => ((laws_toBox.f k a1_0 l1_1 l1_2 false).bind fun bt415 => ((spec_HullOfBoxes.f k bt408.1 bt408.2.1 bt408.2.2 bt415.1 bt415.2.1 bt415.2.2).bind fun bt422 => ((laws_toBox.f k a0_0 l0_1 l0_2 false).bind fun bt431 => ((laws_toBox.f k a1_0 l1_1 l1_2 false).bind fun bt439 => ((impl_HullOfBoxes.f k bt431.1 bt431.2.1 bt431.2.2 bt439.1 bt439.2.1 bt439.2.2).bind fun bt447 => ((laws_eqBox.f k bt447.1 bt447.2.1 bt447.2.2.1 bt422.1 bt422.2.1 bt422.2.2.1).bind fun t456 => (if t456 = true then (if (bt447.2.2.2 != bt422.2.2.2) = true then (none) else ((laws_toBox.f k a0_0 l0_1 l0_2 false).bind fun bt457 => ((laws_intactBox.f bt431.1 bt431.2.1 bt431.2.2 bt457.1 bt457.2.1 bt457.2.2).bind fun t464 => (if t464 = true then ((laws_toBox.f k a1_0 l1_1 l1_2 false).bind fun bt465 => ((laws_intactBox.f bt439.1 bt439.2.1 bt439.2.2 bt465.1 bt465.2.1 bt465.2.2).bind fun t472 => (if t472 = true then ((laws_markBox.f k bt431.1 bt431.2.1 bt431.2.2 101).bind fun bt473 => ((laws_markBox.f k bt439.1 bt439.2.1 bt439.2.2 bt473.1).bind fun bt476 => (if bt476.1 < 0 then (none) else ((laws_eqBox.f k bt447.1 bt447.2.1 bt447.2.2.1 bt422.1 bt422.2.1 bt422.2.2.1).bind fun t479 => (if t479 = true then ((laws_markBox.f k bt447.1 bt447.2.1 bt447.2.2.1 101).bind fun bt480 => ((laws_heldBox.f k bt447.1 bt480.2.1 bt480.2.2 101).bind fun t483 => (if t483 < 0 then (none) else (if t483 = bt480.1 then ((laws_toBox.f k a0_0 l0_1 l0_2 true).bind fun bt484 => ((laws_toBox.f k a1_0 l1_1 l1_2 true).bind fun bt491 => ((impl_HullOfBoxes.f k bt484.1 bt484.2.1 bt484.2.2 bt491.1 bt491.2.1 bt491.2.2).bind fun bt498 => ((laws_eqBox.f k bt498.1 bt498.2.1 bt498.2.2.1 bt422.1 bt422.2.1 bt422.2.2.1).bind fun t507 => (if t507 = true then (if (bt498.2.2.2 != bt422.2.2.2) = true then (none) else ((laws_heldBox.f k bt447.1 bt480.2.1 bt480.2.2 101).bind fun t508 => (if t508 < 0 then (none) else (if t508 = bt480.1 then (some true) else (none))))) else (none)))))) else (none))))) else (none)))))) else (none)))) else (none))))) else (none)))))))))) = some r := H
  have A9 := Aside0.mk A90
  clear A90
  by_cases c10 : t407 < 0
  ·
   rw [if_pos c10] at H
   have c10b0 : decide (t407 < 0) = true := decide_eq_true c10
   clear c10
   obtain rfl := Option.some.inj H
   go_enter Try.func10, Try.ntmps10
   go_wp2_with (first | ((with_reducible refine gate_dst (N := 2) rfl ?_); refine zbe (N := 2) (cs := #[.int .i64 a0_0, .slice A0_1 l0_1.length c0_1, .slice A0_2 l0_2.length c0_2]) (t := 24) ?_; intro gb404 hg w11 hbox hb; have BK404 := Aside0.mk (hbox); have GW404 := Aside0.mk (zge (zb0 HB) hg); have GE404 := GW404; replace HB := Aside0.mk (below_step (zb0 HB) hb); clear hb hbox hg) | ((with_reducible refine gate_dst (N := 3) rfl ?_); refine zbe (N := 3) (cs := #[.int .i64 a1_0, .slice A1_1 l1_1.length c1_1, .slice A1_2 l1_2.length c1_2]) (t := 24) ?_; intro gb405 hg w12 hbox hb; have BK405 := Aside0.mk (hbox); have GW405 := Aside0.mk (zge (zb1 HB) hg); have GE405 := GW405; have NB404_405 := Aside0.mk (zlt BK404 hg); have NB405_404 := Aside0.mk (zgt BK404 hg); replace BK404 := Aside0.mk (zbb BK404 hb); replace HB := Aside0.mk (below_step (zb1 HB) hb); clear hb hbox hg; have hnb13 := NB404_405.out; have hnc13 := NB405_404.out; have hcz14_0 : w12.cell? ⟨gb404, 0, none⟩ = some (.int .i64 a0_0) := zc BK404 0; have hcz14_1 : w12.cell? ⟨gb404, 1, none⟩ = some (.slice A0_1 l0_1.length c0_1) := zc BK404 1; have hcz14_2 : w12.cell? ⟨gb404, 2, none⟩ = some (.slice A0_2 l0_2.length c0_2) := zc BK404 2; have hfz14_0 := blk_frozen BK404.out 0; have hfz14_1 := blk_frozen BK404.out 1; have hfz14_2 := blk_frozen BK404.out 2) | ((with_reducible refine gate_callee (f := 14) rfl ?_); refine goesL_ (some 19) rfl rfl Try.func14 (by kernel_rfl) rfl #[.agg #[.int .i64 a0_0, .slice A0_1 l0_1.length c0_1, .slice A0_2 l0_2.length c0_2], .int .i64 1000000] rfl zq6 ?_; (with_reducible refine (laws_szBox.calls a0_0 _ _ l0_1 _ _ l0_2 1000000 t406 _ ?side1 ?side2 ?side3 ?side4 A3.out).mono ?_); (case side1 => exact zcs HR0_1 HB); (case side2 => exact HC0_1.out); (case side3 => exact zcs HR0_2 HB); (case side4 => exact HC0_2.out); rintro e w15 ⟨rfl, hb⟩; refine ⟨_, rfl, ?_⟩; replace BK405 := Aside0.mk (zbb BK405 hb); replace HB := Aside0.mk (below_step (zb1 HB) hb); (try clear hb); (try clear hb2); (try clear hk); (try clear hi); have hcz16_0 : w15.cell? ⟨gb405, 0, none⟩ = some (.int .i64 a1_0) := zc BK405 0; have hcz16_1 : w15.cell? ⟨gb405, 1, none⟩ = some (.slice A1_1 l1_1.length c1_1) := zc BK405 1; have hcz16_2 : w15.cell? ⟨gb405, 2, none⟩ = some (.slice A1_2 l1_2.length c1_2) := zc BK405 2; have hfz16_0 := blk_frozen BK405.out 0; have hfz16_1 := blk_frozen BK405.out 1; have hfz16_2 := blk_frozen BK405.out 2) | ((with_reducible refine gate_callee (f := 14) rfl ?_); refine goesL_ (some 24) rfl rfl Try.func14 (by kernel_rfl) rfl #[.agg #[.int .i64 a1_0, .slice A1_1 l1_1.length c1_1, .slice A1_2 l1_2.length c1_2], .int .i64 t406] rfl zq6 ?_; (with_reducible refine (laws_szBox.calls a1_0 _ _ l1_1 _ _ l1_2 t406 t407 _ ?side1 ?side2 ?side3 ?side4 A9.out).mono ?_); (case side1 => exact zcs HR1_1 HB); (case side2 => exact HC1_1.out); (case side3 => exact zcs HR1_2 HB); (case side4 => exact HC1_2.out); rintro e w17 ⟨rfl, hb⟩; refine ⟨_, rfl, ?_⟩; replace HB := Aside0.mk (below_step (zb0 HB) hb); (try clear hb); (try clear hb2); (try clear hk); (try clear hi)))
   go_ret
   exact ⟨by first | rfl | (simp [errW_none, errW_some] <;> rfl) | (simp [*, errW_none, errW_some] <;> rfl), (zb0 HB)⟩
  ·
   rw [if_neg c10] at H
   have c10b0 : decide (t407 < 0) = false := decide_eq_false c10
   clear c10
   replace H := Option.bind_eq_some_iff.mp H
   obtain ⟨⟨t408, t409, t412⟩, A180, H⟩ := H
   replace H : ((laws_toBox.f k a1_0 l1_1 l1_2 false).bind fun bt415 => ((spec_HullOfBoxes.f k t408 t409 t412 bt415.1 bt415.2.1 bt415.2.2).bind fun bt422 => ((laws_toBox.f k a0_0 l0_1 l0_2 false).bind fun bt431 => ((laws_toBox.f k a1_0 l1_1 l1_2 false).bind fun bt439 => ((impl_HullOfBoxes.f k bt431.1 bt431.2.1 bt431.2.2 bt439.1 bt439.2.1 bt439.2.2).bind fun bt447 => ((laws_eqBox.f k bt447.1 bt447.2.1 bt447.2.2.1 bt422.1 bt422.2.1 bt422.2.2.1).bind fun t456 => (if t456 = true then (if (bt447.2.2.2 != bt422.2.2.2) = true then (none) else ((laws_toBox.f k a0_0 l0_1 l0_2 false).bind fun bt457 => ((laws_intactBox.f bt431.1 bt431.2.1 bt431.2.2 bt457.1 bt457.2.1 bt457.2.2).bind fun t464 => (if t464 = true then ((laws_toBox.f k a1_0 l1_1 l1_2 false).bind fun bt465 => ((laws_intactBox.f bt439.1 bt439.2.1 bt439.2.2 bt465.1 bt465.2.1 bt465.2.2).bind fun t472 => (if t472 = true then ((laws_markBox.f k bt431.1 bt431.2.1 bt431.2.2 101).bind fun bt473 => ((laws_markBox.f k bt439.1 bt439.2.1 bt439.2.2 bt473.1).bind fun bt476 => (if bt476.1 < 0 then (none) else ((laws_eqBox.f k bt447.1 bt447.2.1 bt447.2.2.1 bt422.1 bt422.2.1 bt422.2.2.1).bind fun t479 => (if t479 = true then ((laws_markBox.f k bt447.1 bt447.2.1 bt447.2.2.1 101).bind fun bt480 => ((laws_heldBox.f k bt447.1 bt480.2.1 bt480.2.2 101).bind fun t483 => (if t483 < 0 then (none) else (if t483 = bt480.1 then ((laws_toBox.f k a0_0 l0_1 l0_2 true).bind fun bt484 => ((laws_toBox.f k a1_0 l1_1 l1_2 true).bind fun bt491 => ((impl_HullOfBoxes.f k bt484.1 bt484.2.1 bt484.2.2 bt491.1 bt491.2.1 bt491.2.2).bind fun bt498 => ((laws_eqBox.f k bt498.1 bt498.2.1 bt498.2.2.1 bt422.1 bt422.2.1 bt422.2.2.1).bind fun t507 => (if t507 = true then (if (bt498.2.2.2 != bt422.2.2.2) = true then (none) else ((laws_heldBox.f k bt447.1 bt480.2.1 bt480.2.2 101).bind fun t508 => (if t508 < 0 then (none) else (if t508 = bt480.1 then (some true) else (none))))) else (none)))))) else (none))))) else (none)))))) else (none)))) else (none))))) else (none)))))))) = some r := H
   have A18 := Aside0.mk A180
   clear A180
   replace H := Option.bind_eq_some_iff.mp H
   obtain ⟨⟨t415, t416, t419⟩, A190, H⟩ := H
   replace H : ((spec_HullOfBoxes.f k t408 t409 t412 t415 t416 t419).bind fun bt422 => ((laws_toBox.f k a0_0 l0_1 l0_2 false).bind fun bt431 => ((laws_toBox.f k a1_0 l1_1 l1_2 false).bind fun bt439 => ((impl_HullOfBoxes.f k bt431.1 bt431.2.1 bt431.2.2 bt439.1 bt439.2.1 bt439.2.2).bind fun bt447 => ((laws_eqBox.f k bt447.1 bt447.2.1 bt447.2.2.1 bt422.1 bt422.2.1 bt422.2.2.1).bind fun t456 => (if t456 = true then (if (bt447.2.2.2 != bt422.2.2.2) = true then (none) else ((laws_toBox.f k a0_0 l0_1 l0_2 false).bind fun bt457 => ((laws_intactBox.f bt431.1 bt431.2.1 bt431.2.2 bt457.1 bt457.2.1 bt457.2.2).bind fun t464 => (if t464 = true then ((laws_toBox.f k a1_0 l1_1 l1_2 false).bind fun bt465 => ((laws_intactBox.f bt439.1 bt439.2.1 bt439.2.2 bt465.1 bt465.2.1 bt465.2.2).bind fun t472 => (if t472 = true then ((laws_markBox.f k bt431.1 bt431.2.1 bt431.2.2 101).bind fun bt473 => ((laws_markBox.f k bt439.1 bt439.2.1 bt439.2.2 bt473.1).bind fun bt476 => (if bt476.1 < 0 then (none) else ((laws_eqBox.f k bt447.1 bt447.2.1 bt447.2.2.1 bt422.1 bt422.2.1 bt422.2.2.1).bind fun t479 => (if t479 = true then ((laws_markBox.f k bt447.1 bt447.2.1 bt447.2.2.1 101).bind fun bt480 => ((laws_heldBox.f k bt447.1 bt480.2.1 bt480.2.2 101).bind fun t483 => (if t483 < 0 then (none) else (if t483 = bt480.1 then ((laws_toBox.f k a0_0 l0_1 l0_2 true).bind fun bt484 => ((laws_toBox.f k a1_0 l1_1 l1_2 true).bind fun bt491 => ((impl_HullOfBoxes.f k bt484.1 bt484.2.1 bt484.2.2 bt491.1 bt491.2.1 bt491.2.2).bind fun bt498 => ((laws_eqBox.f k bt498.1 bt498.2.1 bt498.2.2.1 bt422.1 bt422.2.1 bt422.2.2.1).bind fun t507 => (if t507 = true then (if (bt498.2.2.2 != bt422.2.2.2) = true then (none) else ((laws_heldBox.f k bt447.1 bt480.2.1 bt480.2.2 101).bind fun t508 => (if t508 < 0 then (none) else (if t508 = bt480.1 then (some true) else (none))))) else (none)))))) else (none))))) else (none)))))) else (none)))) else (none))))) else (none))))))) = some r := H
   have A19 := Aside0.mk A190
   clear A190
   replace H := Option.bind_eq_some_iff.mp H
   obtain ⟨⟨t422, t423, t426, t429⟩, A200, H⟩ := H
   replace H : ((laws_toBox.f k a0_0 l0_1 l0_2 false).bind fun bt431 => ((laws_toBox.f k a1_0 l1_1 l1_2 false).bind fun bt439 => ((impl_HullOfBoxes.f k bt431.1 bt431.2.1 bt431.2.2 bt439.1 bt439.2.1 bt439.2.2).bind fun bt447 => ((laws_eqBox.f k bt447.1 bt447.2.1 bt447.2.2.1 t422 t423 t426).bind fun t456 => (if t456 = true then (if (bt447.2.2.2 != t429) = true then (none) else ((laws_toBox.f k a0_0 l0_1 l0_2 false).bind fun bt457 => ((laws_intactBox.f bt431.1 bt431.2.1 bt431.2.2 bt457.1 bt457.2.1 bt457.2.2).bind fun t464 => (if t464 = true then ((laws_toBox.f k a1_0 l1_1 l1_2 false).bind fun bt465 => ((laws_intactBox.f bt439.1 bt439.2.1 bt439.2.2 bt465.1 bt465.2.1 bt465.2.2).bind fun t472 => (if t472 = true then ((laws_markBox.f k bt431.1 bt431.2.1 bt431.2.2 101).bind fun bt473 => ((laws_markBox.f k bt439.1 bt439.2.1 bt439.2.2 bt473.1).bind fun bt476 => (if bt476.1 < 0 then (none) else ((laws_eqBox.f k bt447.1 bt447.2.1 bt447.2.2.1 t422 t423 t426).bind fun t479 => (if t479 = true then ((laws_markBox.f k bt447.1 bt447.2.1 bt447.2.2.1 101).bind fun bt480 => ((laws_heldBox.f k bt447.1 bt480.2.1 bt480.2.2 101).bind fun t483 => (if t483 < 0 then (none) else (if t483 = bt480.1 then ((laws_toBox.f k a0_0 l0_1 l0_2 true).bind fun bt484 => ((laws_toBox.f k a1_0 l1_1 l1_2 true).bind fun bt491 => ((impl_HullOfBoxes.f k bt484.1 bt484.2.1 bt484.2.2 bt491.1 bt491.2.1 bt491.2.2).bind fun bt498 => ((laws_eqBox.f k bt498.1 bt498.2.1 bt498.2.2.1 t422 t423 t426).bind fun t507 => (if t507 = true then (if (bt498.2.2.2 != t429) = true then (none) else ((laws_heldBox.f k bt447.1 bt480.2.1 bt480.2.2 101).bind fun t508 => (if t508 < 0 then (none) else (if t508 = bt480.1 then (some true) else (none))))) else (none)))))) else (none))))) else (none)))))) else (none)))) else (none))))) else (none)))))) = some r := H
   have A20 := Aside0.mk A200
   clear A200
   replace H := Option.bind_eq_some_iff.mp H
   obtain ⟨⟨t431, t432, t435⟩, A210, H⟩ := H
   replace H : ((laws_toBox.f k a1_0 l1_1 l1_2 false).bind fun bt439 => ((impl_HullOfBoxes.f k t431 t432 t435 bt439.1 bt439.2.1 bt439.2.2).bind fun bt447 => ((laws_eqBox.f k bt447.1 bt447.2.1 bt447.2.2.1 t422 t423 t426).bind fun t456 => (if t456 = true then (if (bt447.2.2.2 != t429) = true then (none) else ((laws_toBox.f k a0_0 l0_1 l0_2 false).bind fun bt457 => ((laws_intactBox.f t431 t432 t435 bt457.1 bt457.2.1 bt457.2.2).bind fun t464 => (if t464 = true then ((laws_toBox.f k a1_0 l1_1 l1_2 false).bind fun bt465 => ((laws_intactBox.f bt439.1 bt439.2.1 bt439.2.2 bt465.1 bt465.2.1 bt465.2.2).bind fun t472 => (if t472 = true then ((laws_markBox.f k t431 t432 t435 101).bind fun bt473 => ((laws_markBox.f k bt439.1 bt439.2.1 bt439.2.2 bt473.1).bind fun bt476 => (if bt476.1 < 0 then (none) else ((laws_eqBox.f k bt447.1 bt447.2.1 bt447.2.2.1 t422 t423 t426).bind fun t479 => (if t479 = true then ((laws_markBox.f k bt447.1 bt447.2.1 bt447.2.2.1 101).bind fun bt480 => ((laws_heldBox.f k bt447.1 bt480.2.1 bt480.2.2 101).bind fun t483 => (if t483 < 0 then (none) else (if t483 = bt480.1 then ((laws_toBox.f k a0_0 l0_1 l0_2 true).bind fun bt484 => ((laws_toBox.f k a1_0 l1_1 l1_2 true).bind fun bt491 => ((impl_HullOfBoxes.f k bt484.1 bt484.2.1 bt484.2.2 bt491.1 bt491.2.1 bt491.2.2).bind fun bt498 => ((laws_eqBox.f k bt498.1 bt498.2.1 bt498.2.2.1 t422 t423 t426).bind fun t507 => (if t507 = true then (if (bt498.2.2.2 != t429) = true then (none) else ((laws_heldBox.f k bt447.1 bt480.2.1 bt480.2.2 101).bind fun t508 => (if t508 < 0 then (none) else (if t508 = bt480.1 then (some true) else (none))))) else (none)))))) else (none))))) else (none)))))) else (none)))) else (none))))) else (none))))) = some r := H
   have A21 := Aside0.mk A210
   clear A210
   replace H := Option.bind_eq_some_iff.mp H
   obtain ⟨⟨t439, t440, t443⟩, A220, H⟩ := H
   replace H : ((impl_HullOfBoxes.f k t431 t432 t435 t439 t440 t443).bind fun bt447 => ((laws_eqBox.f k bt447.1 bt447.2.1 bt447.2.2.1 t422 t423 t426).bind fun t456 => (if t456 = true then (if (bt447.2.2.2 != t429) = true then (none) else ((laws_toBox.f k a0_0 l0_1 l0_2 false).bind fun bt457 => ((laws_intactBox.f t431 t432 t435 bt457.1 bt457.2.1 bt457.2.2).bind fun t464 => (if t464 = true then ((laws_toBox.f k a1_0 l1_1 l1_2 false).bind fun bt465 => ((laws_intactBox.f t439 t440 t443 bt465.1 bt465.2.1 bt465.2.2).bind fun t472 => (if t472 = true then ((laws_markBox.f k t431 t432 t435 101).bind fun bt473 => ((laws_markBox.f k t439 t440 t443 bt473.1).bind fun bt476 => (if bt476.1 < 0 then (none) else ((laws_eqBox.f k bt447.1 bt447.2.1 bt447.2.2.1 t422 t423 t426).bind fun t479 => (if t479 = true then ((laws_markBox.f k bt447.1 bt447.2.1 bt447.2.2.1 101).bind fun bt480 => ((laws_heldBox.f k bt447.1 bt480.2.1 bt480.2.2 101).bind fun t483 => (if t483 < 0 then (none) else (if t483 = bt480.1 then ((laws_toBox.f k a0_0 l0_1 l0_2 true).bind fun bt484 => ((laws_toBox.f k a1_0 l1_1 l1_2 true).bind fun bt491 => ((impl_HullOfBoxes.f k bt484.1 bt484.2.1 bt484.2.2 bt491.1 bt491.2.1 bt491.2.2).bind fun bt498 => ((laws_eqBox.f k bt498.1 bt498.2.1 bt498.2.2.1 t422 t423 t426).bind fun t507 => (if t507 = true then (if (bt498.2.2.2 != t429) = true then (none) else ((laws_heldBox.f k bt447.1 bt480.2.1 bt480.2.2 101).bind fun t508 => (if t508 < 0 then (none) else (if t508 = bt480.1 then (some true) else (none))))) else (none)))))) else (none))))) else (none)))))) else (none)))) else (none))))) else (none)))) = some r := H
   have A22 := Aside0.mk A220
   clear A220
   replace H := Option.bind_eq_some_iff.mp H
   obtain ⟨⟨t447, t448, t451, t454⟩, A230, H⟩ := H
   replace H : ((laws_eqBox.f k t447 t448 t451 t422 t423 t426).bind fun t456 => (if t456 = true then (if (t454 != t429) = true then (none) else ((laws_toBox.f k a0_0 l0_1 l0_2 false).bind fun bt457 => ((laws_intactBox.f t431 t432 t435 bt457.1 bt457.2.1 bt457.2.2).bind fun t464 => (if t464 = true then ((laws_toBox.f k a1_0 l1_1 l1_2 false).bind fun bt465 => ((laws_intactBox.f t439 t440 t443 bt465.1 bt465.2.1 bt465.2.2).bind fun t472 => (if t472 = true then ((laws_markBox.f k t431 t432 t435 101).bind fun bt473 => ((laws_markBox.f k t439 t440 t443 bt473.1).bind fun bt476 => (if bt476.1 < 0 then (none) else ((laws_eqBox.f k t447 t448 t451 t422 t423 t426).bind fun t479 => (if t479 = true then ((laws_markBox.f k t447 t448 t451 101).bind fun bt480 => ((laws_heldBox.f k t447 bt480.2.1 bt480.2.2 101).bind fun t483 => (if t483 < 0 then (none) else (if t483 = bt480.1 then ((laws_toBox.f k a0_0 l0_1 l0_2 true).bind fun bt484 => ((laws_toBox.f k a1_0 l1_1 l1_2 true).bind fun bt491 => ((impl_HullOfBoxes.f k bt484.1 bt484.2.1 bt484.2.2 bt491.1 bt491.2.1 bt491.2.2).bind fun bt498 => ((laws_eqBox.f k bt498.1 bt498.2.1 bt498.2.2.1 t422 t423 t426).bind fun t507 => (if t507 = true then (if (bt498.2.2.2 != t429) = true then (none) else ((laws_heldBox.f k t447 bt480.2.1 bt480.2.2 101).bind fun t508 => (if t508 < 0 then (none) else (if t508 = bt480.1 then (some true) else (none))))) else (none)))))) else (none))))) else (none)))))) else (none)))) else (none))))) else (none))) = some r := H
   have A23 := Aside0.mk A230
   clear A230
   replace H := Option.bind_eq_some_iff.mp H
   obtain ⟨t456, A240, H⟩ := H
   replace H : (if t456 = true then (if (t454 != t429) = true then (none) else ((laws_toBox.f k a0_0 l0_1 l0_2 false).bind fun bt457 => ((laws_intactBox.f t431 t432 t435 bt457.1 bt457.2.1 bt457.2.2).bind fun t464 => (if t464 = true then ((laws_toBox.f k a1_0 l1_1 l1_2 false).bind fun bt465 => ((laws_intactBox.f t439 t440 t443 bt465.1 bt465.2.1 bt465.2.2).bind fun t472 => (if t472 = true then ((laws_markBox.f k t431 t432 t435 101).bind fun bt473 => ((laws_markBox.f k t439 t440 t443 bt473.1).bind fun bt476 => (if bt476.1 < 0 then (none) else ((laws_eqBox.f k t447 t448 t451 t422 t423 t426).bind fun t479 => (if t479 = true then ((laws_markBox.f k t447 t448 t451 101).bind fun bt480 => ((laws_heldBox.f k t447 bt480.2.1 bt480.2.2 101).bind fun t483 => (if t483 < 0 then (none) else (if t483 = bt480.1 then ((laws_toBox.f k a0_0 l0_1 l0_2 true).bind fun bt484 => ((laws_toBox.f k a1_0 l1_1 l1_2 true).bind fun bt491 => ((impl_HullOfBoxes.f k bt484.1 bt484.2.1 bt484.2.2 bt491.1 bt491.2.1 bt491.2.2).bind fun bt498 => ((laws_eqBox.f k bt498.1 bt498.2.1 bt498.2.2.1 t422 t423 t426).bind fun t507 => (if t507 = true then (if (bt498.2.2.2 != t429) = true then (none) else ((laws_heldBox.f k t447 bt480.2.1 bt480.2.2 101).bind fun t508 => (if t508 < 0 then (none) else (if t508 = bt480.1 then (some true) else (none))))) else (none)))))) else (none))))) else (none)))))) else (none)))) else (none))))) else (none)) = some r := H
   have A24 := Aside0.mk A240
   clear A240
   by_cases c25 : t456 = true
   ·
    subst c25
    have H1 : (if (t454 != t429) = true then (none) else ((laws_toBox.f k a0_0 l0_1 l0_2 false).bind fun bt457 => ((laws_intactBox.f t431 t432 t435 bt457.1 bt457.2.1 bt457.2.2).bind fun t464 => (if t464 = true then ((laws_toBox.f k a1_0 l1_1 l1_2 false).bind fun bt465 => ((laws_intactBox.f t439 t440 t443 bt465.1 bt465.2.1 bt465.2.2).bind fun t472 => (if t472 = true then ((laws_markBox.f k t431 t432 t435 101).bind fun bt473 => ((laws_markBox.f k t439 t440 t443 bt473.1).bind fun bt476 => (if bt476.1 < 0 then (none) else ((laws_eqBox.f k t447 t448 t451 t422 t423 t426).bind fun t479 => (if t479 = true then ((laws_markBox.f k t447 t448 t451 101).bind fun bt480 => ((laws_heldBox.f k t447 bt480.2.1 bt480.2.2 101).bind fun t483 => (if t483 < 0 then (none) else (if t483 = bt480.1 then ((laws_toBox.f k a0_0 l0_1 l0_2 true).bind fun bt484 => ((laws_toBox.f k a1_0 l1_1 l1_2 true).bind fun bt491 => ((impl_HullOfBoxes.f k bt484.1 bt484.2.1 bt484.2.2 bt491.1 bt491.2.1 bt491.2.2).bind fun bt498 => ((laws_eqBox.f k bt498.1 bt498.2.1 bt498.2.2.1 t422 t423 t426).bind fun t507 => (if t507 = true then (if (bt498.2.2.2 != t429) = true then (none) else ((laws_heldBox.f k t447 bt480.2.1 bt480.2.2 101).bind fun t508 => (if t508 < 0 then (none) else (if t508 = bt480.1 then (some true) else (none))))) else (none)))))) else (none))))) else (none)))))) else (none)))) else (none))))) = some r := by rw [if_pos rfl] at H; exact H
    clear H
    have H := H1
    clear H1
    by_cases c26 : (t454 != t429) = true
    ·
     rw [if_pos c26] at H
     exact absurd H (by simp)
    ·
     rw [if_neg c26] at H
     have c26b0 : (t454 != t429) = false := by simpa using c26
     (try (have c26b1 : decide (t454 = t429) = true := by simpa using c26))
     (try (have c26b2 : (t454 == t429) = true := by simpa using c26))
     clear c26
     replace H := Option.bind_eq_some_iff.mp H
     obtain ⟨⟨t457, t458, t461⟩, A270, H⟩ := H
     replace H : ((laws_intactBox.f t431 t432 t435 t457 t458 t461).bind fun t464 => (if t464 = true then ((laws_toBox.f k a1_0 l1_1 l1_2 false).bind fun bt465 => ((laws_intactBox.f t439 t440 t443 bt465.1 bt465.2.1 bt465.2.2).bind fun t472 => (if t472 = true then ((laws_markBox.f k t431 t432 t435 101).bind fun bt473 => ((laws_markBox.f k t439 t440 t443 bt473.1).bind fun bt476 => (if bt476.1 < 0 then (none) else ((laws_eqBox.f k t447 t448 t451 t422 t423 t426).bind fun t479 => (if t479 = true then ((laws_markBox.f k t447 t448 t451 101).bind fun bt480 => ((laws_heldBox.f k t447 bt480.2.1 bt480.2.2 101).bind fun t483 => (if t483 < 0 then (none) else (if t483 = bt480.1 then ((laws_toBox.f k a0_0 l0_1 l0_2 true).bind fun bt484 => ((laws_toBox.f k a1_0 l1_1 l1_2 true).bind fun bt491 => ((impl_HullOfBoxes.f k bt484.1 bt484.2.1 bt484.2.2 bt491.1 bt491.2.1 bt491.2.2).bind fun bt498 => ((laws_eqBox.f k bt498.1 bt498.2.1 bt498.2.2.1 t422 t423 t426).bind fun t507 => (if t507 = true then (if (bt498.2.2.2 != t429) = true then (none) else ((laws_heldBox.f k t447 bt480.2.1 bt480.2.2 101).bind fun t508 => (if t508 < 0 then (none) else (if t508 = bt480.1 then (some true) else (none))))) else (none)))))) else (none))))) else (none)))))) else (none)))) else (none))) = some r := H
     have A27 := Aside0.mk A270
     clear A270
     replace H := Option.bind_eq_some_iff.mp H
     obtain ⟨t464, A280, H⟩ := H
     replace H : (if t464 = true then ((laws_toBox.f k a1_0 l1_1 l1_2 false).bind fun bt465 => ((laws_intactBox.f t439 t440 t443 bt465.1 bt465.2.1 bt465.2.2).bind fun t472 => (if t472 = true then ((laws_markBox.f k t431 t432 t435 101).bind fun bt473 => ((laws_markBox.f k t439 t440 t443 bt473.1).bind fun bt476 => (if bt476.1 < 0 then (none) else ((laws_eqBox.f k t447 t448 t451 t422 t423 t426).bind fun t479 => (if t479 = true then ((laws_markBox.f k t447 t448 t451 101).bind fun bt480 => ((laws_heldBox.f k t447 bt480.2.1 bt480.2.2 101).bind fun t483 => (if t483 < 0 then (none) else (if t483 = bt480.1 then ((laws_toBox.f k a0_0 l0_1 l0_2 true).bind fun bt484 => ((laws_toBox.f k a1_0 l1_1 l1_2 true).bind fun bt491 => ((impl_HullOfBoxes.f k bt484.1 bt484.2.1 bt484.2.2 bt491.1 bt491.2.1 bt491.2.2).bind fun bt498 => ((laws_eqBox.f k bt498.1 bt498.2.1 bt498.2.2.1 t422 t423 t426).bind fun t507 => (if t507 = true then (if (bt498.2.2.2 != t429) = true then (none) else ((laws_heldBox.f k t447 bt480.2.1 bt480.2.2 101).bind fun t508 => (if t508 < 0 then (none) else (if t508 = bt480.1 then (some true) else (none))))) else (none)))))) else (none))))) else (none)))))) else (none)))) else (none)) = some r := H
     have A28 := Aside0.mk A280
     clear A280
     by_cases c29 : t464 = true
     ·
      subst c29
      have H1 : ((laws_toBox.f k a1_0 l1_1 l1_2 false).bind fun bt465 => ((laws_intactBox.f t439 t440 t443 bt465.1 bt465.2.1 bt465.2.2).bind fun t472 => (if t472 = true then ((laws_markBox.f k t431 t432 t435 101).bind fun bt473 => ((laws_markBox.f k t439 t440 t443 bt473.1).bind fun bt476 => (if bt476.1 < 0 then (none) else ((laws_eqBox.f k t447 t448 t451 t422 t423 t426).bind fun t479 => (if t479 = true then ((laws_markBox.f k t447 t448 t451 101).bind fun bt480 => ((laws_heldBox.f k t447 bt480.2.1 bt480.2.2 101).bind fun t483 => (if t483 < 0 then (none) else (if t483 = bt480.1 then ((laws_toBox.f k a0_0 l0_1 l0_2 true).bind fun bt484 => ((laws_toBox.f k a1_0 l1_1 l1_2 true).bind fun bt491 => ((impl_HullOfBoxes.f k bt484.1 bt484.2.1 bt484.2.2 bt491.1 bt491.2.1 bt491.2.2).bind fun bt498 => ((laws_eqBox.f k bt498.1 bt498.2.1 bt498.2.2.1 t422 t423 t426).bind fun t507 => (if t507 = true then (if (bt498.2.2.2 != t429) = true then (none) else ((laws_heldBox.f k t447 bt480.2.1 bt480.2.2 101).bind fun t508 => (if t508 < 0 then (none) else (if t508 = bt480.1 then (some true) else (none))))) else (none)))))) else (none))))) else (none)))))) else (none)))) = some r := by rw [if_pos rfl] at H; exact H
      clear H
      have H := H1
      clear H1
      replace H := Option.bind_eq_some_iff.mp H
      obtain ⟨⟨t465, t466, t469⟩, A300, H⟩ := H
      replace H : ((laws_intactBox.f t439 t440 t443 t465 t466 t469).bind fun t472 => (if t472 = true then ((laws_markBox.f k t431 t432 t435 101).bind fun bt473 => ((laws_markBox.f k t439 t440 t443 bt473.1).bind fun bt476 => (if bt476.1 < 0 then (none) else ((laws_eqBox.f k t447 t448 t451 t422 t423 t426).bind fun t479 => (if t479 = true then ((laws_markBox.f k t447 t448 t451 101).bind fun bt480 => ((laws_heldBox.f k t447 bt480.2.1 bt480.2.2 101).bind fun t483 => (if t483 < 0 then (none) else (if t483 = bt480.1 then ((laws_toBox.f k a0_0 l0_1 l0_2 true).bind fun bt484 => ((laws_toBox.f k a1_0 l1_1 l1_2 true).bind fun bt491 => ((impl_HullOfBoxes.f k bt484.1 bt484.2.1 bt484.2.2 bt491.1 bt491.2.1 bt491.2.2).bind fun bt498 => ((laws_eqBox.f k bt498.1 bt498.2.1 bt498.2.2.1 t422 t423 t426).bind fun t507 => (if t507 = true then (if (bt498.2.2.2 != t429) = true then (none) else ((laws_heldBox.f k t447 bt480.2.1 bt480.2.2 101).bind fun t508 => (if t508 < 0 then (none) else (if t508 = bt480.1 then (some true) else (none))))) else (none)))))) else (none))))) else (none)))))) else (none))) = some r := H
      have A30 := Aside0.mk A300
      clear A300
      replace H := Option.bind_eq_some_iff.mp H
      obtain ⟨t472, A310, H⟩ := H
      replace H : (if t472 = true then ((laws_markBox.f k t431 t432 t435 101).bind fun bt473 => ((laws_markBox.f k t439 t440 t443 bt473.1).bind fun bt476 => (if bt476.1 < 0 then (none) else ((laws_eqBox.f k t447 t448 t451 t422 t423 t426).bind fun t479 => (if t479 = true then ((laws_markBox.f k t447 t448 t451 101).bind fun bt480 => ((laws_heldBox.f k t447 bt480.2.1 bt480.2.2 101).bind fun t483 => (if t483 < 0 then (none) else (if t483 = bt480.1 then ((laws_toBox.f k a0_0 l0_1 l0_2 true).bind fun bt484 => ((laws_toBox.f k a1_0 l1_1 l1_2 true).bind fun bt491 => ((impl_HullOfBoxes.f k bt484.1 bt484.2.1 bt484.2.2 bt491.1 bt491.2.1 bt491.2.2).bind fun bt498 => ((laws_eqBox.f k bt498.1 bt498.2.1 bt498.2.2.1 t422 t423 t426).bind fun t507 => (if t507 = true then (if (bt498.2.2.2 != t429) = true then (none) else ((laws_heldBox.f k t447 bt480.2.1 bt480.2.2 101).bind fun t508 => (if t508 < 0 then (none) else (if t508 = bt480.1 then (some true) else (none))))) else (none)))))) else (none))))) else (none)))))) else (none)) = some r := H
      have A31 := Aside0.mk A310
      clear A310
      by_cases c32 : t472 = true
      ·
       subst c32
       have H1 : ((laws_markBox.f k t431 t432 t435 101).bind fun bt473 => ((laws_markBox.f k t439 t440 t443 bt473.1).bind fun bt476 => (if bt476.1 < 0 then (none) else ((laws_eqBox.f k t447 t448 t451 t422 t423 t426).bind fun t479 => (if t479 = true then ((laws_markBox.f k t447 t448 t451 101).bind fun bt480 => ((laws_heldBox.f k t447 bt480.2.1 bt480.2.2 101).bind fun t483 => (if t483 < 0 then (none) else (if t483 = bt480.1 then ((laws_toBox.f k a0_0 l0_1 l0_2 true).bind fun bt484 => ((laws_toBox.f k a1_0 l1_1 l1_2 true).bind fun bt491 => ((impl_HullOfBoxes.f k bt484.1 bt484.2.1 bt484.2.2 bt491.1 bt491.2.1 bt491.2.2).bind fun bt498 => ((laws_eqBox.f k bt498.1 bt498.2.1 bt498.2.2.1 t422 t423 t426).bind fun t507 => (if t507 = true then (if (bt498.2.2.2 != t429) = true then (none) else ((laws_heldBox.f k t447 bt480.2.1 bt480.2.2 101).bind fun t508 => (if t508 < 0 then (none) else (if t508 = bt480.1 then (some true) else (none))))) else (none)))))) else (none))))) else (none)))))) = some r := by rw [if_pos rfl] at H; exact H
       clear H
       have H := H1
       clear H1
       replace H := Option.bind_eq_some_iff.mp H
       obtain ⟨⟨t473, t474, t475⟩, A330, H⟩ := H
       replace H : ((laws_markBox.f k t439 t440 t443 t473).bind fun bt476 => (if bt476.1 < 0 then (none) else ((laws_eqBox.f k t447 t448 t451 t422 t423 t426).bind fun t479 => (if t479 = true then ((laws_markBox.f k t447 t448 t451 101).bind fun bt480 => ((laws_heldBox.f k t447 bt480.2.1 bt480.2.2 101).bind fun t483 => (if t483 < 0 then (none) else (if t483 = bt480.1 then ((laws_toBox.f k a0_0 l0_1 l0_2 true).bind fun bt484 => ((laws_toBox.f k a1_0 l1_1 l1_2 true).bind fun bt491 => ((impl_HullOfBoxes.f k bt484.1 bt484.2.1 bt484.2.2 bt491.1 bt491.2.1 bt491.2.2).bind fun bt498 => ((laws_eqBox.f k bt498.1 bt498.2.1 bt498.2.2.1 t422 t423 t426).bind fun t507 => (if t507 = true then (if (bt498.2.2.2 != t429) = true then (none) else ((laws_heldBox.f k t447 bt480.2.1 bt480.2.2 101).bind fun t508 => (if t508 < 0 then (none) else (if t508 = bt480.1 then (some true) else (none))))) else (none)))))) else (none))))) else (none))))) = some r := H
       have A33 := Aside0.mk A330
       clear A330
       replace H := Option.bind_eq_some_iff.mp H
       obtain ⟨⟨t476, t477, t478⟩, A340, H⟩ := H
       replace H : (if t476 < 0 then (none) else ((laws_eqBox.f k t447 t448 t451 t422 t423 t426).bind fun t479 => (if t479 = true then ((laws_markBox.f k t447 t448 t451 101).bind fun bt480 => ((laws_heldBox.f k t447 bt480.2.1 bt480.2.2 101).bind fun t483 => (if t483 < 0 then (none) else (if t483 = bt480.1 then ((laws_toBox.f k a0_0 l0_1 l0_2 true).bind fun bt484 => ((laws_toBox.f k a1_0 l1_1 l1_2 true).bind fun bt491 => ((impl_HullOfBoxes.f k bt484.1 bt484.2.1 bt484.2.2 bt491.1 bt491.2.1 bt491.2.2).bind fun bt498 => ((laws_eqBox.f k bt498.1 bt498.2.1 bt498.2.2.1 t422 t423 t426).bind fun t507 => (if t507 = true then (if (bt498.2.2.2 != t429) = true then (none) else ((laws_heldBox.f k t447 bt480.2.1 bt480.2.2 101).bind fun t508 => (if t508 < 0 then (none) else (if t508 = bt480.1 then (some true) else (none))))) else (none)))))) else (none))))) else (none)))) = some r := H
       have A34 := Aside0.mk A340
       clear A340
       by_cases c35 : t476 < 0
       ·
        rw [if_pos c35] at H
        exact absurd H (by simp)
       ·
        rw [if_neg c35] at H
        have c35b0 : decide (t476 < 0) = false := decide_eq_false c35
        clear c35
        replace H := Option.bind_eq_some_iff.mp H
        obtain ⟨t479, A360, H⟩ := H
        replace H : (if t479 = true then ((laws_markBox.f k t447 t448 t451 101).bind fun bt480 => ((laws_heldBox.f k t447 bt480.2.1 bt480.2.2 101).bind fun t483 => (if t483 < 0 then (none) else (if t483 = bt480.1 then ((laws_toBox.f k a0_0 l0_1 l0_2 true).bind fun bt484 => ((laws_toBox.f k a1_0 l1_1 l1_2 true).bind fun bt491 => ((impl_HullOfBoxes.f k bt484.1 bt484.2.1 bt484.2.2 bt491.1 bt491.2.1 bt491.2.2).bind fun bt498 => ((laws_eqBox.f k bt498.1 bt498.2.1 bt498.2.2.1 t422 t423 t426).bind fun t507 => (if t507 = true then (if (bt498.2.2.2 != t429) = true then (none) else ((laws_heldBox.f k t447 bt480.2.1 bt480.2.2 101).bind fun t508 => (if t508 < 0 then (none) else (if t508 = bt480.1 then (some true) else (none))))) else (none)))))) else (none))))) else (none)) = some r := H
        have A36 := Aside0.mk A360
        clear A360
        by_cases c37 : t479 = true
        ·
         subst c37
         have H1 : ((laws_markBox.f k t447 t448 t451 101).bind fun bt480 => ((laws_heldBox.f k t447 bt480.2.1 bt480.2.2 101).bind fun t483 => (if t483 < 0 then (none) else (if t483 = bt480.1 then ((laws_toBox.f k a0_0 l0_1 l0_2 true).bind fun bt484 => ((laws_toBox.f k a1_0 l1_1 l1_2 true).bind fun bt491 => ((impl_HullOfBoxes.f k bt484.1 bt484.2.1 bt484.2.2 bt491.1 bt491.2.1 bt491.2.2).bind fun bt498 => ((laws_eqBox.f k bt498.1 bt498.2.1 bt498.2.2.1 t422 t423 t426).bind fun t507 => (if t507 = true then (if (bt498.2.2.2 != t429) = true then (none) else ((laws_heldBox.f k t447 bt480.2.1 bt480.2.2 101).bind fun t508 => (if t508 < 0 then (none) else (if t508 = bt480.1 then (some true) else (none))))) else (none)))))) else (none))))) = some r := by rw [if_pos rfl] at H; exact H
         clear H
         have H := H1
         clear H1
         replace H := Option.bind_eq_some_iff.mp H
         obtain ⟨⟨t480, t481, t482⟩, A380, H⟩ := H
         replace H : ((laws_heldBox.f k t447 t481 t482 101).bind fun t483 => (if t483 < 0 then (none) else (if t483 = t480 then ((laws_toBox.f k a0_0 l0_1 l0_2 true).bind fun bt484 => ((laws_toBox.f k a1_0 l1_1 l1_2 true).bind fun bt491 => ((impl_HullOfBoxes.f k bt484.1 bt484.2.1 bt484.2.2 bt491.1 bt491.2.1 bt491.2.2).bind fun bt498 => ((laws_eqBox.f k bt498.1 bt498.2.1 bt498.2.2.1 t422 t423 t426).bind fun t507 => (if t507 = true then (if (bt498.2.2.2 != t429) = true then (none) else ((laws_heldBox.f k t447 t481 t482 101).bind fun t508 => (if t508 < 0 then (none) else (if t508 = t480 then (some true) else (none))))) else (none)))))) else (none)))) = some r := H
         have A38 := Aside0.mk A380
         clear A380
         replace H := Option.bind_eq_some_iff.mp H
         obtain ⟨t483, A390, H⟩ := H
         replace H : (if t483 < 0 then (none) else (if t483 = t480 then ((laws_toBox.f k a0_0 l0_1 l0_2 true).bind fun bt484 => ((laws_toBox.f k a1_0 l1_1 l1_2 true).bind fun bt491 => ((impl_HullOfBoxes.f k bt484.1 bt484.2.1 bt484.2.2 bt491.1 bt491.2.1 bt491.2.2).bind fun bt498 => ((laws_eqBox.f k bt498.1 bt498.2.1 bt498.2.2.1 t422 t423 t426).bind fun t507 => (if t507 = true then (if (bt498.2.2.2 != t429) = true then (none) else ((laws_heldBox.f k t447 t481 t482 101).bind fun t508 => (if t508 < 0 then (none) else (if t508 = t480 then (some true) else (none))))) else (none)))))) else (none))) = some r := H
         have A39 := Aside0.mk A390
         clear A390
         by_cases c40 : t483 < 0
         ·
          rw [if_pos c40] at H
          exact absurd H (by simp)
         ·
          rw [if_neg c40] at H
          have c40b0 : decide (t483 < 0) = false := decide_eq_false c40
          clear c40
          by_cases c41 : t483 = t480
          ·
           rw [if_pos c41] at H
           have c41b0 : (t483 == t480) = true := beq_iff_eq.mpr c41
           have c41b1 : (t483 != t480) = false := bne_eq_false_iff_eq.mpr c41
           clear c41
           replace H := Option.bind_eq_some_iff.mp H
           obtain ⟨⟨t484, t485, t488⟩, A420, H⟩ := H
           replace H : ((laws_toBox.f k a1_0 l1_1 l1_2 true).bind fun bt491 => ((impl_HullOfBoxes.f k t484 t485 t488 bt491.1 bt491.2.1 bt491.2.2).bind fun bt498 => ((laws_eqBox.f k bt498.1 bt498.2.1 bt498.2.2.1 t422 t423 t426).bind fun t507 => (if t507 = true then (if (bt498.2.2.2 != t429) = true then (none) else ((laws_heldBox.f k t447 t481 t482 101).bind fun t508 => (if t508 < 0 then (none) else (if t508 = t480 then (some true) else (none))))) else (none))))) = some r := H
           have A42 := Aside0.mk A420
           clear A420
           replace H := Option.bind_eq_some_iff.mp H
           obtain ⟨⟨t491, t492, t495⟩, A430, H⟩ := H
           replace H : ((impl_HullOfBoxes.f k t484 t485 t488 t491 t492 t495).bind fun bt498 => ((laws_eqBox.f k bt498.1 bt498.2.1 bt498.2.2.1 t422 t423 t426).bind fun t507 => (if t507 = true then (if (bt498.2.2.2 != t429) = true then (none) else ((laws_heldBox.f k t447 t481 t482 101).bind fun t508 => (if t508 < 0 then (none) else (if t508 = t480 then (some true) else (none))))) else (none)))) = some r := H
           have A43 := Aside0.mk A430
           clear A430
           replace H := Option.bind_eq_some_iff.mp H
           obtain ⟨⟨t498, t499, t502, t505⟩, A440, H⟩ := H
           replace H : ((laws_eqBox.f k t498 t499 t502 t422 t423 t426).bind fun t507 => (if t507 = true then (if (t505 != t429) = true then (none) else ((laws_heldBox.f k t447 t481 t482 101).bind fun t508 => (if t508 < 0 then (none) else (if t508 = t480 then (some true) else (none))))) else (none))) = some r := H
           have A44 := Aside0.mk A440
           clear A440
           replace H := Option.bind_eq_some_iff.mp H
           obtain ⟨t507, A450, H⟩ := H
           replace H : (if t507 = true then (if (t505 != t429) = true then (none) else ((laws_heldBox.f k t447 t481 t482 101).bind fun t508 => (if t508 < 0 then (none) else (if t508 = t480 then (some true) else (none))))) else (none)) = some r := H
           have A45 := Aside0.mk A450
           clear A450
           by_cases c46 : t507 = true
           ·
            subst c46
            have H1 : (if (t505 != t429) = true then (none) else ((laws_heldBox.f k t447 t481 t482 101).bind fun t508 => (if t508 < 0 then (none) else (if t508 = t480 then (some true) else (none))))) = some r := by rw [if_pos rfl] at H; exact H
            clear H
            have H := H1
            clear H1
            by_cases c47 : (t505 != t429) = true
            ·
             rw [if_pos c47] at H
             exact absurd H (by simp)
            ·
             rw [if_neg c47] at H
             have c47b0 : (t505 != t429) = false := by simpa using c47
             (try (have c47b1 : decide (t505 = t429) = true := by simpa using c47))
             (try (have c47b2 : (t505 == t429) = true := by simpa using c47))
             clear c47
             replace H := Option.bind_eq_some_iff.mp H
             obtain ⟨t508, A480, H⟩ := H
             replace H : (if t508 < 0 then (none) else (if t508 = t480 then (some true) else (none))) = some r := H
             have A48 := Aside0.mk A480
             clear A480
             by_cases c49 : t508 < 0
             ·
              rw [if_pos c49] at H
              exact absurd H (by simp)
             ·
              rw [if_neg c49] at H
              have c49b0 : decide (t508 < 0) = false := decide_eq_false c49
              clear c49
              by_cases c50 : t508 = t480
              ·
               rw [if_pos c50] at H
               have c50b0 : (t508 == t480) = true := beq_iff_eq.mpr c50
               have c50b1 : (t508 != t480) = false := bne_eq_false_iff_eq.mpr c50
               clear c50
               obtain rfl := Option.some.inj H
               go_enter Try.func10, Try.ntmps10
               try go_wp2_with (first | ((with_reducible refine gate_dst (N := 2) rfl ?_); refine zbe (N := 2) (cs := #[.int .i64 a0_0, .slice A0_1 l0_1.length c0_1, .slice A0_2 l0_2.length c0_2]) (t := 24) ?_; intro gb404 hg w51 hbox hb; have BK404 := Aside0.mk (hbox); have GW404 := Aside0.mk (zge (zb0 HB) hg); have GE404 := GW404; replace HB := Aside0.mk (below_step (zb0 HB) hb); clear hb hbox hg) | ((with_reducible refine gate_dst (N := 3) rfl ?_); refine zbe (N := 3) (cs := #[.int .i64 a1_0, .slice A1_1 l1_1.length c1_1, .slice A1_2 l1_2.length c1_2]) (t := 24) ?_; intro gb405 hg w52 hbox hb; have BK405 := Aside0.mk (hbox); have GW405 := Aside0.mk (zge (zb1 HB) hg); have GE405 := GW405; have NB404_405 := Aside0.mk (zlt BK404 hg); have NB405_404 := Aside0.mk (zgt BK404 hg); replace BK404 := Aside0.mk (zbb BK404 hb); replace HB := Aside0.mk (below_step (zb1 HB) hb); clear hb hbox hg; have hnb53 := NB404_405.out; have hnc53 := NB405_404.out; have hcz54_0 : w52.cell? ⟨gb404, 0, none⟩ = some (.int .i64 a0_0) := zc BK404 0; have hcz54_1 : w52.cell? ⟨gb404, 1, none⟩ = some (.slice A0_1 l0_1.length c0_1) := zc BK404 1; have hcz54_2 : w52.cell? ⟨gb404, 2, none⟩ = some (.slice A0_2 l0_2.length c0_2) := zc BK404 2; have hfz54_0 := blk_frozen BK404.out 0; have hfz54_1 := blk_frozen BK404.out 1; have hfz54_2 := blk_frozen BK404.out 2) | ((with_reducible refine gate_callee (f := 14) rfl ?_); refine goesL_ (some 19) rfl rfl Try.func14 (by kernel_rfl) rfl #[.agg #[.int .i64 a0_0, .slice A0_1 l0_1.length c0_1, .slice A0_2 l0_2.length c0_2], .int .i64 1000000] rfl zq6 ?_; (with_reducible refine (laws_szBox.calls a0_0 _ _ l0_1 _ _ l0_2 1000000 t406 _ ?side1 ?side2 ?side3 ?side4 A3.out).mono ?_); (case side1 => exact zcs HR0_1 HB); (case side2 => exact HC0_1.out); (case side3 => exact zcs HR0_2 HB); (case side4 => exact HC0_2.out); rintro e w55 ⟨rfl, hb⟩; refine ⟨_, rfl, ?_⟩; replace BK404 := Aside0.mk (zbb BK404 hb); replace BK405 := Aside0.mk (zbb BK405 hb); replace HB := Aside0.mk (below_step (zb1 HB) hb); (try clear hb); (try clear hb2); (try clear hk); (try clear hi); have hcz56_0 : w55.cell? ⟨gb405, 0, none⟩ = some (.int .i64 a1_0) := zc BK405 0; have hcz56_1 : w55.cell? ⟨gb405, 1, none⟩ = some (.slice A1_1 l1_1.length c1_1) := zc BK405 1; have hcz56_2 : w55.cell? ⟨gb405, 2, none⟩ = some (.slice A1_2 l1_2.length c1_2) := zc BK405 2; have hfz56_0 := blk_frozen BK405.out 0; have hfz56_1 := blk_frozen BK405.out 1; have hfz56_2 := blk_frozen BK405.out 2) | ((with_reducible refine gate_callee (f := 14) rfl ?_); refine goesL_ (some 24) rfl rfl Try.func14 (by kernel_rfl) rfl #[.agg #[.int .i64 a1_0, .slice A1_1 l1_1.length c1_1, .slice A1_2 l1_2.length c1_2], .int .i64 t406] rfl zq6 ?_; (with_reducible refine (laws_szBox.calls a1_0 _ _ l1_1 _ _ l1_2 t406 t407 _ ?side1 ?side2 ?side3 ?side4 A9.out).mono ?_); (case side1 => exact zcs HR1_1 HB); (case side2 => exact HC1_1.out); (case side3 => exact zcs HR1_2 HB); (case side4 => exact HC1_2.out); rintro e w57 ⟨rfl, hb⟩; refine ⟨_, rfl, ?_⟩; replace BK404 := Aside0.mk (zbb BK404 hb); replace BK405 := Aside0.mk (zbb BK405 hb); replace HB := Aside0.mk (below_step (zb1 HB) hb); (try clear hb); (try clear hb2); (try clear hk); (try clear hi)))
               replace BK404 := Aside0.mk (blk_drew BK404.out); replace BK405 := Aside0.mk (blk_drew BK405.out); replace HB := Aside0.mk (below_drew1 HB.out)
               refine start_ (n := 11) (S := fun w' => w'.cell? ⟨gb404, 0, none⟩ = some (.int .i64 a0_0) ∧ w'.cell? ⟨gb404, 1, none⟩ = some (.slice A0_1 l0_1.length c0_1) ∧ w'.cell? ⟨gb404, 2, none⟩ = some (.slice A0_2 l0_2.length c0_2) ∧ w'.cell? ⟨gb405, 0, none⟩ = some (.int .i64 a1_0) ∧ w'.cell? ⟨gb405, 1, none⟩ = some (.slice A1_1 l1_1.length c1_1) ∧ w'.cell? ⟨gb405, 2, none⟩ = some (.slice A1_2 l1_2.length c1_2)) (ds := []) #[false, false, false, false, false, false, false, false, false, false, false] (by kernel_rfl) rfl rfl ⟨zc BK404 0, zc BK404 1, zc BK404 2, zc BK405 0, zc BK405 1, zc BK405 2⟩ (fun hHeld => ?_); refine with_tabW laws_FnExactHullOfBoxes.tab8 laws_FnExactHullOfBoxes.bits8 (fun HT_ HW_ => ?_)
               generalize w57.drew = w58 at BK404 BK405 HB hHeld ⊢
               refine take_ (i := 0) (N := some 28) (v := ?_) (a' := ?_) #[true, false, false, false, false, false, false, false, false, false, false] rfl rfl (take_ofW HT_.out HW_.out (by kernel_rfl)) (fun _ _ _ h => h) (Or.inl ⟨by rfl, ?_⟩) hHeld ?_ ?_
               rotate_left
               ·
                rintro w' ⟨s0, s1, s2, s3, s4, s5⟩
                go_simp
                with_reducible rfl
               rotate_left
               ·
                simp only [Act.put, List.setIfInBounds_toArray, List.set_cons_zero, List.set_cons_succ, i64_w, i32_w]
                rfl
               refine take_ (i := 2) (N := some 30) (v := ?_) (a' := ?_) #[true, false, true, false, false, false, false, false, false, false, false] rfl rfl (take_ofW HT_.out HW_.out (by kernel_rfl)) (fun _ _ _ h => h) (Or.inl ⟨by rfl, ?_⟩) hHeld ?_ ?_
               rotate_left
               ·
                rintro w' ⟨s0, s1, s2, s3, s4, s5⟩
                go_simp
                with_reducible rfl
               rotate_left
               ·
                simp only [Act.put, List.setIfInBounds_toArray, List.set_cons_zero, List.set_cons_succ, i64_w, i32_w]
                rfl
               refine join_ (σ := Value × Value × Value × Value × Value × Value × Nat) 2 #[true, true, true, true, true, true, true, true, true, false, false] (fun s_ => [(29, .agg #[.int .i64 t408, s_.1, s_.2.1]), (31, .agg #[.int .i64 t415, s_.2.2.1, s_.2.2.2.1]), (32, .tuple #[.agg #[.int .i64 t422, s_.2.2.2.2.1, s_.2.2.2.2.2.1], .bool t429]), (6, .pointer (some ⟨s_.2.2.2.2.2.2, 0, none⟩)), (27, .tuple #[.agg #[.int .i64 t422, s_.2.2.2.2.1, s_.2.2.2.2.2.1], .bool t429]), (33, .agg #[.int .i64 t422, s_.2.2.2.2.1, s_.2.2.2.2.2.1]), (34, .bool t429)]) (fun s_ w' => (w'.cell? ⟨gb404, 0, none⟩ = some (.int .i64 a0_0) ∧ w'.cell? ⟨gb404, 1, none⟩ = some (.slice A0_1 l0_1.length c0_1) ∧ w'.cell? ⟨gb404, 2, none⟩ = some (.slice A0_2 l0_2.length c0_2) ∧ w'.cell? ⟨gb405, 0, none⟩ = some (.int .i64 a1_0) ∧ w'.cell? ⟨gb405, 1, none⟩ = some (.slice A1_1 l1_1.length c1_1) ∧ w'.cell? ⟨gb405, 2, none⟩ = some (.slice A1_2 l1_2.length c1_2)) ∧ (Kd.R (Kd.int .i64) 3 w' w.heap.size (fun k_ => some k_ ≠ (s_.2.1 : Value).ownBlock ∧ some k_ ≠ (s_.2.2.1 : Value).ownBlock ∧ some k_ ≠ (s_.2.2.2.1 : Value).ownBlock ∧ some k_ ≠ (s_.2.2.2.2.1 : Value).ownBlock ∧ some k_ ≠ (s_.2.2.2.2.2.1 : Value).ownBlock) s_.1 t409) ∧ (Kd.R (Kd.int .i64) 3 w' w.heap.size (fun k_ => some k_ ≠ (s_.1 : Value).ownBlock ∧ some k_ ≠ (s_.2.2.1 : Value).ownBlock ∧ some k_ ≠ (s_.2.2.2.1 : Value).ownBlock ∧ some k_ ≠ (s_.2.2.2.2.1 : Value).ownBlock ∧ some k_ ≠ (s_.2.2.2.2.2.1 : Value).ownBlock) s_.2.1 t412) ∧ (Kd.R (Kd.int .i64) 3 w' w.heap.size (fun k_ => some k_ ≠ (s_.1 : Value).ownBlock ∧ some k_ ≠ (s_.2.1 : Value).ownBlock ∧ some k_ ≠ (s_.2.2.2.1 : Value).ownBlock ∧ some k_ ≠ (s_.2.2.2.2.1 : Value).ownBlock ∧ some k_ ≠ (s_.2.2.2.2.2.1 : Value).ownBlock) s_.2.2.1 t416) ∧ (Kd.R (Kd.int .i64) 3 w' w.heap.size (fun k_ => some k_ ≠ (s_.1 : Value).ownBlock ∧ some k_ ≠ (s_.2.1 : Value).ownBlock ∧ some k_ ≠ (s_.2.2.1 : Value).ownBlock ∧ some k_ ≠ (s_.2.2.2.2.1 : Value).ownBlock ∧ some k_ ≠ (s_.2.2.2.2.2.1 : Value).ownBlock) s_.2.2.2.1 t419) ∧ (Kd.R (Kd.int .i64) 3 w' w.heap.size (fun k_ => some k_ ≠ (s_.1 : Value).ownBlock ∧ some k_ ≠ (s_.2.1 : Value).ownBlock ∧ some k_ ≠ (s_.2.2.1 : Value).ownBlock ∧ some k_ ≠ (s_.2.2.2.1 : Value).ownBlock ∧ some k_ ≠ (s_.2.2.2.2.2.1 : Value).ownBlock) s_.2.2.2.2.1 t423) ∧ (Kd.R (Kd.int .i64) 3 w' w.heap.size (fun k_ => some k_ ≠ (s_.1 : Value).ownBlock ∧ some k_ ≠ (s_.2.1 : Value).ownBlock ∧ some k_ ≠ (s_.2.2.1 : Value).ownBlock ∧ some k_ ≠ (s_.2.2.2.1 : Value).ownBlock ∧ some k_ ≠ (s_.2.2.2.2.1 : Value).ownBlock) s_.2.2.2.2.2.1 t426) ∧ (w'.heap[gb404]? = some (.cells #[.int .i64 a0_0, .slice A0_1 l0_1.length c0_1, .slice A0_2 l0_2.length c0_2] 24 (0, 0))) ∧ (w'.heap[gb405]? = some (.cells #[.int .i64 a1_0, .slice A1_1 l1_1.length c1_1, .slice A1_2 l1_2.length c1_2] 24 (0, 0))) ∧ (w'.heap[s_.2.2.2.2.2.2]? = some (.cells #[.int .i64 0, .slice none 0 0, .slice none 0 0] 27 (0, 0))) ∧ (w.heap.size ≤ s_.2.2.2.2.2.2) ∧ (w.heap.size ≤ s_.2.2.2.2.2.2) ∧ (gb404 ≠ s_.2.2.2.2.2.2) ∧ (s_.2.2.2.2.2.2 ≠ gb404) ∧ (gb405 ≠ s_.2.2.2.2.2.2) ∧ (s_.2.2.2.2.2.2 ≠ gb405) ∧ (Below w.heap.size w w')) ?_ ?_
               rotate_left
               ·
                intro hCont
                refine two_ (i := 1) (j := 8) (Ni := some 29) (Nj := some 6) #[true, true, true, false, false, false, false, false, false, false, false] #[true, false, true, false, false, false, false, false, true, false, false] rfl rfl rfl rfl (two_of HT_.out (by kernel_rfl)) (by decide) (by decide) (fun K hK => ?_) (fun K hK => ?_)
                ·
                 refine goes_ Try.func16 (by kernel_rfl) rfl #[.agg #[.int .i64 a0_0, .slice A0_1 l0_1.length c0_1, .slice A0_2 l0_2.length c0_2], .bool false] (by rfl) rfl rfl zq6 ?_
                 with_reducible refine (laws_toBox.calls k a0_0 _ _ l0_1 _ _ l0_2 false t408 t409 t412 _ ?side1 ?side2 ?side3 ?side4 A18.out).mono ?_
                 (case side1 => exact zcs HR0_1 HB)
                 (case side2 => exact HC0_1.out)
                 (case side3 => exact zcs HR0_2 HB)
                 (case side4 => exact HC0_2.out)
                 rintro e w59 ⟨v410, v413, rfl, ho0, ho1, hb, ho0F, ho1F⟩
                 refine ⟨_, rfl, ?_⟩
                 have n0_ := Aside0.mk (Kd.R_lower ho0 (below_size (zb1 HB)))
                 have n0F_ := Aside0.mk (Kd.R_lower ho0F (below_size (zb1 HB)))
                 have n1_ := Aside0.mk (Kd.R_lower ho1 (below_size (zb1 HB)))
                 have n1F_ := Aside0.mk (Kd.R_lower ho1F (below_size (zb1 HB)))
                 have n2_ := Aside0.mk (zbb BK404 hb)
                 have n3_ := Aside0.mk (zbb BK405 hb)
                 have n4_ := Aside0.mk (below_step (zb1 HB) hb)
                 clear BK404 BK405 HB
                 have HO411 := n0_; have HO411F := n0F_; have HO414 := n1_; have HO414F := n1F_; have BK404 := n2_; have BK405 := n3_; have HB := n4_
                 clear n0_ n1_ n2_ n3_ n4_ n0F_ n1F_
                 (try clear hb)
                 (try clear hb2)
                 (try clear hk)
                 (try clear hi)
                 (try clear ho0)
                 (try clear ho0F)
                 (try clear ho1)
                 (try clear ho1F)
                 refine hK.out _ _ ⟨zc BK404 0, zc BK404 1, zc BK404 2, zc BK405 0, zc BK405 1, zc BK405 2⟩ (fun hHeld => ?_)
                 clear hK K
                 refine norm_ (a' := ?_) ?_ ?_
                 rotate_left
                 ·
                  show Act.put _ (some 29) _ = _
                  simp only [Act.put, List.setIfInBounds_toArray, List.set_cons_zero, List.set_cons_succ, i64_w, i32_w]; rfl
                 refine two_ (i := 3) (j := 8) (Ni := some 31) (Nj := some 6) #[true, true, true, true, false, false, false, false, false, false, false] #[true, true, true, false, false, false, false, false, true, false, false] rfl rfl rfl rfl (two_of HT_.out (by kernel_rfl)) (by decide) (by decide) (fun K hK => ?_) (fun K hK => ?_)
                 ·
                  refine goes_ Try.func16 (by kernel_rfl) rfl #[.agg #[.int .i64 a1_0, .slice A1_1 l1_1.length c1_1, .slice A1_2 l1_2.length c1_2], .bool false] (by rfl) rfl rfl zq6 ?_
                  with_reducible refine (laws_toBox.calls k a1_0 _ _ l1_1 _ _ l1_2 false t415 t416 t419 _ ?side1 ?side2 ?side3 ?side4 A19.out).mono ?_
                  (case side1 => exact zcs HR1_1 HB)
                  (case side2 => exact HC1_1.out)
                  (case side3 => exact zcs HR1_2 HB)
                  (case side4 => exact HC1_2.out)
                  rintro e w60 ⟨v417, v420, rfl, ho0, ho1, hb, ho0F, ho1F⟩
                  refine ⟨_, rfl, ?_⟩
                  have n0_ := Aside0.mk (zt2 (zq3 HO411) hb ho0 ho1)
                  have n0F_ := Aside0.mk (zt2 (zq3 HO411F) hb ho0 ho1)
                  have n1_ := Aside0.mk (zt2 (zq3 HO414) hb ho0 ho1)
                  have n1F_ := Aside0.mk (zt2 (zq3 HO414F) hb ho0 ho1)
                  have n2_ := Aside0.mk (Kd.R_lower (zn (zn ho0 HO411) HO414) (below_size (zb1 HB)))
                  have n2F_ := Aside0.mk (Kd.R_lower (zn (zn ho0F HO411) HO414) (below_size (zb1 HB)))
                  have n3_ := Aside0.mk (Kd.R_lower (zn (zn ho1 HO411) HO414) (below_size (zb1 HB)))
                  have n3F_ := Aside0.mk (Kd.R_lower (zn (zn ho1F HO411) HO414) (below_size (zb1 HB)))
                  have n4_ := Aside0.mk (zbb BK404 hb)
                  have n5_ := Aside0.mk (zbb BK405 hb)
                  have n6_ := Aside0.mk (below_step (zb1 HB) hb)
                  clear HO411 HO411F HO414 HO414F BK404 BK405 HB
                  have HO411 := n0_; have HO411F := n0F_; have HO414 := n1_; have HO414F := n1F_; have HO418 := n2_; have HO418F := n2F_; have HO421 := n3_; have HO421F := n3F_; have BK404 := n4_; have BK405 := n5_; have HB := n6_
                  clear n0_ n1_ n2_ n3_ n4_ n5_ n6_ n0F_ n1F_ n2F_ n3F_
                  (try clear hb)
                  (try clear hb2)
                  (try clear hk)
                  (try clear hi)
                  (try clear ho0)
                  (try clear ho0F)
                  (try clear ho1)
                  (try clear ho1F)
                  obtain ⟨Ao61, co61, eo61⟩ := Kd.R_slice HO411.out
                  (first | subst eo61 | (injection eo61 with f1_ f2_ f3_; have f4_ := f1_.symm; have f5_ := f3_.symm; clear f1_ f2_ f3_; subst f4_; subst f5_))
                  obtain ⟨Ao62, co62, eo62⟩ := Kd.R_slice HO414.out
                  (first | subst eo62 | (injection eo62 with f1_ f2_ f3_; have f4_ := f1_.symm; have f5_ := f3_.symm; clear f1_ f2_ f3_; subst f4_; subst f5_))
                  obtain ⟨Ao63, co63, eo63⟩ := Kd.R_slice HO418.out
                  (first | subst eo63 | (injection eo63 with f1_ f2_ f3_; have f4_ := f1_.symm; have f5_ := f3_.symm; clear f1_ f2_ f3_; subst f4_; subst f5_))
                  obtain ⟨Ao64, co64, eo64⟩ := Kd.R_slice HO421.out
                  (first | subst eo64 | (injection eo64 with f1_ f2_ f3_; have f4_ := f1_.symm; have f5_ := f3_.symm; clear f1_ f2_ f3_; subst f4_; subst f5_))
                  refine hK.out _ _ ⟨zc BK404 0, zc BK404 1, zc BK404 2, zc BK405 0, zc BK405 1, zc BK405 2⟩ (fun hHeld => ?_)
                  clear hK K
                  refine norm_ (a' := ?_) ?_ ?_
                  rotate_left
                  ·
                   show Act.put _ (some 31) _ = _
                   simp only [Act.put, List.setIfInBounds_toArray, List.set_cons_zero, List.set_cons_succ, i64_w, i32_w]; rfl
                  refine two_ (i := 4) (j := 8) (Ni := some 32) (Nj := some 6) #[true, true, true, true, true, false, false, false, false, false, false] #[true, true, true, true, false, false, false, false, true, false, false] rfl rfl rfl rfl (two_of HT_.out (by kernel_rfl)) (by decide) (by decide) (fun K hK => ?_) (fun K hK => ?_)
                  ·
                   refine goes_ Try.func41 (by kernel_rfl) rfl #[.agg #[.int .i64 t408, .slice Ao61 t409.length co61, .slice Ao62 t412.length co62], .agg #[.int .i64 t415, .slice Ao63 t416.length co63, .slice Ao64 t419.length co64]] (by rfl) rfl rfl zq6 ?_
                   with_reducible refine (spec_HullOfBoxes.calls k t408 _ _ t409 _ _ t412 t415 _ _ t416 _ _ t419 t422 t423 t426 t429 _ ?side1 ?side2 ?side3 ?side4 ?side5 ?side6 ?side7 ?side8 A20.out).mono ?_
                   (case side1 => exact zcr HO411)
                   (case side2 => exact (Kd.R_reads' HO411.out).2.1)
                   (case side3 => exact zcr HO414)
                   (case side4 => exact (Kd.R_reads' HO414.out).2.1)
                   (case side5 => exact zcr HO418)
                   (case side6 => exact (Kd.R_reads' HO418.out).2.1)
                   (case side7 => exact zcr HO421)
                   (case side8 => exact (Kd.R_reads' HO421.out).2.1)
                   rintro e w65 ⟨v424, v427, rfl, ho0, ho1, hb⟩
                   refine ⟨_, rfl, ?_⟩
                   have n0_ := Aside0.mk (zt2 (zq3 HO411) hb ho0 ho1)
                   have n0F_ := Aside0.mk (zt2 (zq3 HO411F) hb ho0 ho1)
                   have n1_ := Aside0.mk (zt2 (zq3 HO414) hb ho0 ho1)
                   have n1F_ := Aside0.mk (zt2 (zq3 HO414F) hb ho0 ho1)
                   have n2_ := Aside0.mk (zt2 (zq3 HO418) hb ho0 ho1)
                   have n2F_ := Aside0.mk (zt2 (zq3 HO418F) hb ho0 ho1)
                   have n3_ := Aside0.mk (zt2 (zq3 HO421) hb ho0 ho1)
                   have n3F_ := Aside0.mk (zt2 (zq3 HO421F) hb ho0 ho1)
                   have n4_ := Aside0.mk (Kd.R_lower (zn (zn (zn (zn ho0 HO411) HO414) HO418) HO421) (below_size (zb1 HB)))
                   have n5_ := Aside0.mk (Kd.R_lower (zn (zn (zn (zn ho1 HO411) HO414) HO418) HO421) (below_size (zb1 HB)))
                   have n6_ := Aside0.mk (zbb BK404 hb)
                   have n7_ := Aside0.mk (zbb BK405 hb)
                   have n8_ := Aside0.mk (below_step (zb1 HB) hb)
                   clear HO411 HO411F HO414 HO414F HO418 HO418F HO421 HO421F BK404 BK405 HB
                   have HO411 := n0_; have HO411F := n0F_; have HO414 := n1_; have HO414F := n1F_; have HO418 := n2_; have HO418F := n2F_; have HO421 := n3_; have HO421F := n3F_; have HO425 := n4_; have HO428 := n5_; have BK404 := n6_; have BK405 := n7_; have HB := n8_
                   clear n0_ n1_ n2_ n3_ n4_ n5_ n6_ n7_ n8_ n0F_ n1F_ n2F_ n3F_
                   (try clear hb)
                   (try clear hb2)
                   (try clear hk)
                   (try clear hi)
                   (try clear ho0)
                   (try clear ho1)
                   refine hK.out _ _ ⟨zc BK404 0, zc BK404 1, zc BK404 2, zc BK405 0, zc BK405 1, zc BK405 2⟩ (fun hHeld => ?_)
                   clear hK K
                   refine norm_ (a' := ?_) ?_ ?_
                   rotate_left
                   ·
                    show Act.put _ (some 32) _ = _
                    simp only [Act.put, List.setIfInBounds_toArray, List.set_cons_zero, List.set_cons_succ, i64_w, i32_w]; rfl
                   refine zp (i := 5) (N := some 27) #[true, true, true, true, true, true, false, false, false, false, false] (any_of HT_.out (by kernel_rfl)) ?_
                   refine zp (i := 6) (N := some 33) #[true, true, true, true, true, true, true, false, false, false, false] (any_of HT_.out (by kernel_rfl)) ?_
                   refine zp (i := 7) (N := some 34) #[true, true, true, true, true, true, true, true, false, false, false] (any_of HT_.out (by kernel_rfl)) ?_
                   refine one_ (i := 8) (N := some 6) #[true, true, true, true, true, true, true, true, true, false, false] rfl rfl (one_of HT_.out (by kernel_rfl)) (by decide) (fun K hK => ?_)
                   refine box_step ?hg (N := 6) ?hd (cs := #[.int .i64 0, .slice none 0 0, .slice none 0 0]) (t := 27) ?hr ?_; (case hd => rfl); (case hg => rfl); (case hr => first | (go_simp; done) | (go_simp; rfl))
                   intro gb430 hg w66 hbox hb
                   have n0_ := Aside0.mk (Kd.R_below (zq3 HO411) hb)
                   have n0F_ := Aside0.mk (Kd.R_below (zq3 HO411F) hb)
                   have n1_ := Aside0.mk (Kd.R_below (zq3 HO414) hb)
                   have n1F_ := Aside0.mk (Kd.R_below (zq3 HO414F) hb)
                   have n2_ := Aside0.mk (Kd.R_below (zq3 HO418) hb)
                   have n2F_ := Aside0.mk (Kd.R_below (zq3 HO418F) hb)
                   have n3_ := Aside0.mk (Kd.R_below (zq3 HO421) hb)
                   have n3F_ := Aside0.mk (Kd.R_below (zq3 HO421F) hb)
                   have n4_ := Aside0.mk (Kd.R_below (zq3 HO425) hb)
                   have n5_ := Aside0.mk (Kd.R_below (zq3 HO428) hb)
                   have n6_ := Aside0.mk (zbb BK404 hb)
                   have n7_ := Aside0.mk (zbb BK405 hb)
                   have n8_ := Aside0.mk (below_step (zb1 HB) hb)
                   have n9_ := Aside0.mk (hbox)
                   have n10_ := Aside0.mk (zge (zb1 HB) hg)
                   have n11_ := Aside0.mk (zge (zb1 HB) hg)
                   have n12_ := Aside0.mk (zlt BK404 hg)
                   have n13_ := Aside0.mk (zgt BK404 hg)
                   have n14_ := Aside0.mk (zlt BK405 hg)
                   have n15_ := Aside0.mk (zgt BK405 hg)
                   clear HO411 HO411F HO414 HO414F HO418 HO418F HO421 HO421F HO425 HO428 BK404 BK405 HB
                   have HO411 := n0_; have HO411F := n0F_; have HO414 := n1_; have HO414F := n1F_; have HO418 := n2_; have HO418F := n2F_; have HO421 := n3_; have HO421F := n3F_; have HO425 := n4_; have HO428 := n5_; have BK404 := n6_; have BK405 := n7_; have HB := n8_; have BK430 := n9_; have GW430 := n10_; have GE430 := n11_; have NB404_430 := n12_; have NB430_404 := n13_; have NB405_430 := n14_; have NB430_405 := n15_
                   clear n0_ n1_ n2_ n3_ n4_ n5_ n6_ n7_ n8_ n9_ n10_ n11_ n12_ n13_ n14_ n15_ n0F_ n1F_ n2F_ n3F_ hb hbox hg
                   refine hK.out _ _ ⟨zc BK404 0, zc BK404 1, zc BK404 2, zc BK405 0, zc BK405 1, zc BK405 2⟩ (fun hHeld => ?_)
                   clear hK K
                   refine norm_ (a' := ?_) ?_ ?_
                   rotate_left
                   ·
                    show Act.put _ (some 6) _ = _
                    simp only [Act.put, List.setIfInBounds_toArray, List.set_cons_zero, List.set_cons_succ, i64_w, i32_w]; rfl
                   exact norm_ (by simp only [putAll, Act.put, List.setIfInBounds_toArray, List.set_cons_zero, List.set_cons_succ]) (hCont (.slice Ao61 t409.length co61, .slice Ao62 t412.length co62, .slice Ao63 t416.length co63, .slice Ao64 t419.length co64, v424, v427, gb430) _ ⟨hHeld, (zqm HO411), (zqm HO414), (zqm HO418), (zqm HO421), (zqm HO425), (zqm HO428), (zq1 BK404), (zq1 BK405), (zq1 BK430), GW430.out, GE430.out, NB404_430.out, NB430_404.out, NB405_430.out, NB430_405.out, (zb1 HB)⟩)
                  ·
                   refine box_step ?hg (N := 6) ?hd (cs := #[.int .i64 0, .slice none 0 0, .slice none 0 0]) (t := 27) ?hr ?_; (case hd => rfl); (case hg => rfl); (case hr => first | (go_simp; done) | (go_simp; rfl))
                   intro gb430 hg w61 hbox hb
                   have n0_ := Aside0.mk (Kd.R_below (zq3 HO411) hb)
                   have n0F_ := Aside0.mk (Kd.R_below (zq3 HO411F) hb)
                   have n1_ := Aside0.mk (Kd.R_below (zq3 HO414) hb)
                   have n1F_ := Aside0.mk (Kd.R_below (zq3 HO414F) hb)
                   have n2_ := Aside0.mk (Kd.R_below (zq3 HO418) hb)
                   have n2F_ := Aside0.mk (Kd.R_below (zq3 HO418F) hb)
                   have n3_ := Aside0.mk (Kd.R_below (zq3 HO421) hb)
                   have n3F_ := Aside0.mk (Kd.R_below (zq3 HO421F) hb)
                   have n4_ := Aside0.mk (zbb BK404 hb)
                   have n5_ := Aside0.mk (zbb BK405 hb)
                   have n6_ := Aside0.mk (below_step (zb1 HB) hb)
                   have n7_ := Aside0.mk (hbox)
                   have n8_ := Aside0.mk (zge (zb1 HB) hg)
                   have n9_ := Aside0.mk (zge (zb1 HB) hg)
                   have n10_ := Aside0.mk (zlt BK404 hg)
                   have n11_ := Aside0.mk (zgt BK404 hg)
                   have n12_ := Aside0.mk (zlt BK405 hg)
                   have n13_ := Aside0.mk (zgt BK405 hg)
                   clear HO411 HO411F HO414 HO414F HO418 HO418F HO421 HO421F BK404 BK405 HB
                   have HO411 := n0_; have HO411F := n0F_; have HO414 := n1_; have HO414F := n1F_; have HO418 := n2_; have HO418F := n2F_; have HO421 := n3_; have HO421F := n3F_; have BK404 := n4_; have BK405 := n5_; have HB := n6_; have BK430 := n7_; have GW430 := n8_; have GE430 := n9_; have NB404_430 := n10_; have NB430_404 := n11_; have NB405_430 := n12_; have NB430_405 := n13_
                   clear n0_ n1_ n2_ n3_ n4_ n5_ n6_ n7_ n8_ n9_ n10_ n11_ n12_ n13_ n0F_ n1F_ n2F_ n3F_ hb hbox hg
                   obtain ⟨Ao62, co62, eo62⟩ := Kd.R_slice HO411.out
                   (first | subst eo62 | (injection eo62 with f1_ f2_ f3_; have f4_ := f1_.symm; have f5_ := f3_.symm; clear f1_ f2_ f3_; subst f4_; subst f5_))
                   obtain ⟨Ao63, co63, eo63⟩ := Kd.R_slice HO414.out
                   (first | subst eo63 | (injection eo63 with f1_ f2_ f3_; have f4_ := f1_.symm; have f5_ := f3_.symm; clear f1_ f2_ f3_; subst f4_; subst f5_))
                   obtain ⟨Ao64, co64, eo64⟩ := Kd.R_slice HO418.out
                   (first | subst eo64 | (injection eo64 with f1_ f2_ f3_; have f4_ := f1_.symm; have f5_ := f3_.symm; clear f1_ f2_ f3_; subst f4_; subst f5_))
                   obtain ⟨Ao65, co65, eo65⟩ := Kd.R_slice HO421.out
                   (first | subst eo65 | (injection eo65 with f1_ f2_ f3_; have f4_ := f1_.symm; have f5_ := f3_.symm; clear f1_ f2_ f3_; subst f4_; subst f5_))
                   refine hK.out _ _ ⟨zc BK404 0, zc BK404 1, zc BK404 2, zc BK405 0, zc BK405 1, zc BK405 2⟩ (fun hHeld => ?_)
                   clear hK K
                   refine norm_ (a' := ?_) ?_ ?_
                   rotate_left
                   ·
                    show Act.put _ (some 6) _ = _
                    simp only [Act.put, List.setIfInBounds_toArray, List.set_cons_zero, List.set_cons_succ, i64_w, i32_w]; rfl
                   refine one_ (i := 4) (N := some 32) #[true, true, true, true, true, false, false, false, true, false, false] rfl rfl (one_of HT_.out (by kernel_rfl)) (by decide) (fun K hK => ?_)
                   refine goes_ Try.func41 (by kernel_rfl) rfl #[.agg #[.int .i64 t408, .slice Ao62 t409.length co62, .slice Ao63 t412.length co63], .agg #[.int .i64 t415, .slice Ao64 t416.length co64, .slice Ao65 t419.length co65]] (by rfl) rfl rfl zq6 ?_
                   with_reducible refine (spec_HullOfBoxes.calls k t408 _ _ t409 _ _ t412 t415 _ _ t416 _ _ t419 t422 t423 t426 t429 _ ?side1 ?side2 ?side3 ?side4 ?side5 ?side6 ?side7 ?side8 A20.out).mono ?_
                   (case side1 => exact zcr HO411)
                   (case side2 => exact (Kd.R_reads' HO411.out).2.1)
                   (case side3 => exact zcr HO414)
                   (case side4 => exact (Kd.R_reads' HO414.out).2.1)
                   (case side5 => exact zcr HO418)
                   (case side6 => exact (Kd.R_reads' HO418.out).2.1)
                   (case side7 => exact zcr HO421)
                   (case side8 => exact (Kd.R_reads' HO421.out).2.1)
                   rintro e w66 ⟨v424, v427, rfl, ho0, ho1, hb⟩
                   refine ⟨_, rfl, ?_⟩
                   have n0_ := Aside0.mk (zt2 (zq3 HO411) hb ho0 ho1)
                   have n0F_ := Aside0.mk (zt2 (zq3 HO411F) hb ho0 ho1)
                   have n1_ := Aside0.mk (zt2 (zq3 HO414) hb ho0 ho1)
                   have n1F_ := Aside0.mk (zt2 (zq3 HO414F) hb ho0 ho1)
                   have n2_ := Aside0.mk (zt2 (zq3 HO418) hb ho0 ho1)
                   have n2F_ := Aside0.mk (zt2 (zq3 HO418F) hb ho0 ho1)
                   have n3_ := Aside0.mk (zt2 (zq3 HO421) hb ho0 ho1)
                   have n3F_ := Aside0.mk (zt2 (zq3 HO421F) hb ho0 ho1)
                   have n4_ := Aside0.mk (Kd.R_lower (zn (zn (zn (zn ho0 HO411) HO414) HO418) HO421) (below_size (zb1 HB)))
                   have n5_ := Aside0.mk (Kd.R_lower (zn (zn (zn (zn ho1 HO411) HO414) HO418) HO421) (below_size (zb1 HB)))
                   have n6_ := Aside0.mk (zbb BK404 hb)
                   have n7_ := Aside0.mk (zbb BK405 hb)
                   have n8_ := Aside0.mk (zbb BK430 hb)
                   have n9_ := Aside0.mk (below_step (zb1 HB) hb)
                   clear HO411 HO411F HO414 HO414F HO418 HO418F HO421 HO421F BK404 BK405 BK430 HB
                   have HO411 := n0_; have HO411F := n0F_; have HO414 := n1_; have HO414F := n1F_; have HO418 := n2_; have HO418F := n2F_; have HO421 := n3_; have HO421F := n3F_; have HO425 := n4_; have HO428 := n5_; have BK404 := n6_; have BK405 := n7_; have BK430 := n8_; have HB := n9_
                   clear n0_ n1_ n2_ n3_ n4_ n5_ n6_ n7_ n8_ n9_ n0F_ n1F_ n2F_ n3F_
                   (try clear hb)
                   (try clear hb2)
                   (try clear hk)
                   (try clear hi)
                   (try clear ho0)
                   (try clear ho1)
                   refine hK.out _ _ ⟨zc BK404 0, zc BK404 1, zc BK404 2, zc BK405 0, zc BK405 1, zc BK405 2⟩ (fun hHeld => ?_)
                   clear hK K
                   refine norm_ (a' := ?_) ?_ ?_
                   rotate_left
                   ·
                    show Act.put _ (some 32) _ = _
                    simp only [Act.put, List.setIfInBounds_toArray, List.set_cons_zero, List.set_cons_succ, i64_w, i32_w]; rfl
                   refine zp (i := 5) (N := some 27) #[true, true, true, true, true, true, false, false, true, false, false] (any_of HT_.out (by kernel_rfl)) ?_
                   refine zp (i := 6) (N := some 33) #[true, true, true, true, true, true, true, false, true, false, false] (any_of HT_.out (by kernel_rfl)) ?_
                   refine zp (i := 7) (N := some 34) #[true, true, true, true, true, true, true, true, true, false, false] (any_of HT_.out (by kernel_rfl)) ?_
                   exact norm_ (by simp only [putAll, Act.put, List.setIfInBounds_toArray, List.set_cons_zero, List.set_cons_succ]) (hCont (.slice Ao62 t409.length co62, .slice Ao63 t412.length co63, .slice Ao64 t416.length co64, .slice Ao65 t419.length co65, v424, v427, gb430) _ ⟨hHeld, (zqm HO411), (zqm HO414), (zqm HO418), (zqm HO421), (zqm HO425), (zqm HO428), (zq1 BK404), (zq1 BK405), (zq1 BK430), GW430.out, GE430.out, NB404_430.out, NB430_404.out, NB405_430.out, NB430_405.out, (zb1 HB)⟩)
                 ·
                  refine box_step ?hg (N := 6) ?hd (cs := #[.int .i64 0, .slice none 0 0, .slice none 0 0]) (t := 27) ?hr ?_; (case hd => rfl); (case hg => rfl); (case hr => first | (go_simp; done) | (go_simp; rfl))
                  intro gb430 hg w60 hbox hb
                  have n0_ := Aside0.mk (Kd.R_below (zq3 HO411) hb)
                  have n0F_ := Aside0.mk (Kd.R_below (zq3 HO411F) hb)
                  have n1_ := Aside0.mk (Kd.R_below (zq3 HO414) hb)
                  have n1F_ := Aside0.mk (Kd.R_below (zq3 HO414F) hb)
                  have n2_ := Aside0.mk (zbb BK404 hb)
                  have n3_ := Aside0.mk (zbb BK405 hb)
                  have n4_ := Aside0.mk (below_step (zb1 HB) hb)
                  have n5_ := Aside0.mk (hbox)
                  have n6_ := Aside0.mk (zge (zb1 HB) hg)
                  have n7_ := Aside0.mk (zge (zb1 HB) hg)
                  have n8_ := Aside0.mk (zlt BK404 hg)
                  have n9_ := Aside0.mk (zgt BK404 hg)
                  have n10_ := Aside0.mk (zlt BK405 hg)
                  have n11_ := Aside0.mk (zgt BK405 hg)
                  clear HO411 HO411F HO414 HO414F BK404 BK405 HB
                  have HO411 := n0_; have HO411F := n0F_; have HO414 := n1_; have HO414F := n1F_; have BK404 := n2_; have BK405 := n3_; have HB := n4_; have BK430 := n5_; have GW430 := n6_; have GE430 := n7_; have NB404_430 := n8_; have NB430_404 := n9_; have NB405_430 := n10_; have NB430_405 := n11_
                  clear n0_ n1_ n2_ n3_ n4_ n5_ n6_ n7_ n8_ n9_ n10_ n11_ n0F_ n1F_ hb hbox hg
                  refine hK.out _ _ ⟨zc BK404 0, zc BK404 1, zc BK404 2, zc BK405 0, zc BK405 1, zc BK405 2⟩ (fun hHeld => ?_)
                  clear hK K
                  refine norm_ (a' := ?_) ?_ ?_
                  rotate_left
                  ·
                   show Act.put _ (some 6) _ = _
                   simp only [Act.put, List.setIfInBounds_toArray, List.set_cons_zero, List.set_cons_succ, i64_w, i32_w]; rfl
                  refine one_ (i := 3) (N := some 31) #[true, true, true, true, false, false, false, false, true, false, false] rfl rfl (one_of HT_.out (by kernel_rfl)) (by decide) (fun K hK => ?_)
                  refine goes_ Try.func16 (by kernel_rfl) rfl #[.agg #[.int .i64 a1_0, .slice A1_1 l1_1.length c1_1, .slice A1_2 l1_2.length c1_2], .bool false] (by rfl) rfl rfl zq6 ?_
                  with_reducible refine (laws_toBox.calls k a1_0 _ _ l1_1 _ _ l1_2 false t415 t416 t419 _ ?side1 ?side2 ?side3 ?side4 A19.out).mono ?_
                  (case side1 => exact zcs HR1_1 HB)
                  (case side2 => exact HC1_1.out)
                  (case side3 => exact zcs HR1_2 HB)
                  (case side4 => exact HC1_2.out)
                  rintro e w61 ⟨v417, v420, rfl, ho0, ho1, hb, ho0F, ho1F⟩
                  refine ⟨_, rfl, ?_⟩
                  have n0_ := Aside0.mk (zt2 (zq3 HO411) hb ho0 ho1)
                  have n0F_ := Aside0.mk (zt2 (zq3 HO411F) hb ho0 ho1)
                  have n1_ := Aside0.mk (zt2 (zq3 HO414) hb ho0 ho1)
                  have n1F_ := Aside0.mk (zt2 (zq3 HO414F) hb ho0 ho1)
                  have n2_ := Aside0.mk (Kd.R_lower (zn (zn ho0 HO411) HO414) (below_size (zb1 HB)))
                  have n2F_ := Aside0.mk (Kd.R_lower (zn (zn ho0F HO411) HO414) (below_size (zb1 HB)))
                  have n3_ := Aside0.mk (Kd.R_lower (zn (zn ho1 HO411) HO414) (below_size (zb1 HB)))
                  have n3F_ := Aside0.mk (Kd.R_lower (zn (zn ho1F HO411) HO414) (below_size (zb1 HB)))
                  have n4_ := Aside0.mk (zbb BK404 hb)
                  have n5_ := Aside0.mk (zbb BK405 hb)
                  have n6_ := Aside0.mk (zbb BK430 hb)
                  have n7_ := Aside0.mk (below_step (zb1 HB) hb)
                  clear HO411 HO411F HO414 HO414F BK404 BK405 BK430 HB
                  have HO411 := n0_; have HO411F := n0F_; have HO414 := n1_; have HO414F := n1F_; have HO418 := n2_; have HO418F := n2F_; have HO421 := n3_; have HO421F := n3F_; have BK404 := n4_; have BK405 := n5_; have BK430 := n6_; have HB := n7_
                  clear n0_ n1_ n2_ n3_ n4_ n5_ n6_ n7_ n0F_ n1F_ n2F_ n3F_
                  (try clear hb)
                  (try clear hb2)
                  (try clear hk)
                  (try clear hi)
                  (try clear ho0)
                  (try clear ho0F)
                  (try clear ho1)
                  (try clear ho1F)
                  obtain ⟨Ao62, co62, eo62⟩ := Kd.R_slice HO411.out
                  (first | subst eo62 | (injection eo62 with f1_ f2_ f3_; have f4_ := f1_.symm; have f5_ := f3_.symm; clear f1_ f2_ f3_; subst f4_; subst f5_))
                  obtain ⟨Ao63, co63, eo63⟩ := Kd.R_slice HO414.out
                  (first | subst eo63 | (injection eo63 with f1_ f2_ f3_; have f4_ := f1_.symm; have f5_ := f3_.symm; clear f1_ f2_ f3_; subst f4_; subst f5_))
                  obtain ⟨Ao64, co64, eo64⟩ := Kd.R_slice HO418.out
                  (first | subst eo64 | (injection eo64 with f1_ f2_ f3_; have f4_ := f1_.symm; have f5_ := f3_.symm; clear f1_ f2_ f3_; subst f4_; subst f5_))
                  obtain ⟨Ao65, co65, eo65⟩ := Kd.R_slice HO421.out
                  (first | subst eo65 | (injection eo65 with f1_ f2_ f3_; have f4_ := f1_.symm; have f5_ := f3_.symm; clear f1_ f2_ f3_; subst f4_; subst f5_))
                  refine hK.out _ _ ⟨zc BK404 0, zc BK404 1, zc BK404 2, zc BK405 0, zc BK405 1, zc BK405 2⟩ (fun hHeld => ?_)
                  clear hK K
                  refine norm_ (a' := ?_) ?_ ?_
                  rotate_left
                  ·
                   show Act.put _ (some 31) _ = _
                   simp only [Act.put, List.setIfInBounds_toArray, List.set_cons_zero, List.set_cons_succ, i64_w, i32_w]; rfl
                  refine one_ (i := 4) (N := some 32) #[true, true, true, true, true, false, false, false, true, false, false] rfl rfl (one_of HT_.out (by kernel_rfl)) (by decide) (fun K hK => ?_)
                  refine goes_ Try.func41 (by kernel_rfl) rfl #[.agg #[.int .i64 t408, .slice Ao62 t409.length co62, .slice Ao63 t412.length co63], .agg #[.int .i64 t415, .slice Ao64 t416.length co64, .slice Ao65 t419.length co65]] (by rfl) rfl rfl zq6 ?_
                  with_reducible refine (spec_HullOfBoxes.calls k t408 _ _ t409 _ _ t412 t415 _ _ t416 _ _ t419 t422 t423 t426 t429 _ ?side1 ?side2 ?side3 ?side4 ?side5 ?side6 ?side7 ?side8 A20.out).mono ?_
                  (case side1 => exact zcr HO411)
                  (case side2 => exact (Kd.R_reads' HO411.out).2.1)
                  (case side3 => exact zcr HO414)
                  (case side4 => exact (Kd.R_reads' HO414.out).2.1)
                  (case side5 => exact zcr HO418)
                  (case side6 => exact (Kd.R_reads' HO418.out).2.1)
                  (case side7 => exact zcr HO421)
                  (case side8 => exact (Kd.R_reads' HO421.out).2.1)
                  rintro e w66 ⟨v424, v427, rfl, ho0, ho1, hb⟩
                  refine ⟨_, rfl, ?_⟩
                  have n0_ := Aside0.mk (zt2 (zq3 HO411) hb ho0 ho1)
                  have n0F_ := Aside0.mk (zt2 (zq3 HO411F) hb ho0 ho1)
                  have n1_ := Aside0.mk (zt2 (zq3 HO414) hb ho0 ho1)
                  have n1F_ := Aside0.mk (zt2 (zq3 HO414F) hb ho0 ho1)
                  have n2_ := Aside0.mk (zt2 (zq3 HO418) hb ho0 ho1)
                  have n2F_ := Aside0.mk (zt2 (zq3 HO418F) hb ho0 ho1)
                  have n3_ := Aside0.mk (zt2 (zq3 HO421) hb ho0 ho1)
                  have n3F_ := Aside0.mk (zt2 (zq3 HO421F) hb ho0 ho1)
                  have n4_ := Aside0.mk (Kd.R_lower (zn (zn (zn (zn ho0 HO411) HO414) HO418) HO421) (below_size (zb1 HB)))
                  have n5_ := Aside0.mk (Kd.R_lower (zn (zn (zn (zn ho1 HO411) HO414) HO418) HO421) (below_size (zb1 HB)))
                  have n6_ := Aside0.mk (zbb BK404 hb)
                  have n7_ := Aside0.mk (zbb BK405 hb)
                  have n8_ := Aside0.mk (zbb BK430 hb)
                  have n9_ := Aside0.mk (below_step (zb1 HB) hb)
                  clear HO411 HO411F HO414 HO414F HO418 HO418F HO421 HO421F BK404 BK405 BK430 HB
                  have HO411 := n0_; have HO411F := n0F_; have HO414 := n1_; have HO414F := n1F_; have HO418 := n2_; have HO418F := n2F_; have HO421 := n3_; have HO421F := n3F_; have HO425 := n4_; have HO428 := n5_; have BK404 := n6_; have BK405 := n7_; have BK430 := n8_; have HB := n9_
                  clear n0_ n1_ n2_ n3_ n4_ n5_ n6_ n7_ n8_ n9_ n0F_ n1F_ n2F_ n3F_
                  (try clear hb)
                  (try clear hb2)
                  (try clear hk)
                  (try clear hi)
                  (try clear ho0)
                  (try clear ho1)
                  refine hK.out _ _ ⟨zc BK404 0, zc BK404 1, zc BK404 2, zc BK405 0, zc BK405 1, zc BK405 2⟩ (fun hHeld => ?_)
                  clear hK K
                  refine norm_ (a' := ?_) ?_ ?_
                  rotate_left
                  ·
                   show Act.put _ (some 32) _ = _
                   simp only [Act.put, List.setIfInBounds_toArray, List.set_cons_zero, List.set_cons_succ, i64_w, i32_w]; rfl
                  refine zp (i := 5) (N := some 27) #[true, true, true, true, true, true, false, false, true, false, false] (any_of HT_.out (by kernel_rfl)) ?_
                  refine zp (i := 6) (N := some 33) #[true, true, true, true, true, true, true, false, true, false, false] (any_of HT_.out (by kernel_rfl)) ?_
                  refine zp (i := 7) (N := some 34) #[true, true, true, true, true, true, true, true, true, false, false] (any_of HT_.out (by kernel_rfl)) ?_
                  exact norm_ (by simp only [putAll, Act.put, List.setIfInBounds_toArray, List.set_cons_zero, List.set_cons_succ]) (hCont (.slice Ao62 t409.length co62, .slice Ao63 t412.length co63, .slice Ao64 t416.length co64, .slice Ao65 t419.length co65, v424, v427, gb430) _ ⟨hHeld, (zqm HO411), (zqm HO414), (zqm HO418), (zqm HO421), (zqm HO425), (zqm HO428), (zq1 BK404), (zq1 BK405), (zq1 BK430), GW430.out, GE430.out, NB404_430.out, NB430_404.out, NB405_430.out, NB430_405.out, (zb1 HB)⟩)
                ·
                 refine box_step ?hg (N := 6) ?hd (cs := #[.int .i64 0, .slice none 0 0, .slice none 0 0]) (t := 27) ?hr ?_; (case hd => rfl); (case hg => rfl); (case hr => first | (go_simp; done) | (go_simp; rfl))
                 intro gb430 hg w59 hbox hb
                 have n0_ := Aside0.mk (zbb BK404 hb)
                 have n1_ := Aside0.mk (zbb BK405 hb)
                 have n2_ := Aside0.mk (below_step (zb1 HB) hb)
                 have BK430 := Aside0.mk (hbox)
                 have GW430 := Aside0.mk (zge (zb1 HB) hg)
                 have GE430 := Aside0.mk (zge (zb1 HB) hg)
                 have NB404_430 := Aside0.mk (zlt BK404 hg)
                 have NB430_404 := Aside0.mk (zgt BK404 hg)
                 have NB405_430 := Aside0.mk (zlt BK405 hg)
                 have NB430_405 := Aside0.mk (zgt BK405 hg)
                 clear BK404 BK405 HB
                 have BK404 := n0_; have BK405 := n1_; have HB := n2_
                 clear n0_ n1_ n2_ hb hbox hg
                 refine hK.out _ _ ⟨zc BK404 0, zc BK404 1, zc BK404 2, zc BK405 0, zc BK405 1, zc BK405 2⟩ (fun hHeld => ?_)
                 clear hK K
                 refine norm_ (a' := ?_) ?_ ?_
                 rotate_left
                 ·
                  show Act.put _ (some 6) _ = _
                  simp only [Act.put, List.setIfInBounds_toArray, List.set_cons_zero, List.set_cons_succ, i64_w, i32_w]; rfl
                 refine one_ (i := 1) (N := some 29) #[true, true, true, false, false, false, false, false, true, false, false] rfl rfl (one_of HT_.out (by kernel_rfl)) (by decide) (fun K hK => ?_)
                 refine goes_ Try.func16 (by kernel_rfl) rfl #[.agg #[.int .i64 a0_0, .slice A0_1 l0_1.length c0_1, .slice A0_2 l0_2.length c0_2], .bool false] (by rfl) rfl rfl zq6 ?_
                 with_reducible refine (laws_toBox.calls k a0_0 _ _ l0_1 _ _ l0_2 false t408 t409 t412 _ ?side1 ?side2 ?side3 ?side4 A18.out).mono ?_
                 (case side1 => exact zcs HR0_1 HB)
                 (case side2 => exact HC0_1.out)
                 (case side3 => exact zcs HR0_2 HB)
                 (case side4 => exact HC0_2.out)
                 rintro e w60 ⟨v410, v413, rfl, ho0, ho1, hb, ho0F, ho1F⟩
                 refine ⟨_, rfl, ?_⟩
                 have n0_ := Aside0.mk (Kd.R_lower ho0 (below_size (zb1 HB)))
                 have n0F_ := Aside0.mk (Kd.R_lower ho0F (below_size (zb1 HB)))
                 have n1_ := Aside0.mk (Kd.R_lower ho1 (below_size (zb1 HB)))
                 have n1F_ := Aside0.mk (Kd.R_lower ho1F (below_size (zb1 HB)))
                 have n2_ := Aside0.mk (zbb BK404 hb)
                 have n3_ := Aside0.mk (zbb BK405 hb)
                 have n4_ := Aside0.mk (zbb BK430 hb)
                 have n5_ := Aside0.mk (below_step (zb1 HB) hb)
                 clear BK404 BK405 BK430 HB
                 have HO411 := n0_; have HO411F := n0F_; have HO414 := n1_; have HO414F := n1F_; have BK404 := n2_; have BK405 := n3_; have BK430 := n4_; have HB := n5_
                 clear n0_ n1_ n2_ n3_ n4_ n5_ n0F_ n1F_
                 (try clear hb)
                 (try clear hb2)
                 (try clear hk)
                 (try clear hi)
                 (try clear ho0)
                 (try clear ho0F)
                 (try clear ho1)
                 (try clear ho1F)
                 refine hK.out _ _ ⟨zc BK404 0, zc BK404 1, zc BK404 2, zc BK405 0, zc BK405 1, zc BK405 2⟩ (fun hHeld => ?_)
                 clear hK K
                 refine norm_ (a' := ?_) ?_ ?_
                 rotate_left
                 ·
                  show Act.put _ (some 29) _ = _
                  simp only [Act.put, List.setIfInBounds_toArray, List.set_cons_zero, List.set_cons_succ, i64_w, i32_w]; rfl
                 refine one_ (i := 3) (N := some 31) #[true, true, true, true, false, false, false, false, true, false, false] rfl rfl (one_of HT_.out (by kernel_rfl)) (by decide) (fun K hK => ?_)
                 refine goes_ Try.func16 (by kernel_rfl) rfl #[.agg #[.int .i64 a1_0, .slice A1_1 l1_1.length c1_1, .slice A1_2 l1_2.length c1_2], .bool false] (by rfl) rfl rfl zq6 ?_
                 with_reducible refine (laws_toBox.calls k a1_0 _ _ l1_1 _ _ l1_2 false t415 t416 t419 _ ?side1 ?side2 ?side3 ?side4 A19.out).mono ?_
                 (case side1 => exact zcs HR1_1 HB)
                 (case side2 => exact HC1_1.out)
                 (case side3 => exact zcs HR1_2 HB)
                 (case side4 => exact HC1_2.out)
                 rintro e w61 ⟨v417, v420, rfl, ho0, ho1, hb, ho0F, ho1F⟩
                 refine ⟨_, rfl, ?_⟩
                 have n0_ := Aside0.mk (zt2 (zq3 HO411) hb ho0 ho1)
                 have n0F_ := Aside0.mk (zt2 (zq3 HO411F) hb ho0 ho1)
                 have n1_ := Aside0.mk (zt2 (zq3 HO414) hb ho0 ho1)
                 have n1F_ := Aside0.mk (zt2 (zq3 HO414F) hb ho0 ho1)
                 have n2_ := Aside0.mk (Kd.R_lower (zn (zn ho0 HO411) HO414) (below_size (zb1 HB)))
                 have n2F_ := Aside0.mk (Kd.R_lower (zn (zn ho0F HO411) HO414) (below_size (zb1 HB)))
                 have n3_ := Aside0.mk (Kd.R_lower (zn (zn ho1 HO411) HO414) (below_size (zb1 HB)))
                 have n3F_ := Aside0.mk (Kd.R_lower (zn (zn ho1F HO411) HO414) (below_size (zb1 HB)))
                 have n4_ := Aside0.mk (zbb BK404 hb)
                 have n5_ := Aside0.mk (zbb BK405 hb)
                 have n6_ := Aside0.mk (zbb BK430 hb)
                 have n7_ := Aside0.mk (below_step (zb1 HB) hb)
                 clear HO411 HO411F HO414 HO414F BK404 BK405 BK430 HB
                 have HO411 := n0_; have HO411F := n0F_; have HO414 := n1_; have HO414F := n1F_; have HO418 := n2_; have HO418F := n2F_; have HO421 := n3_; have HO421F := n3F_; have BK404 := n4_; have BK405 := n5_; have BK430 := n6_; have HB := n7_
                 clear n0_ n1_ n2_ n3_ n4_ n5_ n6_ n7_ n0F_ n1F_ n2F_ n3F_
                 (try clear hb)
                 (try clear hb2)
                 (try clear hk)
                 (try clear hi)
                 (try clear ho0)
                 (try clear ho0F)
                 (try clear ho1)
                 (try clear ho1F)
                 obtain ⟨Ao62, co62, eo62⟩ := Kd.R_slice HO411.out
                 (first | subst eo62 | (injection eo62 with f1_ f2_ f3_; have f4_ := f1_.symm; have f5_ := f3_.symm; clear f1_ f2_ f3_; subst f4_; subst f5_))
                 obtain ⟨Ao63, co63, eo63⟩ := Kd.R_slice HO414.out
                 (first | subst eo63 | (injection eo63 with f1_ f2_ f3_; have f4_ := f1_.symm; have f5_ := f3_.symm; clear f1_ f2_ f3_; subst f4_; subst f5_))
                 obtain ⟨Ao64, co64, eo64⟩ := Kd.R_slice HO418.out
                 (first | subst eo64 | (injection eo64 with f1_ f2_ f3_; have f4_ := f1_.symm; have f5_ := f3_.symm; clear f1_ f2_ f3_; subst f4_; subst f5_))
                 obtain ⟨Ao65, co65, eo65⟩ := Kd.R_slice HO421.out
                 (first | subst eo65 | (injection eo65 with f1_ f2_ f3_; have f4_ := f1_.symm; have f5_ := f3_.symm; clear f1_ f2_ f3_; subst f4_; subst f5_))
                 refine hK.out _ _ ⟨zc BK404 0, zc BK404 1, zc BK404 2, zc BK405 0, zc BK405 1, zc BK405 2⟩ (fun hHeld => ?_)
                 clear hK K
                 refine norm_ (a' := ?_) ?_ ?_
                 rotate_left
                 ·
                  show Act.put _ (some 31) _ = _
                  simp only [Act.put, List.setIfInBounds_toArray, List.set_cons_zero, List.set_cons_succ, i64_w, i32_w]; rfl
                 refine one_ (i := 4) (N := some 32) #[true, true, true, true, true, false, false, false, true, false, false] rfl rfl (one_of HT_.out (by kernel_rfl)) (by decide) (fun K hK => ?_)
                 refine goes_ Try.func41 (by kernel_rfl) rfl #[.agg #[.int .i64 t408, .slice Ao62 t409.length co62, .slice Ao63 t412.length co63], .agg #[.int .i64 t415, .slice Ao64 t416.length co64, .slice Ao65 t419.length co65]] (by rfl) rfl rfl zq6 ?_
                 with_reducible refine (spec_HullOfBoxes.calls k t408 _ _ t409 _ _ t412 t415 _ _ t416 _ _ t419 t422 t423 t426 t429 _ ?side1 ?side2 ?side3 ?side4 ?side5 ?side6 ?side7 ?side8 A20.out).mono ?_
                 (case side1 => exact zcr HO411)
                 (case side2 => exact (Kd.R_reads' HO411.out).2.1)
                 (case side3 => exact zcr HO414)
                 (case side4 => exact (Kd.R_reads' HO414.out).2.1)
                 (case side5 => exact zcr HO418)
                 (case side6 => exact (Kd.R_reads' HO418.out).2.1)
                 (case side7 => exact zcr HO421)
                 (case side8 => exact (Kd.R_reads' HO421.out).2.1)
                 rintro e w66 ⟨v424, v427, rfl, ho0, ho1, hb⟩
                 refine ⟨_, rfl, ?_⟩
                 have n0_ := Aside0.mk (zt2 (zq3 HO411) hb ho0 ho1)
                 have n0F_ := Aside0.mk (zt2 (zq3 HO411F) hb ho0 ho1)
                 have n1_ := Aside0.mk (zt2 (zq3 HO414) hb ho0 ho1)
                 have n1F_ := Aside0.mk (zt2 (zq3 HO414F) hb ho0 ho1)
                 have n2_ := Aside0.mk (zt2 (zq3 HO418) hb ho0 ho1)
                 have n2F_ := Aside0.mk (zt2 (zq3 HO418F) hb ho0 ho1)
                 have n3_ := Aside0.mk (zt2 (zq3 HO421) hb ho0 ho1)
                 have n3F_ := Aside0.mk (zt2 (zq3 HO421F) hb ho0 ho1)
                 have n4_ := Aside0.mk (Kd.R_lower (zn (zn (zn (zn ho0 HO411) HO414) HO418) HO421) (below_size (zb1 HB)))
                 have n5_ := Aside0.mk (Kd.R_lower (zn (zn (zn (zn ho1 HO411) HO414) HO418) HO421) (below_size (zb1 HB)))
                 have n6_ := Aside0.mk (zbb BK404 hb)
                 have n7_ := Aside0.mk (zbb BK405 hb)
                 have n8_ := Aside0.mk (zbb BK430 hb)
                 have n9_ := Aside0.mk (below_step (zb1 HB) hb)
                 clear HO411 HO411F HO414 HO414F HO418 HO418F HO421 HO421F BK404 BK405 BK430 HB
                 have HO411 := n0_; have HO411F := n0F_; have HO414 := n1_; have HO414F := n1F_; have HO418 := n2_; have HO418F := n2F_; have HO421 := n3_; have HO421F := n3F_; have HO425 := n4_; have HO428 := n5_; have BK404 := n6_; have BK405 := n7_; have BK430 := n8_; have HB := n9_
                 clear n0_ n1_ n2_ n3_ n4_ n5_ n6_ n7_ n8_ n9_ n0F_ n1F_ n2F_ n3F_
                 (try clear hb)
                 (try clear hb2)
                 (try clear hk)
                 (try clear hi)
                 (try clear ho0)
                 (try clear ho1)
                 refine hK.out _ _ ⟨zc BK404 0, zc BK404 1, zc BK404 2, zc BK405 0, zc BK405 1, zc BK405 2⟩ (fun hHeld => ?_)
                 clear hK K
                 refine norm_ (a' := ?_) ?_ ?_
                 rotate_left
                 ·
                  show Act.put _ (some 32) _ = _
                  simp only [Act.put, List.setIfInBounds_toArray, List.set_cons_zero, List.set_cons_succ, i64_w, i32_w]; rfl
                 refine zp (i := 5) (N := some 27) #[true, true, true, true, true, true, false, false, true, false, false] (any_of HT_.out (by kernel_rfl)) ?_
                 refine zp (i := 6) (N := some 33) #[true, true, true, true, true, true, true, false, true, false, false] (any_of HT_.out (by kernel_rfl)) ?_
                 refine zp (i := 7) (N := some 34) #[true, true, true, true, true, true, true, true, true, false, false] (any_of HT_.out (by kernel_rfl)) ?_
                 exact norm_ (by simp only [putAll, Act.put, List.setIfInBounds_toArray, List.set_cons_zero, List.set_cons_succ]) (hCont (.slice Ao62 t409.length co62, .slice Ao63 t412.length co63, .slice Ao64 t416.length co64, .slice Ao65 t419.length co65, v424, v427, gb430) _ ⟨hHeld, (zqm HO411), (zqm HO414), (zqm HO418), (zqm HO421), (zqm HO425), (zqm HO428), (zq1 BK404), (zq1 BK405), (zq1 BK430), GW430.out, GE430.out, NB404_430.out, NB430_404.out, NB405_430.out, NB430_405.out, (zb1 HB)⟩)
               rintro ⟨v410, v413, v417, v420, v424, v427, gb430⟩ w67 ⟨hS_, h0_, h1_, h2_, h3_, h4_, h5_, h6_, h7_, h8_, h9_, h10_, h11_, h12_, h13_, h14_, h15_⟩
               have HO411 : Aside0 (Kd.R (Kd.int .i64) 3 w67 w.heap.size (fun k_ => some k_ ≠ (v413 : Value).ownBlock ∧ some k_ ≠ (v417 : Value).ownBlock ∧ some k_ ≠ (v420 : Value).ownBlock ∧ some k_ ≠ (v424 : Value).ownBlock ∧ some k_ ≠ (v427 : Value).ownBlock) v410 t409) := ⟨h0_⟩
               have HO414 : Aside0 (Kd.R (Kd.int .i64) 3 w67 w.heap.size (fun k_ => some k_ ≠ (v410 : Value).ownBlock ∧ some k_ ≠ (v417 : Value).ownBlock ∧ some k_ ≠ (v420 : Value).ownBlock ∧ some k_ ≠ (v424 : Value).ownBlock ∧ some k_ ≠ (v427 : Value).ownBlock) v413 t412) := ⟨h1_⟩
               have HO418 : Aside0 (Kd.R (Kd.int .i64) 3 w67 w.heap.size (fun k_ => some k_ ≠ (v410 : Value).ownBlock ∧ some k_ ≠ (v413 : Value).ownBlock ∧ some k_ ≠ (v420 : Value).ownBlock ∧ some k_ ≠ (v424 : Value).ownBlock ∧ some k_ ≠ (v427 : Value).ownBlock) v417 t416) := ⟨h2_⟩
               have HO421 : Aside0 (Kd.R (Kd.int .i64) 3 w67 w.heap.size (fun k_ => some k_ ≠ (v410 : Value).ownBlock ∧ some k_ ≠ (v413 : Value).ownBlock ∧ some k_ ≠ (v417 : Value).ownBlock ∧ some k_ ≠ (v424 : Value).ownBlock ∧ some k_ ≠ (v427 : Value).ownBlock) v420 t419) := ⟨h3_⟩
               have HO425 : Aside0 (Kd.R (Kd.int .i64) 3 w67 w.heap.size (fun k_ => some k_ ≠ (v410 : Value).ownBlock ∧ some k_ ≠ (v413 : Value).ownBlock ∧ some k_ ≠ (v417 : Value).ownBlock ∧ some k_ ≠ (v420 : Value).ownBlock ∧ some k_ ≠ (v427 : Value).ownBlock) v424 t423) := ⟨h4_⟩
               have HO428 : Aside0 (Kd.R (Kd.int .i64) 3 w67 w.heap.size (fun k_ => some k_ ≠ (v410 : Value).ownBlock ∧ some k_ ≠ (v413 : Value).ownBlock ∧ some k_ ≠ (v417 : Value).ownBlock ∧ some k_ ≠ (v420 : Value).ownBlock ∧ some k_ ≠ (v424 : Value).ownBlock) v427 t426) := ⟨h5_⟩
               have BK430 : Aside0 (w67.heap[gb430]? = some (.cells #[.int .i64 0, .slice none 0 0, .slice none 0 0] 27 (0, 0))) := ⟨h8_⟩
               have GW430 : Aside0 (w.heap.size ≤ gb430) := ⟨h9_⟩
               have GE430 : Aside0 (w.heap.size ≤ gb430) := ⟨h10_⟩
               have NB404_430 : Aside0 (gb404 ≠ gb430) := ⟨h11_⟩
               have NB430_404 : Aside0 (gb430 ≠ gb404) := ⟨h12_⟩
               have NB405_430 : Aside0 (gb405 ≠ gb430) := ⟨h13_⟩
               have NB430_405 : Aside0 (gb430 ≠ gb405) := ⟨h14_⟩
               replace BK404 : Aside0 (w67.heap[gb404]? = some (.cells #[.int .i64 a0_0, .slice A0_1 l0_1.length c0_1, .slice A0_2 l0_2.length c0_2] 24 (0, 0))) := ⟨h6_⟩; replace BK405 : Aside0 (w67.heap[gb405]? = some (.cells #[.int .i64 a1_0, .slice A1_1 l1_1.length c1_1, .slice A1_2 l1_2.length c1_2] 24 (0, 0))) := ⟨h7_⟩; replace HB : Aside0 (Below w.heap.size w w67) := ⟨h15_⟩
               clear h0_ h10_ h11_ h12_ h13_ h14_ h15_ h1_ h2_ h3_ h4_ h5_ h6_ h7_ h8_ h9_
               have hHeld : w67.cell? ⟨gb404, 0, none⟩ = some (.int .i64 a0_0) ∧ w67.cell? ⟨gb404, 1, none⟩ = some (.slice A0_1 l0_1.length c0_1) ∧ w67.cell? ⟨gb404, 2, none⟩ = some (.slice A0_2 l0_2.length c0_2) ∧ w67.cell? ⟨gb405, 0, none⟩ = some (.int .i64 a1_0) ∧ w67.cell? ⟨gb405, 1, none⟩ = some (.slice A1_1 l1_1.length c1_1) ∧ w67.cell? ⟨gb405, 2, none⟩ = some (.slice A1_2 l1_2.length c1_2) := hS_
               obtain ⟨Ao69, co69, eo69⟩ := Kd.R_slice HO425.out
               (first | subst eo69 | (injection eo69 with f1_ f2_ f3_; have f4_ := f1_.symm; have f5_ := f3_.symm; clear f1_ f2_ f3_; subst f4_; subst f5_))
               obtain ⟨Ao71, co71, eo71⟩ := Kd.R_slice HO428.out
               (first | subst eo71 | (injection eo71 with f1_ f2_ f3_; have f4_ := f1_.symm; have f5_ := f3_.symm; clear f1_ f2_ f3_; subst f4_; subst f5_))
               refine norm_ (a' := ?_) ?_ ?_
               rotate_left
               ·
                simp only [putAll, Act.put, List.setIfInBounds_toArray, List.set_cons_zero, List.set_cons_succ]
                rfl
               refine one_ (i := 9) (N := none) #[true, true, true, true, true, true, true, true, true, true, false] rfl rfl (one_of HT_.out (by kernel_rfl)) (by decide) (fun K hK => ?_)
               have hs68 : w67.cell? ⟨gb430, 0, none⟩ = some (.int .i64 0) := zc BK430 0
               have hfs68 := blk_frozen BK430.out 0
               have hns68_0 := NB404_430.out
               have hns68_1 := NB405_430.out
               have hms68_0 := NB430_404.out
               have hms68_1 := NB430_405.out
               have hs70 : w67.cell? ⟨gb430, 1, none⟩ = some (.slice none 0 0) := zc BK430 1
               have hfs70 := blk_frozen BK430.out 1
               have hns70_0 := NB404_430.out
               have hns70_1 := NB405_430.out
               have hms70_0 := NB430_404.out
               have hms70_1 := NB430_405.out
               have hs72 : w67.cell? ⟨gb430, 2, none⟩ = some (.slice none 0 0) := zc BK430 2
               have hfs72 := blk_frozen BK430.out 2
               have hns72_0 := NB404_430.out
               have hns72_1 := NB405_430.out
               have hms72_0 := NB430_404.out
               have hms72_1 := NB430_405.out
               refine skip_ (w1 := ?_) (by rfl) rfl ?_ ?_
               rotate_left
               ·
                go_simp
                rfl
               refine hK.out _ _ ⟨((cell_far (p := ⟨gb430, _, none⟩) NB404_430.out _).trans (((cell_far (p := ⟨gb430, _, none⟩) NB404_430.out _).trans (((cell_far (p := ⟨gb430, _, none⟩) NB404_430.out _).trans (hHeld.1)))))), ((cell_far (p := ⟨gb430, _, none⟩) NB404_430.out _).trans (((cell_far (p := ⟨gb430, _, none⟩) NB404_430.out _).trans (((cell_far (p := ⟨gb430, _, none⟩) NB404_430.out _).trans (hHeld.2.1)))))), ((cell_far (p := ⟨gb430, _, none⟩) NB404_430.out _).trans (((cell_far (p := ⟨gb430, _, none⟩) NB404_430.out _).trans (((cell_far (p := ⟨gb430, _, none⟩) NB404_430.out _).trans (hHeld.2.2.1)))))), ((cell_far (p := ⟨gb430, _, none⟩) NB405_430.out _).trans (((cell_far (p := ⟨gb430, _, none⟩) NB405_430.out _).trans (((cell_far (p := ⟨gb430, _, none⟩) NB405_430.out _).trans (hHeld.2.2.2.1)))))), ((cell_far (p := ⟨gb430, _, none⟩) NB405_430.out _).trans (((cell_far (p := ⟨gb430, _, none⟩) NB405_430.out _).trans (((cell_far (p := ⟨gb430, _, none⟩) NB405_430.out _).trans (hHeld.2.2.2.2.1)))))), ((cell_far (p := ⟨gb430, _, none⟩) NB405_430.out _).trans (((cell_far (p := ⟨gb430, _, none⟩) NB405_430.out _).trans (((cell_far (p := ⟨gb430, _, none⟩) NB405_430.out _).trans (hHeld.2.2.2.2.2))))))⟩ (fun hHeld => ?_)
               clear hK K
               refine zp (i := 10) (N := some 7) #[true, true, true, true, true, true, true, true, true, true, true] (any_of HT_.out (by kernel_rfl)) ?_
               refine done_ (done_of HT_.out (by kernel_rfl)) ?_
               have hnb73 := NB404_430.out
               have hnc73 := NB430_404.out
               have hcz74_0 : w67.cell? ⟨gb404, 0, none⟩ = some (.int .i64 a0_0) := zc BK404 0
               have hcz74_1 : w67.cell? ⟨gb404, 1, none⟩ = some (.slice A0_1 l0_1.length c0_1) := zc BK404 1
               have hcz74_2 : w67.cell? ⟨gb404, 2, none⟩ = some (.slice A0_2 l0_2.length c0_2) := zc BK404 2
               have hfz74_0 := blk_frozen BK404.out 0
               have hfz74_1 := blk_frozen BK404.out 1
               have hfz74_2 := blk_frozen BK404.out 2
               try go_wp2_with (first | ((with_reducible refine gate_callee (f := 16) rfl ?_); refine goesL_ (some 36) rfl rfl Try.func16 (by kernel_rfl) rfl #[.agg #[.int .i64 a0_0, .slice A0_1 l0_1.length c0_1, .slice A0_2 l0_2.length c0_2], .bool false] rfl zq6 ?_; (with_reducible refine (laws_toBox.calls k a0_0 _ _ l0_1 _ _ l0_2 false t431 t432 t435 _ ?side1 ?side2 ?side3 ?side4 A21.out).mono ?_); (case side1 => exact Kd.C_below HR0_1.out (zb1 HB)); (case side2 => exact HC0_1.out); (case side3 => exact Kd.C_below HR0_2.out (zb1 HB)); (case side4 => exact HC0_2.out); rintro e w75 ⟨v433, v436, rfl, ho0, ho1, hb, ho0F, ho1F⟩; refine ⟨_, rfl, ?_⟩; have n0_ := Aside0.mk (zt2 (z3f HO411 BK430 (.int .i64 t422) (.slice Ao69 t423.length co69) (.slice Ao71 t426.length co71)) hb ho0 ho1); have n1_ := Aside0.mk (zt2 (z3f HO414 BK430 (.int .i64 t422) (.slice Ao69 t423.length co69) (.slice Ao71 t426.length co71)) hb ho0 ho1); have n2_ := Aside0.mk (zt2 (z3f HO418 BK430 (.int .i64 t422) (.slice Ao69 t423.length co69) (.slice Ao71 t426.length co71)) hb ho0 ho1); have n3_ := Aside0.mk (zt2 (z3f HO421 BK430 (.int .i64 t422) (.slice Ao69 t423.length co69) (.slice Ao71 t426.length co71)) hb ho0 ho1); have n4_ := Aside0.mk (zt2 (z3f HO425 BK430 (.int .i64 t422) (.slice Ao69 t423.length co69) (.slice Ao71 t426.length co71)) hb ho0 ho1); have n5_ := Aside0.mk (zt2 (z3f HO428 BK430 (.int .i64 t422) (.slice Ao69 t423.length co69) (.slice Ao71 t426.length co71)) hb ho0 ho1); have n6_ := Aside0.mk (Kd.R_lower (Kd.R_new' (Kd.R_new' (Kd.R_new' (Kd.R_new' (Kd.R_new' (Kd.R_new' ho0 (Kd.R_lt (z3f HO411 BK430 (.int .i64 t422) (.slice Ao69 t423.length co69) (.slice Ao71 t426.length co71)))) (Kd.R_lt (z3f HO414 BK430 (.int .i64 t422) (.slice Ao69 t423.length co69) (.slice Ao71 t426.length co71)))) (Kd.R_lt (z3f HO418 BK430 (.int .i64 t422) (.slice Ao69 t423.length co69) (.slice Ao71 t426.length co71)))) (Kd.R_lt (z3f HO421 BK430 (.int .i64 t422) (.slice Ao69 t423.length co69) (.slice Ao71 t426.length co71)))) (Kd.R_lt (z3f HO425 BK430 (.int .i64 t422) (.slice Ao69 t423.length co69) (.slice Ao71 t426.length co71)))) (Kd.R_lt (z3f HO428 BK430 (.int .i64 t422) (.slice Ao69 t423.length co69) (.slice Ao71 t426.length co71)))) (below_size (zb1 HB))); have n6F_ := Aside0.mk (Kd.R_lower (Kd.R_new' (Kd.R_new' (Kd.R_new' (Kd.R_new' (Kd.R_new' (Kd.R_new' ho0F (Kd.R_lt (z3f HO411 BK430 (.int .i64 t422) (.slice Ao69 t423.length co69) (.slice Ao71 t426.length co71)))) (Kd.R_lt (z3f HO414 BK430 (.int .i64 t422) (.slice Ao69 t423.length co69) (.slice Ao71 t426.length co71)))) (Kd.R_lt (z3f HO418 BK430 (.int .i64 t422) (.slice Ao69 t423.length co69) (.slice Ao71 t426.length co71)))) (Kd.R_lt (z3f HO421 BK430 (.int .i64 t422) (.slice Ao69 t423.length co69) (.slice Ao71 t426.length co71)))) (Kd.R_lt (z3f HO425 BK430 (.int .i64 t422) (.slice Ao69 t423.length co69) (.slice Ao71 t426.length co71)))) (Kd.R_lt (z3f HO428 BK430 (.int .i64 t422) (.slice Ao69 t423.length co69) (.slice Ao71 t426.length co71)))) (below_size (zb1 HB))); have n7_ := Aside0.mk (Kd.R_lower (Kd.R_new' (Kd.R_new' (Kd.R_new' (Kd.R_new' (Kd.R_new' (Kd.R_new' ho1 (Kd.R_lt (z3f HO411 BK430 (.int .i64 t422) (.slice Ao69 t423.length co69) (.slice Ao71 t426.length co71)))) (Kd.R_lt (z3f HO414 BK430 (.int .i64 t422) (.slice Ao69 t423.length co69) (.slice Ao71 t426.length co71)))) (Kd.R_lt (z3f HO418 BK430 (.int .i64 t422) (.slice Ao69 t423.length co69) (.slice Ao71 t426.length co71)))) (Kd.R_lt (z3f HO421 BK430 (.int .i64 t422) (.slice Ao69 t423.length co69) (.slice Ao71 t426.length co71)))) (Kd.R_lt (z3f HO425 BK430 (.int .i64 t422) (.slice Ao69 t423.length co69) (.slice Ao71 t426.length co71)))) (Kd.R_lt (z3f HO428 BK430 (.int .i64 t422) (.slice Ao69 t423.length co69) (.slice Ao71 t426.length co71)))) (below_size (zb1 HB))); have n7F_ := Aside0.mk (Kd.R_lower (Kd.R_new' (Kd.R_new' (Kd.R_new' (Kd.R_new' (Kd.R_new' (Kd.R_new' ho1F (Kd.R_lt (z3f HO411 BK430 (.int .i64 t422) (.slice Ao69 t423.length co69) (.slice Ao71 t426.length co71)))) (Kd.R_lt (z3f HO414 BK430 (.int .i64 t422) (.slice Ao69 t423.length co69) (.slice Ao71 t426.length co71)))) (Kd.R_lt (z3f HO418 BK430 (.int .i64 t422) (.slice Ao69 t423.length co69) (.slice Ao71 t426.length co71)))) (Kd.R_lt (z3f HO421 BK430 (.int .i64 t422) (.slice Ao69 t423.length co69) (.slice Ao71 t426.length co71)))) (Kd.R_lt (z3f HO425 BK430 (.int .i64 t422) (.slice Ao69 t423.length co69) (.slice Ao71 t426.length co71)))) (Kd.R_lt (z3f HO428 BK430 (.int .i64 t422) (.slice Ao69 t423.length co69) (.slice Ao71 t426.length co71)))) (below_size (zb1 HB))); have n8_ := Aside0.mk (blk_below (g := gb404) (o := .cells #[.int .i64 a0_0, .slice A0_1 l0_1.length c0_1, .slice A0_2 l0_2.length c0_2] 24 (0, 0)) (zq5 BK404) hb); have n9_ := Aside0.mk (blk_below (g := gb405) (o := .cells #[.int .i64 a1_0, .slice A1_1 l1_1.length c1_1, .slice A1_2 l1_2.length c1_2] 24 (0, 0)) (zq5 BK405) hb); have n10_ := Aside0.mk (blk_below (g := gb430) (o := .cells #[.int .i64 t422, .slice Ao69 t423.length co69, .slice Ao71 t426.length co71] 27 (0, 0)) (by (with_reducible repeat (first | refine blk_drewN ?_ _ | refine blk_drew ?_ | refine blk_alloc ?_ _)); refine blk_put (cs := #[.int .i64 t422, .slice Ao69 t423.length co69, .slice none 0 0]) ?_ 2 _ rfl; (with_reducible repeat (first | refine blk_drewN ?_ _ | refine blk_drew ?_ | refine blk_alloc ?_ _)); refine blk_put (cs := #[.int .i64 t422, .slice none 0 0, .slice none 0 0]) ?_ 1 _ rfl; (with_reducible repeat (first | refine blk_drewN ?_ _ | refine blk_drew ?_ | refine blk_alloc ?_ _)); refine blk_put (cs := #[.int .i64 0, .slice none 0 0, .slice none 0 0]) ?_ 0 _ rfl; (with_reducible repeat (first | refine blk_drewN ?_ _ | refine blk_drew ?_ | refine blk_alloc ?_ _)); exact BK430.out) hb); have n11_ := Aside0.mk (below_step (zb1 HB) hb); clear HO411; clear HO414; clear HO418; clear HO421; clear HO425; clear HO428; clear BK404; clear BK405; clear BK430; clear HB; have HO411 := n0_; have HO414 := n1_; have HO418 := n2_; have HO421 := n3_; have HO425 := n4_; have HO428 := n5_; have HO434 := n6_; have HO434F := n6F_; have HO437 := n7_; have HO437F := n7F_; have BK404 := n8_; have BK405 := n9_; have BK430 := n10_; have HB := n11_; clear n0_ n1_ n2_ n3_ n4_ n5_ n6_ n7_ n8_ n9_ n10_ n11_ n6F_ n7F_; (try clear hb); (try clear hb2); (try clear hk); (try clear hi); (try clear ho0); (try clear ho0F); (try clear ho1); (try clear ho1F)) | ((with_reducible refine gate_dst (N := 8) rfl ?_); refine zbe (N := 8) (cs := #[.int .i64 0, .slice none 0 0, .slice none 0 0]) (t := 27) ?_; intro gb438 hg w76 hbox hb; have n0_ := Aside0.mk (Kd.R_below (zq3 HO425) hb); have n1_ := Aside0.mk (Kd.R_below (zq3 HO428) hb); have n2_ := Aside0.mk (Kd.R_below (zq3 HO434) hb); have n2F_ := Aside0.mk (Kd.R_below (zq3 HO434F) hb); have n3_ := Aside0.mk (Kd.R_below (zq3 HO437) hb); have n3F_ := Aside0.mk (Kd.R_below (zq3 HO437F) hb); have n4_ := Aside0.mk (zbb BK404 hb); have n5_ := Aside0.mk (zbb BK405 hb); have n6_ := Aside0.mk (zbb BK430 hb); have n7_ := Aside0.mk (below_step (zb1 HB) hb); have n8_ := Aside0.mk (hbox); have n9_ := Aside0.mk (zge (zb1 HB) hg); have n10_ := Aside0.mk (zge (zb1 HB) hg); have n11_ := Aside0.mk (zlt BK404 hg); have n12_ := Aside0.mk (zgt BK404 hg); have n13_ := Aside0.mk (zlt BK405 hg); have n14_ := Aside0.mk (zgt BK405 hg); have n15_ := Aside0.mk (zlt BK430 hg); have n16_ := Aside0.mk (zgt BK430 hg); clear HO425; clear HO428; clear HO434 HO434F; clear HO437 HO437F; clear BK404; clear BK405; clear BK430; clear HB; have HO425 := n0_; have HO428 := n1_; have HO434 := n2_; have HO434F := n2F_; have HO437 := n3_; have HO437F := n3F_; have BK404 := n4_; have BK405 := n5_; have BK430 := n6_; have HB := n7_; have BK438 := n8_; have GW438 := n9_; have GE438 := n10_; have NB404_438 := n11_; have NB438_404 := n12_; have NB405_438 := n13_; have NB438_405 := n14_; have NB430_438 := n15_; have NB438_430 := n16_; clear n0_ n1_ n2_ n3_ n4_ n5_ n6_ n7_ n8_ n9_ n10_ n11_ n12_ n13_ n14_ n15_ n16_ n2F_ n3F_; clear hb hbox hg; have hnb77 := NB438_404.out; have hnc77 := NB404_438.out; have hnb78 := NB438_405.out; have hnc78 := NB405_438.out; have hnb79 := NB438_430.out; have hnc79 := NB430_438.out; have hcz80_0 : w76.cell? ⟨gb438, 0, none⟩ = some (.int .i64 0) := zc BK438 0; have hcz80_1 : w76.cell? ⟨gb438, 1, none⟩ = some (.slice none 0 0) := zc BK438 1; have hcz80_2 : w76.cell? ⟨gb438, 2, none⟩ = some (.slice none 0 0) := zc BK438 2; have hfz80_0 := blk_frozen BK438.out 0; have hfz80_1 := blk_frozen BK438.out 1; have hfz80_2 := blk_frozen BK438.out 2; obtain ⟨Ao81, co81, eo81⟩ := Kd.R_slice HO434.out; subst eo81; obtain ⟨Ao82, co82, eo82⟩ := Kd.R_slice HO437.out; subst eo82; have hnb83 := NB405_430.out; have hnc83 := NB430_405.out; have hcz84_0 : w76.cell? ⟨gb405, 0, none⟩ = some (.int .i64 a1_0) := zc BK405 0; have hcz84_1 : w76.cell? ⟨gb405, 1, none⟩ = some (.slice A1_1 l1_1.length c1_1) := zc BK405 1; have hcz84_2 : w76.cell? ⟨gb405, 2, none⟩ = some (.slice A1_2 l1_2.length c1_2) := zc BK405 2; have hfz84_0 := blk_frozen BK405.out 0; have hfz84_1 := blk_frozen BK405.out 1; have hfz84_2 := blk_frozen BK405.out 2) | ((with_reducible refine gate_callee (f := 16) rfl ?_); refine goesL_ (some 38) rfl rfl Try.func16 (by kernel_rfl) rfl #[.agg #[.int .i64 a1_0, .slice A1_1 l1_1.length c1_1, .slice A1_2 l1_2.length c1_2], .bool false] rfl zq6 ?_; (with_reducible refine (laws_toBox.calls k a1_0 _ _ l1_1 _ _ l1_2 false t439 t440 t443 _ ?side1 ?side2 ?side3 ?side4 A22.out).mono ?_); (case side1 => exact Kd.C_below HR1_1.out (zb1 HB)); (case side2 => exact HC1_1.out); (case side3 => exact Kd.C_below HR1_2.out (zb1 HB)); (case side4 => exact HC1_2.out); rintro e w85 ⟨v441, v444, rfl, ho0, ho1, hb, ho0F, ho1F⟩; refine ⟨_, rfl, ?_⟩; have n0_ := Aside0.mk (zt2 (z3f HO425 BK438 (.int .i64 t431) (.slice Ao81 t432.length co81) (.slice Ao82 t435.length co82)) hb ho0 ho1); have n1_ := Aside0.mk (zt2 (z3f HO428 BK438 (.int .i64 t431) (.slice Ao81 t432.length co81) (.slice Ao82 t435.length co82)) hb ho0 ho1); have n2_ := Aside0.mk (zt2 (z3f HO434 BK438 (.int .i64 t431) (.slice Ao81 t432.length co81) (.slice Ao82 t435.length co82)) hb ho0 ho1); have n2F_ := Aside0.mk (zt2 (z3f HO434F BK438 (.int .i64 t431) (.slice Ao81 t432.length co81) (.slice Ao82 t435.length co82)) hb ho0 ho1); have n3_ := Aside0.mk (zt2 (z3f HO437 BK438 (.int .i64 t431) (.slice Ao81 t432.length co81) (.slice Ao82 t435.length co82)) hb ho0 ho1); have n3F_ := Aside0.mk (zt2 (z3f HO437F BK438 (.int .i64 t431) (.slice Ao81 t432.length co81) (.slice Ao82 t435.length co82)) hb ho0 ho1); have n4_ := Aside0.mk (Kd.R_lower (Kd.R_new' (Kd.R_new' (Kd.R_new' (Kd.R_new' ho0 (Kd.R_lt (z3f HO425 BK438 (.int .i64 t431) (.slice Ao81 t432.length co81) (.slice Ao82 t435.length co82)))) (Kd.R_lt (z3f HO428 BK438 (.int .i64 t431) (.slice Ao81 t432.length co81) (.slice Ao82 t435.length co82)))) (Kd.R_lt (z3f HO434 BK438 (.int .i64 t431) (.slice Ao81 t432.length co81) (.slice Ao82 t435.length co82)))) (Kd.R_lt (z3f HO437 BK438 (.int .i64 t431) (.slice Ao81 t432.length co81) (.slice Ao82 t435.length co82)))) (below_size (zb1 HB))); have n4F_ := Aside0.mk (Kd.R_lower (Kd.R_new' (Kd.R_new' (Kd.R_new' (Kd.R_new' ho0F (Kd.R_lt (z3f HO425 BK438 (.int .i64 t431) (.slice Ao81 t432.length co81) (.slice Ao82 t435.length co82)))) (Kd.R_lt (z3f HO428 BK438 (.int .i64 t431) (.slice Ao81 t432.length co81) (.slice Ao82 t435.length co82)))) (Kd.R_lt (z3f HO434 BK438 (.int .i64 t431) (.slice Ao81 t432.length co81) (.slice Ao82 t435.length co82)))) (Kd.R_lt (z3f HO437 BK438 (.int .i64 t431) (.slice Ao81 t432.length co81) (.slice Ao82 t435.length co82)))) (below_size (zb1 HB))); have n5_ := Aside0.mk (Kd.R_lower (Kd.R_new' (Kd.R_new' (Kd.R_new' (Kd.R_new' ho1 (Kd.R_lt (z3f HO425 BK438 (.int .i64 t431) (.slice Ao81 t432.length co81) (.slice Ao82 t435.length co82)))) (Kd.R_lt (z3f HO428 BK438 (.int .i64 t431) (.slice Ao81 t432.length co81) (.slice Ao82 t435.length co82)))) (Kd.R_lt (z3f HO434 BK438 (.int .i64 t431) (.slice Ao81 t432.length co81) (.slice Ao82 t435.length co82)))) (Kd.R_lt (z3f HO437 BK438 (.int .i64 t431) (.slice Ao81 t432.length co81) (.slice Ao82 t435.length co82)))) (below_size (zb1 HB))); have n5F_ := Aside0.mk (Kd.R_lower (Kd.R_new' (Kd.R_new' (Kd.R_new' (Kd.R_new' ho1F (Kd.R_lt (z3f HO425 BK438 (.int .i64 t431) (.slice Ao81 t432.length co81) (.slice Ao82 t435.length co82)))) (Kd.R_lt (z3f HO428 BK438 (.int .i64 t431) (.slice Ao81 t432.length co81) (.slice Ao82 t435.length co82)))) (Kd.R_lt (z3f HO434 BK438 (.int .i64 t431) (.slice Ao81 t432.length co81) (.slice Ao82 t435.length co82)))) (Kd.R_lt (z3f HO437 BK438 (.int .i64 t431) (.slice Ao81 t432.length co81) (.slice Ao82 t435.length co82)))) (below_size (zb1 HB))); have n6_ := Aside0.mk (blk_below (g := gb404) (o := .cells #[.int .i64 a0_0, .slice A0_1 l0_1.length c0_1, .slice A0_2 l0_2.length c0_2] 24 (0, 0)) (zq5 BK404) hb); have n7_ := Aside0.mk (blk_below (g := gb405) (o := .cells #[.int .i64 a1_0, .slice A1_1 l1_1.length c1_1, .slice A1_2 l1_2.length c1_2] 24 (0, 0)) (zq5 BK405) hb); have n8_ := Aside0.mk (blk_below (g := gb430) (o := .cells #[.int .i64 t422, .slice Ao69 t423.length co69, .slice Ao71 t426.length co71] 27 (0, 0)) (zq5 BK430) hb); have n9_ := Aside0.mk (blk_below (g := gb438) (o := .cells #[.int .i64 t431, .slice Ao81 t432.length co81, .slice Ao82 t435.length co82] 27 (0, 0)) (by (with_reducible repeat (first | refine blk_drewN ?_ _ | refine blk_drew ?_ | refine blk_alloc ?_ _)); refine blk_put (cs := #[.int .i64 t431, .slice Ao81 t432.length co81, .slice none 0 0]) ?_ 2 _ rfl; (with_reducible repeat (first | refine blk_drewN ?_ _ | refine blk_drew ?_ | refine blk_alloc ?_ _)); refine blk_put (cs := #[.int .i64 t431, .slice none 0 0, .slice none 0 0]) ?_ 1 _ rfl; (with_reducible repeat (first | refine blk_drewN ?_ _ | refine blk_drew ?_ | refine blk_alloc ?_ _)); refine blk_put (cs := #[.int .i64 0, .slice none 0 0, .slice none 0 0]) ?_ 0 _ rfl; (with_reducible repeat (first | refine blk_drewN ?_ _ | refine blk_drew ?_ | refine blk_alloc ?_ _)); exact BK438.out) hb); have n10_ := Aside0.mk (below_step (zb1 HB) hb); clear HO425; clear HO428; clear HO434 HO434F; clear HO437 HO437F; clear BK404; clear BK405; clear BK430; clear BK438; clear HB; have HO425 := n0_; have HO428 := n1_; have HO434 := n2_; have HO434F := n2F_; have HO437 := n3_; have HO437F := n3F_; have HO442 := n4_; have HO442F := n4F_; have HO445 := n5_; have HO445F := n5F_; have BK404 := n6_; have BK405 := n7_; have BK430 := n8_; have BK438 := n9_; have HB := n10_; clear n0_ n1_ n2_ n3_ n4_ n5_ n6_ n7_ n8_ n9_ n10_ n2F_ n3F_ n4F_ n5F_; (try clear hb); (try clear hb2); (try clear hk); (try clear hi); (try clear ho0); (try clear ho0F); (try clear ho1); (try clear ho1F)) | ((with_reducible refine gate_dst (N := 9) rfl ?_); refine zbe (N := 9) (cs := #[.int .i64 0, .slice none 0 0, .slice none 0 0]) (t := 27) ?_; intro gb446 hg w86 hbox hb; have n0_ := Aside0.mk (Kd.R_below (zq3 HO425) hb); have n1_ := Aside0.mk (Kd.R_below (zq3 HO428) hb); have n2_ := Aside0.mk (Kd.R_below (zq3 HO434) hb); have n2F_ := Aside0.mk (Kd.R_below (zq3 HO434F) hb); have n3_ := Aside0.mk (Kd.R_below (zq3 HO437) hb); have n3F_ := Aside0.mk (Kd.R_below (zq3 HO437F) hb); have n4_ := Aside0.mk (Kd.R_below (zq3 HO442) hb); have n4F_ := Aside0.mk (Kd.R_below (zq3 HO442F) hb); have n5_ := Aside0.mk (Kd.R_below (zq3 HO445) hb); have n5F_ := Aside0.mk (Kd.R_below (zq3 HO445F) hb); have n6_ := Aside0.mk (zbb BK404 hb); have n7_ := Aside0.mk (zbb BK405 hb); have n8_ := Aside0.mk (zbb BK430 hb); have n9_ := Aside0.mk (zbb BK438 hb); have n10_ := Aside0.mk (below_step (zb1 HB) hb); have n11_ := Aside0.mk (hbox); have n12_ := Aside0.mk (zge (zb1 HB) hg); have n13_ := Aside0.mk (zge (zb1 HB) hg); have n14_ := Aside0.mk (zlt BK404 hg); have n15_ := Aside0.mk (zgt BK404 hg); have n16_ := Aside0.mk (zlt BK405 hg); have n17_ := Aside0.mk (zgt BK405 hg); have n18_ := Aside0.mk (zlt BK430 hg); have n19_ := Aside0.mk (zgt BK430 hg); have n20_ := Aside0.mk (zlt BK438 hg); have n21_ := Aside0.mk (zgt BK438 hg); clear HO425; clear HO428; clear HO434 HO434F; clear HO437 HO437F; clear HO442 HO442F; clear HO445 HO445F; clear BK404; clear BK405; clear BK430; clear BK438; clear HB; have HO425 := n0_; have HO428 := n1_; have HO434 := n2_; have HO434F := n2F_; have HO437 := n3_; have HO437F := n3F_; have HO442 := n4_; have HO442F := n4F_; have HO445 := n5_; have HO445F := n5F_; have BK404 := n6_; have BK405 := n7_; have BK430 := n8_; have BK438 := n9_; have HB := n10_; have BK446 := n11_; have GW446 := n12_; have GE446 := n13_; have NB404_446 := n14_; have NB446_404 := n15_; have NB405_446 := n16_; have NB446_405 := n17_; have NB430_446 := n18_; have NB446_430 := n19_; have NB438_446 := n20_; have NB446_438 := n21_; clear n0_ n1_ n2_ n3_ n4_ n5_ n6_ n7_ n8_ n9_ n10_ n11_ n12_ n13_ n14_ n15_ n16_ n17_ n18_ n19_ n20_ n21_ n2F_ n3F_ n4F_ n5F_; clear hb hbox hg; have hnb87 := NB446_404.out; have hnc87 := NB404_446.out; have hnb88 := NB446_405.out; have hnc88 := NB405_446.out; have hnb89 := NB446_430.out; have hnc89 := NB430_446.out; have hnb90 := NB446_438.out; have hnc90 := NB438_446.out; have hcz91_0 : w86.cell? ⟨gb446, 0, none⟩ = some (.int .i64 0) := zc BK446 0; have hcz91_1 : w86.cell? ⟨gb446, 1, none⟩ = some (.slice none 0 0) := zc BK446 1; have hcz91_2 : w86.cell? ⟨gb446, 2, none⟩ = some (.slice none 0 0) := zc BK446 2; have hfz91_0 := blk_frozen BK446.out 0; have hfz91_1 := blk_frozen BK446.out 1; have hfz91_2 := blk_frozen BK446.out 2; obtain ⟨Ao92, co92, eo92⟩ := Kd.R_slice HO442.out; subst eo92; obtain ⟨Ao93, co93, eo93⟩ := Kd.R_slice HO445.out; subst eo93; have hcz94_0 : w86.cell? ⟨gb438, 0, none⟩ = some (.int .i64 t431) := zc BK438 0; have hcz94_1 : w86.cell? ⟨gb438, 1, none⟩ = some (.slice Ao81 t432.length co81) := zc BK438 1; have hcz94_2 : w86.cell? ⟨gb438, 2, none⟩ = some (.slice Ao82 t435.length co82) := zc BK438 2; have hfz94_0 := blk_frozen BK438.out 0; have hfz94_1 := blk_frozen BK438.out 1; have hfz94_2 := blk_frozen BK438.out 2) | ((with_reducible refine gate_callee (f := 42) rfl ?_); refine goesL_ (some 42) rfl rfl Try.func42 (by kernel_rfl) rfl #[.agg #[.int .i64 t431, .slice Ao81 t432.length co81, .slice Ao82 t435.length co82], .agg #[.int .i64 t439, .slice Ao92 t440.length co92, .slice Ao93 t443.length co93]] rfl zq6 ?_; (with_reducible refine (impl_HullOfBoxes.calls k t431 _ _ t432 _ _ t435 t439 _ _ t440 _ _ t443 t447 t448 t451 t454 _ ?side1 ?side2 ?side3 ?side4 ?side5 ?side6 ?side7 ?side8 A23.out).mono ?_); (case side1 => refine (Kd.R_reads' (e := 3) (base := w.heap.size) (ok := fun k_ => ((((((((some k_ ≠ (.slice Ao82 t435.length co82 : Value).ownBlock ∧ some k_ ≠ (v410 : Value).ownBlock) ∧ some k_ ≠ (v413 : Value).ownBlock) ∧ some k_ ≠ (v417 : Value).ownBlock) ∧ some k_ ≠ (v420 : Value).ownBlock) ∧ some k_ ≠ (.slice Ao69 t423.length co69 : Value).ownBlock) ∧ some k_ ≠ (.slice Ao71 t426.length co71 : Value).ownBlock) ∧ some k_ ≠ (.slice Ao92 t440.length co92 : Value).ownBlock) ∧ some k_ ≠ (.slice Ao93 t443.length co93 : Value).ownBlock)) (n := t432.length) (c := co81) ?_).2.2; exact (z3f HO434 BK446 (.int .i64 t439) (.slice Ao92 t440.length co92) (.slice Ao93 t443.length co93))); (case side2 => exact (Kd.R_reads' HO434.out).2.1); (case side3 => refine (Kd.R_reads' (e := 3) (base := w.heap.size) (ok := fun k_ => ((((((((some k_ ≠ (.slice Ao81 t432.length co81 : Value).ownBlock ∧ some k_ ≠ (v410 : Value).ownBlock) ∧ some k_ ≠ (v413 : Value).ownBlock) ∧ some k_ ≠ (v417 : Value).ownBlock) ∧ some k_ ≠ (v420 : Value).ownBlock) ∧ some k_ ≠ (.slice Ao69 t423.length co69 : Value).ownBlock) ∧ some k_ ≠ (.slice Ao71 t426.length co71 : Value).ownBlock) ∧ some k_ ≠ (.slice Ao92 t440.length co92 : Value).ownBlock) ∧ some k_ ≠ (.slice Ao93 t443.length co93 : Value).ownBlock)) (n := t435.length) (c := co82) ?_).2.2; exact (z3f HO437 BK446 (.int .i64 t439) (.slice Ao92 t440.length co92) (.slice Ao93 t443.length co93))); (case side4 => exact (Kd.R_reads' HO437.out).2.1); (case side5 => refine (Kd.R_reads' (e := 3) (base := w.heap.size) (ok := fun k_ => ((((some k_ ≠ (.slice Ao93 t443.length co93 : Value).ownBlock ∧ some k_ ≠ (.slice Ao69 t423.length co69 : Value).ownBlock) ∧ some k_ ≠ (.slice Ao71 t426.length co71 : Value).ownBlock) ∧ some k_ ≠ (.slice Ao81 t432.length co81 : Value).ownBlock) ∧ some k_ ≠ (.slice Ao82 t435.length co82 : Value).ownBlock)) (n := t440.length) (c := co92) ?_).2.2; exact (z3f HO442 BK446 (.int .i64 t439) (.slice Ao92 t440.length co92) (.slice Ao93 t443.length co93))); (case side6 => exact (Kd.R_reads' HO442.out).2.1); (case side7 => refine (Kd.R_reads' (e := 3) (base := w.heap.size) (ok := fun k_ => ((((some k_ ≠ (.slice Ao92 t440.length co92 : Value).ownBlock ∧ some k_ ≠ (.slice Ao69 t423.length co69 : Value).ownBlock) ∧ some k_ ≠ (.slice Ao71 t426.length co71 : Value).ownBlock) ∧ some k_ ≠ (.slice Ao81 t432.length co81 : Value).ownBlock) ∧ some k_ ≠ (.slice Ao82 t435.length co82 : Value).ownBlock)) (n := t443.length) (c := co93) ?_).2.2; exact (z3f HO445 BK446 (.int .i64 t439) (.slice Ao92 t440.length co92) (.slice Ao93 t443.length co93))); (case side8 => exact (Kd.R_reads' HO445.out).2.1); rintro e w95 ⟨v449, v452, rfl, ho0, ho1, hb⟩; refine ⟨_, rfl, ?_⟩; have n0_ := Aside0.mk (zt2 (z3f HO425 BK446 (.int .i64 t439) (.slice Ao92 t440.length co92) (.slice Ao93 t443.length co93)) hb ho0 ho1); have n1_ := Aside0.mk (zt2 (z3f HO428 BK446 (.int .i64 t439) (.slice Ao92 t440.length co92) (.slice Ao93 t443.length co93)) hb ho0 ho1); have n2_ := Aside0.mk (zt2 (z3f HO434 BK446 (.int .i64 t439) (.slice Ao92 t440.length co92) (.slice Ao93 t443.length co93)) hb ho0 ho1); have n2F_ := Aside0.mk (zt2 (z3f HO434F BK446 (.int .i64 t439) (.slice Ao92 t440.length co92) (.slice Ao93 t443.length co93)) hb ho0 ho1); have n3_ := Aside0.mk (zt2 (z3f HO437 BK446 (.int .i64 t439) (.slice Ao92 t440.length co92) (.slice Ao93 t443.length co93)) hb ho0 ho1); have n3F_ := Aside0.mk (zt2 (z3f HO437F BK446 (.int .i64 t439) (.slice Ao92 t440.length co92) (.slice Ao93 t443.length co93)) hb ho0 ho1); have n4_ := Aside0.mk (zt2 (z3f HO442 BK446 (.int .i64 t439) (.slice Ao92 t440.length co92) (.slice Ao93 t443.length co93)) hb ho0 ho1); have n4F_ := Aside0.mk (zt2 (z3f HO442F BK446 (.int .i64 t439) (.slice Ao92 t440.length co92) (.slice Ao93 t443.length co93)) hb ho0 ho1); have n5_ := Aside0.mk (zt2 (z3f HO445 BK446 (.int .i64 t439) (.slice Ao92 t440.length co92) (.slice Ao93 t443.length co93)) hb ho0 ho1); have n5F_ := Aside0.mk (zt2 (z3f HO445F BK446 (.int .i64 t439) (.slice Ao92 t440.length co92) (.slice Ao93 t443.length co93)) hb ho0 ho1); have n6_ := Aside0.mk (Kd.R_lower (Kd.R_new' (Kd.R_new' (Kd.R_new' (Kd.R_new' (Kd.R_new' (Kd.R_new' ho0 (Kd.R_lt (z3f HO425 BK446 (.int .i64 t439) (.slice Ao92 t440.length co92) (.slice Ao93 t443.length co93)))) (Kd.R_lt (z3f HO428 BK446 (.int .i64 t439) (.slice Ao92 t440.length co92) (.slice Ao93 t443.length co93)))) (Kd.R_lt (z3f HO434 BK446 (.int .i64 t439) (.slice Ao92 t440.length co92) (.slice Ao93 t443.length co93)))) (Kd.R_lt (z3f HO437 BK446 (.int .i64 t439) (.slice Ao92 t440.length co92) (.slice Ao93 t443.length co93)))) (Kd.R_lt (z3f HO442 BK446 (.int .i64 t439) (.slice Ao92 t440.length co92) (.slice Ao93 t443.length co93)))) (Kd.R_lt (z3f HO445 BK446 (.int .i64 t439) (.slice Ao92 t440.length co92) (.slice Ao93 t443.length co93)))) (below_size (zb1 HB))); have n7_ := Aside0.mk (Kd.R_lower (Kd.R_new' (Kd.R_new' (Kd.R_new' (Kd.R_new' (Kd.R_new' (Kd.R_new' ho1 (Kd.R_lt (z3f HO425 BK446 (.int .i64 t439) (.slice Ao92 t440.length co92) (.slice Ao93 t443.length co93)))) (Kd.R_lt (z3f HO428 BK446 (.int .i64 t439) (.slice Ao92 t440.length co92) (.slice Ao93 t443.length co93)))) (Kd.R_lt (z3f HO434 BK446 (.int .i64 t439) (.slice Ao92 t440.length co92) (.slice Ao93 t443.length co93)))) (Kd.R_lt (z3f HO437 BK446 (.int .i64 t439) (.slice Ao92 t440.length co92) (.slice Ao93 t443.length co93)))) (Kd.R_lt (z3f HO442 BK446 (.int .i64 t439) (.slice Ao92 t440.length co92) (.slice Ao93 t443.length co93)))) (Kd.R_lt (z3f HO445 BK446 (.int .i64 t439) (.slice Ao92 t440.length co92) (.slice Ao93 t443.length co93)))) (below_size (zb1 HB))); have n8_ := Aside0.mk (blk_below (g := gb404) (o := .cells #[.int .i64 a0_0, .slice A0_1 l0_1.length c0_1, .slice A0_2 l0_2.length c0_2] 24 (0, 0)) (zq5 BK404) hb); have n9_ := Aside0.mk (blk_below (g := gb405) (o := .cells #[.int .i64 a1_0, .slice A1_1 l1_1.length c1_1, .slice A1_2 l1_2.length c1_2] 24 (0, 0)) (zq5 BK405) hb); have n10_ := Aside0.mk (blk_below (g := gb430) (o := .cells #[.int .i64 t422, .slice Ao69 t423.length co69, .slice Ao71 t426.length co71] 27 (0, 0)) (zq5 BK430) hb); have n11_ := Aside0.mk (blk_below (g := gb438) (o := .cells #[.int .i64 t431, .slice Ao81 t432.length co81, .slice Ao82 t435.length co82] 27 (0, 0)) (zq5 BK438) hb); have n12_ := Aside0.mk (blk_below (g := gb446) (o := .cells #[.int .i64 t439, .slice Ao92 t440.length co92, .slice Ao93 t443.length co93] 27 (0, 0)) (by (with_reducible repeat (first | refine blk_drewN ?_ _ | refine blk_drew ?_ | refine blk_alloc ?_ _)); refine blk_put (cs := #[.int .i64 t439, .slice Ao92 t440.length co92, .slice none 0 0]) ?_ 2 _ rfl; (with_reducible repeat (first | refine blk_drewN ?_ _ | refine blk_drew ?_ | refine blk_alloc ?_ _)); refine blk_put (cs := #[.int .i64 t439, .slice none 0 0, .slice none 0 0]) ?_ 1 _ rfl; (with_reducible repeat (first | refine blk_drewN ?_ _ | refine blk_drew ?_ | refine blk_alloc ?_ _)); refine blk_put (cs := #[.int .i64 0, .slice none 0 0, .slice none 0 0]) ?_ 0 _ rfl; (with_reducible repeat (first | refine blk_drewN ?_ _ | refine blk_drew ?_ | refine blk_alloc ?_ _)); exact BK446.out) hb); have n13_ := Aside0.mk (below_step (zb1 HB) hb); clear HO425; clear HO428; clear HO434 HO434F; clear HO437 HO437F; clear HO442 HO442F; clear HO445 HO445F; clear BK404; clear BK405; clear BK430; clear BK438; clear BK446; clear HB; have HO425 := n0_; have HO428 := n1_; have HO434 := n2_; have HO434F := n2F_; have HO437 := n3_; have HO437F := n3F_; have HO442 := n4_; have HO442F := n4F_; have HO445 := n5_; have HO445F := n5F_; have HO450 := n6_; have HO453 := n7_; have BK404 := n8_; have BK405 := n9_; have BK430 := n10_; have BK438 := n11_; have BK446 := n12_; have HB := n13_; clear n0_ n1_ n2_ n3_ n4_ n5_ n6_ n7_ n8_ n9_ n10_ n11_ n12_ n13_ n2F_ n3F_ n4F_ n5F_; (try clear hb); (try clear hb2); (try clear hk); (try clear hi); (try clear ho0); (try clear ho1)) | ((with_reducible refine gate_dst (N := 10) rfl ?_); refine zbe (N := 10) (cs := #[.int .i64 0, .slice none 0 0, .slice none 0 0]) (t := 27) ?_; intro gb455 hg w96 hbox hb; have n0_ := Aside0.mk (Kd.R_below (zq3 HO425) hb); have n1_ := Aside0.mk (Kd.R_below (zq3 HO428) hb); have n2_ := Aside0.mk (Kd.R_below (zq3 HO434) hb); have n2F_ := Aside0.mk (Kd.R_below (zq3 HO434F) hb); have n3_ := Aside0.mk (Kd.R_below (zq3 HO437) hb); have n3F_ := Aside0.mk (Kd.R_below (zq3 HO437F) hb); have n4_ := Aside0.mk (Kd.R_below (zq3 HO442) hb); have n4F_ := Aside0.mk (Kd.R_below (zq3 HO442F) hb); have n5_ := Aside0.mk (Kd.R_below (zq3 HO445) hb); have n5F_ := Aside0.mk (Kd.R_below (zq3 HO445F) hb); have n6_ := Aside0.mk (Kd.R_below (zq3 HO450) hb); have n7_ := Aside0.mk (Kd.R_below (zq3 HO453) hb); have n8_ := Aside0.mk (zbb BK404 hb); have n9_ := Aside0.mk (zbb BK405 hb); have n10_ := Aside0.mk (zbb BK430 hb); have n11_ := Aside0.mk (zbb BK438 hb); have n12_ := Aside0.mk (zbb BK446 hb); have n13_ := Aside0.mk (below_step (zb1 HB) hb); have n14_ := Aside0.mk (hbox); have n15_ := Aside0.mk (zge (zb1 HB) hg); have n16_ := Aside0.mk (zge (zb1 HB) hg); have n17_ := Aside0.mk (zlt BK404 hg); have n18_ := Aside0.mk (zgt BK404 hg); have n19_ := Aside0.mk (zlt BK405 hg); have n20_ := Aside0.mk (zgt BK405 hg); have n21_ := Aside0.mk (zlt BK430 hg); have n22_ := Aside0.mk (zgt BK430 hg); have n23_ := Aside0.mk (zlt BK438 hg); have n24_ := Aside0.mk (zgt BK438 hg); have n25_ := Aside0.mk (zlt BK446 hg); have n26_ := Aside0.mk (zgt BK446 hg); clear HO425; clear HO428; clear HO434 HO434F; clear HO437 HO437F; clear HO442 HO442F; clear HO445 HO445F; clear HO450; clear HO453; clear BK404; clear BK405; clear BK430; clear BK438; clear BK446; clear HB; have HO425 := n0_; have HO428 := n1_; have HO434 := n2_; have HO434F := n2F_; have HO437 := n3_; have HO437F := n3F_; have HO442 := n4_; have HO442F := n4F_; have HO445 := n5_; have HO445F := n5F_; have HO450 := n6_; have HO453 := n7_; have BK404 := n8_; have BK405 := n9_; have BK430 := n10_; have BK438 := n11_; have BK446 := n12_; have HB := n13_; have BK455 := n14_; have GW455 := n15_; have GE455 := n16_; have NB404_455 := n17_; have NB455_404 := n18_; have NB405_455 := n19_; have NB455_405 := n20_; have NB430_455 := n21_; have NB455_430 := n22_; have NB438_455 := n23_; have NB455_438 := n24_; have NB446_455 := n25_; have NB455_446 := n26_; clear n0_ n1_ n2_ n3_ n4_ n5_ n6_ n7_ n8_ n9_ n10_ n11_ n12_ n13_ n14_ n15_ n16_ n17_ n18_ n19_ n20_ n21_ n22_ n23_ n24_ n25_ n26_ n2F_ n3F_ n4F_ n5F_; clear hb hbox hg; have hnb97 := NB455_404.out; have hnc97 := NB404_455.out; have hnb98 := NB455_405.out; have hnc98 := NB405_455.out; have hnb99 := NB455_430.out; have hnc99 := NB430_455.out; have hnb100 := NB455_438.out; have hnc100 := NB438_455.out; have hnb101 := NB455_446.out; have hnc101 := NB446_455.out; have hcz102_0 : w96.cell? ⟨gb455, 0, none⟩ = some (.int .i64 0) := zc BK455 0; have hcz102_1 : w96.cell? ⟨gb455, 1, none⟩ = some (.slice none 0 0) := zc BK455 1; have hcz102_2 : w96.cell? ⟨gb455, 2, none⟩ = some (.slice none 0 0) := zc BK455 2; have hfz102_0 := blk_frozen BK455.out 0; have hfz102_1 := blk_frozen BK455.out 1; have hfz102_2 := blk_frozen BK455.out 2; obtain ⟨Ao103, co103, eo103⟩ := Kd.R_slice HO450.out; subst eo103; obtain ⟨Ao104, co104, eo104⟩ := Kd.R_slice HO453.out; subst eo104; have hcz105_0 : w96.cell? ⟨gb430, 0, none⟩ = some (.int .i64 t422) := zc BK430 0; have hcz105_1 : w96.cell? ⟨gb430, 1, none⟩ = some (.slice Ao69 t423.length co69) := zc BK430 1; have hcz105_2 : w96.cell? ⟨gb430, 2, none⟩ = some (.slice Ao71 t426.length co71) := zc BK430 2; have hfz105_0 := blk_frozen BK430.out 0; have hfz105_1 := blk_frozen BK430.out 1; have hfz105_2 := blk_frozen BK430.out 2) | ((with_reducible refine gate_callee (f := 31) rfl ?_); refine goesL_ (some 47) rfl rfl Try.func31 (by kernel_rfl) rfl #[.agg #[.int .i64 t447, .slice Ao103 t448.length co103, .slice Ao104 t451.length co104], .agg #[.int .i64 t422, .slice Ao69 t423.length co69, .slice Ao71 t426.length co71]] rfl zq6 ?_; (with_reducible refine (laws_eqBox.calls k t447 _ _ t448 _ _ t451 t422 _ _ t423 _ _ t426 true _ ?side1 ?side2 ?side3 ?side4 ?side5 ?side6 ?side7 ?side8 A24.out).mono ?_); (case side1 => refine (Kd.R_reads' (e := 3) (base := w.heap.size) (ok := fun k_ => ((((((some k_ ≠ (.slice Ao104 t451.length co104 : Value).ownBlock ∧ some k_ ≠ (.slice Ao69 t423.length co69 : Value).ownBlock) ∧ some k_ ≠ (.slice Ao71 t426.length co71 : Value).ownBlock) ∧ some k_ ≠ (.slice Ao81 t432.length co81 : Value).ownBlock) ∧ some k_ ≠ (.slice Ao82 t435.length co82 : Value).ownBlock) ∧ some k_ ≠ (.slice Ao92 t440.length co92 : Value).ownBlock) ∧ some k_ ≠ (.slice Ao93 t443.length co93 : Value).ownBlock)) (n := t448.length) (c := co103) ?_).2.2; exact (z3f HO450 BK455 (.int .i64 t447) (.slice Ao103 t448.length co103) (.slice Ao104 t451.length co104))); (case side2 => exact (Kd.R_reads' HO450.out).2.1); (case side3 => refine (Kd.R_reads' (e := 3) (base := w.heap.size) (ok := fun k_ => ((((((some k_ ≠ (.slice Ao103 t448.length co103 : Value).ownBlock ∧ some k_ ≠ (.slice Ao69 t423.length co69 : Value).ownBlock) ∧ some k_ ≠ (.slice Ao71 t426.length co71 : Value).ownBlock) ∧ some k_ ≠ (.slice Ao81 t432.length co81 : Value).ownBlock) ∧ some k_ ≠ (.slice Ao82 t435.length co82 : Value).ownBlock) ∧ some k_ ≠ (.slice Ao92 t440.length co92 : Value).ownBlock) ∧ some k_ ≠ (.slice Ao93 t443.length co93 : Value).ownBlock)) (n := t451.length) (c := co104) ?_).2.2; exact (z3f HO453 BK455 (.int .i64 t447) (.slice Ao103 t448.length co103) (.slice Ao104 t451.length co104))); (case side4 => exact (Kd.R_reads' HO453.out).2.1); (case side5 => refine (Kd.R_reads' (e := 3) (base := w.heap.size) (ok := fun k_ => (((((((some k_ ≠ (v410 : Value).ownBlock ∧ (some k_ ≠ (v413 : Value).ownBlock ∧ (some k_ ≠ (v417 : Value).ownBlock ∧ (some k_ ≠ (v420 : Value).ownBlock ∧ some k_ ≠ (.slice Ao71 t426.length co71 : Value).ownBlock)))) ∧ some k_ ≠ (.slice Ao81 t432.length co81 : Value).ownBlock) ∧ some k_ ≠ (.slice Ao82 t435.length co82 : Value).ownBlock) ∧ some k_ ≠ (.slice Ao92 t440.length co92 : Value).ownBlock) ∧ some k_ ≠ (.slice Ao93 t443.length co93 : Value).ownBlock) ∧ some k_ ≠ (.slice Ao103 t448.length co103 : Value).ownBlock) ∧ some k_ ≠ (.slice Ao104 t451.length co104 : Value).ownBlock)) (n := t423.length) (c := co69) ?_).2.2; exact (z3f HO425 BK455 (.int .i64 t447) (.slice Ao103 t448.length co103) (.slice Ao104 t451.length co104))); (case side6 => exact (Kd.R_reads' HO425.out).2.1); (case side7 => refine (Kd.R_reads' (e := 3) (base := w.heap.size) (ok := fun k_ => (((((((some k_ ≠ (v410 : Value).ownBlock ∧ (some k_ ≠ (v413 : Value).ownBlock ∧ (some k_ ≠ (v417 : Value).ownBlock ∧ (some k_ ≠ (v420 : Value).ownBlock ∧ some k_ ≠ (.slice Ao69 t423.length co69 : Value).ownBlock)))) ∧ some k_ ≠ (.slice Ao81 t432.length co81 : Value).ownBlock) ∧ some k_ ≠ (.slice Ao82 t435.length co82 : Value).ownBlock) ∧ some k_ ≠ (.slice Ao92 t440.length co92 : Value).ownBlock) ∧ some k_ ≠ (.slice Ao93 t443.length co93 : Value).ownBlock) ∧ some k_ ≠ (.slice Ao103 t448.length co103 : Value).ownBlock) ∧ some k_ ≠ (.slice Ao104 t451.length co104 : Value).ownBlock)) (n := t426.length) (c := co71) ?_).2.2; exact (z3f HO428 BK455 (.int .i64 t447) (.slice Ao103 t448.length co103) (.slice Ao104 t451.length co104))); (case side8 => exact (Kd.R_reads' HO428.out).2.1); rintro e w106 ⟨rfl, hb⟩; refine ⟨_, rfl, ?_⟩; have n0_ := Aside0.mk (Kd.R_below (z3f HO425 BK455 (.int .i64 t447) (.slice Ao103 t448.length co103) (.slice Ao104 t451.length co104)) hb); have n1_ := Aside0.mk (Kd.R_below (z3f HO428 BK455 (.int .i64 t447) (.slice Ao103 t448.length co103) (.slice Ao104 t451.length co104)) hb); have n2_ := Aside0.mk (Kd.R_below (z3f HO434 BK455 (.int .i64 t447) (.slice Ao103 t448.length co103) (.slice Ao104 t451.length co104)) hb); have n2F_ := Aside0.mk (Kd.R_below (z3f HO434F BK455 (.int .i64 t447) (.slice Ao103 t448.length co103) (.slice Ao104 t451.length co104)) hb); have n3_ := Aside0.mk (Kd.R_below (z3f HO437 BK455 (.int .i64 t447) (.slice Ao103 t448.length co103) (.slice Ao104 t451.length co104)) hb); have n3F_ := Aside0.mk (Kd.R_below (z3f HO437F BK455 (.int .i64 t447) (.slice Ao103 t448.length co103) (.slice Ao104 t451.length co104)) hb); have n4_ := Aside0.mk (Kd.R_below (z3f HO442 BK455 (.int .i64 t447) (.slice Ao103 t448.length co103) (.slice Ao104 t451.length co104)) hb); have n4F_ := Aside0.mk (Kd.R_below (z3f HO442F BK455 (.int .i64 t447) (.slice Ao103 t448.length co103) (.slice Ao104 t451.length co104)) hb); have n5_ := Aside0.mk (Kd.R_below (z3f HO445 BK455 (.int .i64 t447) (.slice Ao103 t448.length co103) (.slice Ao104 t451.length co104)) hb); have n5F_ := Aside0.mk (Kd.R_below (z3f HO445F BK455 (.int .i64 t447) (.slice Ao103 t448.length co103) (.slice Ao104 t451.length co104)) hb); have n6_ := Aside0.mk (Kd.R_below (z3f HO450 BK455 (.int .i64 t447) (.slice Ao103 t448.length co103) (.slice Ao104 t451.length co104)) hb); have n7_ := Aside0.mk (Kd.R_below (z3f HO453 BK455 (.int .i64 t447) (.slice Ao103 t448.length co103) (.slice Ao104 t451.length co104)) hb); have n8_ := Aside0.mk (blk_below (g := gb404) (o := .cells #[.int .i64 a0_0, .slice A0_1 l0_1.length c0_1, .slice A0_2 l0_2.length c0_2] 24 (0, 0)) (zq5 BK404) hb); have n9_ := Aside0.mk (blk_below (g := gb405) (o := .cells #[.int .i64 a1_0, .slice A1_1 l1_1.length c1_1, .slice A1_2 l1_2.length c1_2] 24 (0, 0)) (zq5 BK405) hb); have n10_ := Aside0.mk (blk_below (g := gb430) (o := .cells #[.int .i64 t422, .slice Ao69 t423.length co69, .slice Ao71 t426.length co71] 27 (0, 0)) (zq5 BK430) hb); have n11_ := Aside0.mk (blk_below (g := gb438) (o := .cells #[.int .i64 t431, .slice Ao81 t432.length co81, .slice Ao82 t435.length co82] 27 (0, 0)) (zq5 BK438) hb); have n12_ := Aside0.mk (blk_below (g := gb446) (o := .cells #[.int .i64 t439, .slice Ao92 t440.length co92, .slice Ao93 t443.length co93] 27 (0, 0)) (zq5 BK446) hb); have n13_ := Aside0.mk (blk_below (g := gb455) (o := .cells #[.int .i64 t447, .slice Ao103 t448.length co103, .slice Ao104 t451.length co104] 27 (0, 0)) (by (with_reducible repeat (first | refine blk_drewN ?_ _ | refine blk_drew ?_ | refine blk_alloc ?_ _)); refine blk_put (cs := #[.int .i64 t447, .slice Ao103 t448.length co103, .slice none 0 0]) ?_ 2 _ rfl; (with_reducible repeat (first | refine blk_drewN ?_ _ | refine blk_drew ?_ | refine blk_alloc ?_ _)); refine blk_put (cs := #[.int .i64 t447, .slice none 0 0, .slice none 0 0]) ?_ 1 _ rfl; (with_reducible repeat (first | refine blk_drewN ?_ _ | refine blk_drew ?_ | refine blk_alloc ?_ _)); refine blk_put (cs := #[.int .i64 0, .slice none 0 0, .slice none 0 0]) ?_ 0 _ rfl; (with_reducible repeat (first | refine blk_drewN ?_ _ | refine blk_drew ?_ | refine blk_alloc ?_ _)); exact BK455.out) hb); have n14_ := Aside0.mk (below_step (zb1 HB) hb); clear HO425; clear HO428; clear HO434 HO434F; clear HO437 HO437F; clear HO442 HO442F; clear HO445 HO445F; clear HO450; clear HO453; clear BK404; clear BK405; clear BK430; clear BK438; clear BK446; clear BK455; clear HB; have HO425 := n0_; have HO428 := n1_; have HO434 := n2_; have HO434F := n2F_; have HO437 := n3_; have HO437F := n3F_; have HO442 := n4_; have HO442F := n4F_; have HO445 := n5_; have HO445F := n5F_; have HO450 := n6_; have HO453 := n7_; have BK404 := n8_; have BK405 := n9_; have BK430 := n10_; have BK438 := n11_; have BK446 := n12_; have BK455 := n13_; have HB := n14_; clear n0_ n1_ n2_ n3_ n4_ n5_ n6_ n7_ n8_ n9_ n10_ n11_ n12_ n13_ n14_ n2F_ n3F_ n4F_ n5F_; (try clear hb); (try clear hb2); (try clear hk); (try clear hi)))
               have n0_ := Aside0.mk (Kd.R_drew HO425.out)
               have n1_ := Aside0.mk (Kd.R_drew HO428.out)
               have n2_ := Aside0.mk (Kd.R_drew HO434.out)
               have n2F_ := Aside0.mk (Kd.R_drew HO434F.out)
               have n3_ := Aside0.mk (Kd.R_drew HO437.out)
               have n3F_ := Aside0.mk (Kd.R_drew HO437F.out)
               have n4_ := Aside0.mk (Kd.R_drew HO442.out)
               have n4F_ := Aside0.mk (Kd.R_drew HO442F.out)
               have n5_ := Aside0.mk (Kd.R_drew HO445.out)
               have n5F_ := Aside0.mk (Kd.R_drew HO445F.out)
               have n6_ := Aside0.mk (Kd.R_drew HO450.out)
               have n7_ := Aside0.mk (Kd.R_drew HO453.out)
               have n8_ := Aside0.mk (blk_drew BK404.out)
               have n9_ := Aside0.mk (blk_drew BK405.out)
               have n10_ := Aside0.mk (blk_drew BK430.out)
               have n11_ := Aside0.mk (blk_drew BK438.out)
               have n12_ := Aside0.mk (blk_drew BK446.out)
               have n13_ := Aside0.mk (blk_drew BK455.out)
               have n14_ := Aside0.mk (below_drew1 HB.out)
               clear HO425 HO428 HO434 HO434F HO437 HO437F HO442 HO442F HO445 HO445F HO450 HO453 BK404 BK405 BK430 BK438 BK446 BK455 HB
               have HO425 := n0_; have HO428 := n1_; have HO434 := n2_; have HO434F := n2F_; have HO437 := n3_; have HO437F := n3F_; have HO442 := n4_; have HO442F := n4F_; have HO445 := n5_; have HO445F := n5F_; have HO450 := n6_; have HO453 := n7_; have BK404 := n8_; have BK405 := n9_; have BK430 := n10_; have BK438 := n11_; have BK446 := n12_; have BK455 := n13_; have HB := n14_
               clear n0_ n1_ n2_ n3_ n4_ n5_ n6_ n7_ n8_ n9_ n10_ n11_ n12_ n13_ n14_ n2F_ n3F_ n4F_ n5F_
               refine start_ (n := 5) (S := fun w' => w'.cell? ⟨gb438, 0, none⟩ = some (.int .i64 t431) ∧ w'.cell? ⟨gb438, 1, none⟩ = some (.slice Ao81 t432.length co81) ∧ w'.cell? ⟨gb438, 2, none⟩ = some (.slice Ao82 t435.length co82) ∧ w'.cell? ⟨gb404, 0, none⟩ = some (.int .i64 a0_0) ∧ w'.cell? ⟨gb404, 1, none⟩ = some (.slice A0_1 l0_1.length c0_1) ∧ w'.cell? ⟨gb404, 2, none⟩ = some (.slice A0_2 l0_2.length c0_2)) (ds := []) #[false, false, false, false, false] (by kernel_rfl) rfl rfl ⟨zc BK438 0, zc BK438 1, zc BK438 2, zc BK404 0, zc BK404 1, zc BK404 2⟩ (fun hHeld => ?_)
               generalize w106.drew = w107 at HO425 HO428 HO434 HO437 HO442 HO445 HO450 HO453 BK404 BK405 BK430 BK438 BK446 BK455 HB hHeld HO434F HO437F HO442F HO445F ⊢
               refine take_ (i := 0) (N := some 54) (v := ?_) (a' := ?_) #[true, false, false, false, false] rfl rfl (by kernel_rfl) (fun _ _ _ h => h) (Or.inl ⟨by rfl, ?_⟩) hHeld ?_ ?_
               rotate_left
               ·
                rintro w' ⟨s0, s1, s2, s3, s4, s5⟩
                go_simp
                with_reducible rfl
               rotate_left
               ·
                simp only [Act.put, List.setIfInBounds_toArray, List.set_cons_zero, List.set_cons_succ, i64_w, i32_w]
                rfl
               refine take_ (i := 1) (N := some 55) (v := ?_) (a' := ?_) #[true, true, false, false, false] rfl rfl (by kernel_rfl) (fun _ _ _ h => h) (Or.inl ⟨by rfl, ?_⟩) hHeld ?_ ?_
               rotate_left
               ·
                rintro w' ⟨s0, s1, s2, s3, s4, s5⟩
                go_simp
                with_reducible rfl
               rotate_left
               ·
                simp only [Act.put, List.setIfInBounds_toArray, List.set_cons_zero, List.set_cons_succ, i64_w, i32_w]
                rfl
               refine one_ (i := 2) (N := some 56) #[true, true, true, false, false] rfl rfl (by kernel_rfl) (by decide) (fun K hK => ?_)
               refine goes_ Try.func16 (by kernel_rfl) rfl #[.agg #[.int .i64 a0_0, .slice A0_1 l0_1.length c0_1, .slice A0_2 l0_2.length c0_2], .bool false] (by rfl) rfl rfl zq6 ?_
               with_reducible refine (laws_toBox.calls k a0_0 _ _ l0_1 _ _ l0_2 false t457 t458 t461 _ ?side1 ?side2 ?side3 ?side4 A27.out).mono ?_
               (case side1 => exact zcs HR0_1 HB)
               (case side2 => exact HC0_1.out)
               (case side3 => exact zcs HR0_2 HB)
               (case side4 => exact HC0_2.out)
               rintro e w108 ⟨v459, v462, rfl, ho0, ho1, hb, ho0F, ho1F⟩
               refine ⟨_, rfl, ?_⟩
               have n0_ := Aside0.mk (zt2 (zq3 HO425) hb ho0 ho1)
               have n1_ := Aside0.mk (zt2 (zq3 HO428) hb ho0 ho1)
               have n2_ := Aside0.mk (zt2 (zq3 HO434) hb ho0 ho1)
               have n2F_ := Aside0.mk (zt2 (zq3 HO434F) hb ho0 ho1)
               have n3_ := Aside0.mk (zt2 (zq3 HO437) hb ho0 ho1)
               have n3F_ := Aside0.mk (zt2 (zq3 HO437F) hb ho0 ho1)
               have n4_ := Aside0.mk (zt2 (zq3 HO442) hb ho0 ho1)
               have n4F_ := Aside0.mk (zt2 (zq3 HO442F) hb ho0 ho1)
               have n5_ := Aside0.mk (zt2 (zq3 HO445) hb ho0 ho1)
               have n5F_ := Aside0.mk (zt2 (zq3 HO445F) hb ho0 ho1)
               have n6_ := Aside0.mk (zt2 (zq3 HO450) hb ho0 ho1)
               have n7_ := Aside0.mk (zt2 (zq3 HO453) hb ho0 ho1)
               have n8_ := Aside0.mk (Kd.R_lower (zn (zn (zn (zn (zn (zn (zn (zn ho0 HO425) HO428) HO434) HO437) HO442) HO445) HO450) HO453) (below_size (zb1 HB)))
               have n8F_ := Aside0.mk (Kd.R_lower (zn (zn (zn (zn (zn (zn (zn (zn ho0F HO425) HO428) HO434) HO437) HO442) HO445) HO450) HO453) (below_size (zb1 HB)))
               have n9_ := Aside0.mk (Kd.R_lower (zn (zn (zn (zn (zn (zn (zn (zn ho1 HO425) HO428) HO434) HO437) HO442) HO445) HO450) HO453) (below_size (zb1 HB)))
               have n9F_ := Aside0.mk (Kd.R_lower (zn (zn (zn (zn (zn (zn (zn (zn ho1F HO425) HO428) HO434) HO437) HO442) HO445) HO450) HO453) (below_size (zb1 HB)))
               have n10_ := Aside0.mk (zbb BK404 hb)
               have n11_ := Aside0.mk (zbb BK405 hb)
               have n12_ := Aside0.mk (zbb BK430 hb)
               have n13_ := Aside0.mk (zbb BK438 hb)
               have n14_ := Aside0.mk (zbb BK446 hb)
               have n15_ := Aside0.mk (zbb BK455 hb)
               have n16_ := Aside0.mk (below_step (zb1 HB) hb)
               clear HO425 HO428 HO434 HO434F HO437 HO437F HO442 HO442F HO445 HO445F HO450 HO453 BK404 BK405 BK430 BK438 BK446 BK455 HB
               have HO425 := n0_; have HO428 := n1_; have HO434 := n2_; have HO434F := n2F_; have HO437 := n3_; have HO437F := n3F_; have HO442 := n4_; have HO442F := n4F_; have HO445 := n5_; have HO445F := n5F_; have HO450 := n6_; have HO453 := n7_; have HO460 := n8_; have HO460F := n8F_; have HO463 := n9_; have HO463F := n9F_; have BK404 := n10_; have BK405 := n11_; have BK430 := n12_; have BK438 := n13_; have BK446 := n14_; have BK455 := n15_; have HB := n16_
               clear n0_ n1_ n2_ n3_ n4_ n5_ n6_ n7_ n8_ n9_ n10_ n11_ n12_ n13_ n14_ n15_ n16_ n2F_ n3F_ n4F_ n5F_ n8F_ n9F_
               (try clear hb)
               (try clear hb2)
               (try clear hk)
               (try clear hi)
               (try clear ho0)
               (try clear ho0F)
               (try clear ho1)
               (try clear ho1F)
               obtain ⟨Ao109, co109, eo109⟩ := Kd.R_slice HO460.out
               (first | subst eo109 | (injection eo109 with f1_ f2_ f3_; have f4_ := f1_.symm; have f5_ := f3_.symm; clear f1_ f2_ f3_; subst f4_; subst f5_))
               obtain ⟨Ao110, co110, eo110⟩ := Kd.R_slice HO463.out
               (first | subst eo110 | (injection eo110 with f1_ f2_ f3_; have f4_ := f1_.symm; have f5_ := f3_.symm; clear f1_ f2_ f3_; subst f4_; subst f5_))
               refine hK.out _ _ ⟨zc BK438 0, zc BK438 1, zc BK438 2, zc BK404 0, zc BK404 1, zc BK404 2⟩ (fun hHeld => ?_)
               clear hK K
               refine norm_ (a' := ?_) ?_ ?_
               rotate_left
               ·
                show Act.put _ (some 56) _ = _
                simp only [Act.put, List.setIfInBounds_toArray, List.set_cons_zero, List.set_cons_succ, i64_w, i32_w]; rfl
               refine one_ (i := 3) (N := some 57) #[true, true, true, true, false] rfl rfl (by kernel_rfl) (by decide) (fun K hK => ?_)
               refine goes_ Try.func18 (by kernel_rfl) rfl #[.agg #[.int .i64 t431, .slice Ao81 t432.length co81, .slice Ao82 t435.length co82], .agg #[.int .i64 t457, .slice Ao109 t458.length co109, .slice Ao110 t461.length co110]] (by rfl) rfl rfl zq6 ?_
               with_reducible refine (laws_intactBox.calls t431 _ _ t432 _ _ t435 t457 _ _ t458 _ _ t461 true _ ?side1 ?side2 ?side3 ?side4 ?side5 ?side6 ?side7 ?side8 A28.out ?sideF1 ?sideF2 ?sideF3 ?sideF4 ?sideF5 ?sideF6 ?sideF7 ?sideF8).mono ?_
               (case side1 => exact zcr HO434)
               (case side2 => exact (Kd.R_reads' HO434.out).2.1)
               (case side3 => exact zcr HO437)
               (case side4 => exact (Kd.R_reads' HO437.out).2.1)
               (case side5 => exact zcr HO460)
               (case side6 => exact (Kd.R_reads' HO460.out).2.1)
               (case side7 => exact zcr HO463)
               (case side8 => exact (Kd.R_reads' HO463.out).2.1)
               (case sideF1 => exact zcr HO434F)
               (case sideF2 => exact (Kd.R_reads' HO434F.out).2.1)
               (case sideF3 => exact zcr HO437F)
               (case sideF4 => exact (Kd.R_reads' HO437F.out).2.1)
               (case sideF5 => exact zcr HO460F)
               (case sideF6 => exact (Kd.R_reads' HO460F.out).2.1)
               (case sideF7 => exact zcr HO463F)
               (case sideF8 => exact (Kd.R_reads' HO463F.out).2.1)
               rintro e w111 ⟨rfl, hb⟩
               refine ⟨_, rfl, ?_⟩
               have n0_ := Aside0.mk (Kd.R_below (zq3 HO425) hb)
               have n1_ := Aside0.mk (Kd.R_below (zq3 HO428) hb)
               have n2_ := Aside0.mk (Kd.R_below (zq3 HO434) hb)
               have n2F_ := Aside0.mk (Kd.R_below (zq3 HO434F) hb)
               have n3_ := Aside0.mk (Kd.R_below (zq3 HO437) hb)
               have n3F_ := Aside0.mk (Kd.R_below (zq3 HO437F) hb)
               have n4_ := Aside0.mk (Kd.R_below (zq3 HO442) hb)
               have n4F_ := Aside0.mk (Kd.R_below (zq3 HO442F) hb)
               have n5_ := Aside0.mk (Kd.R_below (zq3 HO445) hb)
               have n5F_ := Aside0.mk (Kd.R_below (zq3 HO445F) hb)
               have n6_ := Aside0.mk (Kd.R_below (zq3 HO450) hb)
               have n7_ := Aside0.mk (Kd.R_below (zq3 HO453) hb)
               have n8_ := Aside0.mk (Kd.R_below (zq3 HO460) hb)
               have n8F_ := Aside0.mk (Kd.R_below (zq3 HO460F) hb)
               have n9_ := Aside0.mk (Kd.R_below (zq3 HO463) hb)
               have n9F_ := Aside0.mk (Kd.R_below (zq3 HO463F) hb)
               have n10_ := Aside0.mk (zbb BK404 hb)
               have n11_ := Aside0.mk (zbb BK405 hb)
               have n12_ := Aside0.mk (zbb BK430 hb)
               have n13_ := Aside0.mk (zbb BK438 hb)
               have n14_ := Aside0.mk (zbb BK446 hb)
               have n15_ := Aside0.mk (zbb BK455 hb)
               have n16_ := Aside0.mk (below_step (zb1 HB) hb)
               clear HO425 HO428 HO434 HO434F HO437 HO437F HO442 HO442F HO445 HO445F HO450 HO453 HO460 HO460F HO463 HO463F BK404 BK405 BK430 BK438 BK446 BK455 HB
               have HO425 := n0_; have HO428 := n1_; have HO434 := n2_; have HO434F := n2F_; have HO437 := n3_; have HO437F := n3F_; have HO442 := n4_; have HO442F := n4F_; have HO445 := n5_; have HO445F := n5F_; have HO450 := n6_; have HO453 := n7_; have HO460 := n8_; have HO460F := n8F_; have HO463 := n9_; have HO463F := n9F_; have BK404 := n10_; have BK405 := n11_; have BK430 := n12_; have BK438 := n13_; have BK446 := n14_; have BK455 := n15_; have HB := n16_
               clear n0_ n1_ n2_ n3_ n4_ n5_ n6_ n7_ n8_ n9_ n10_ n11_ n12_ n13_ n14_ n15_ n16_ n2F_ n3F_ n4F_ n5F_ n8F_ n9F_
               (try clear hb)
               (try clear hb2)
               (try clear hk)
               (try clear hi)
               refine hK.out _ _ ⟨zc BK438 0, zc BK438 1, zc BK438 2, zc BK404 0, zc BK404 1, zc BK404 2⟩ (fun hHeld => ?_)
               clear hK K
               refine norm_ (a' := ?_) ?_ ?_
               rotate_left
               ·
                show Act.put _ (some 57) _ = _
                simp only [Act.put, List.setIfInBounds_toArray, List.set_cons_zero, List.set_cons_succ, i64_w, i32_w]; rfl
               refine pure_ (i := 4) (N := some 58) (v := ?_) (a' := ?_) #[true, true, true, true, true] rfl rfl (by kernel_rfl) (fun _ _ _ h => h) (Or.inl ⟨by rfl, ?_⟩) ?_ ?_
               rotate_left
               ·
                intro w'
                go_simp
                with_reducible rfl
               rotate_left
               ·
                simp only [Act.put, List.setIfInBounds_toArray, List.set_cons_zero, List.set_cons_succ, i64_w, i32_w]
                rfl
               refine done_ (by kernel_rfl) ?_
               try go_wp2
               have n0_ := Aside0.mk (Kd.R_drew HO425.out)
               have n1_ := Aside0.mk (Kd.R_drew HO428.out)
               have n2_ := Aside0.mk (Kd.R_drew HO434.out)
               have n2F_ := Aside0.mk (Kd.R_drew HO434F.out)
               have n3_ := Aside0.mk (Kd.R_drew HO437.out)
               have n3F_ := Aside0.mk (Kd.R_drew HO437F.out)
               have n4_ := Aside0.mk (Kd.R_drew HO442.out)
               have n4F_ := Aside0.mk (Kd.R_drew HO442F.out)
               have n5_ := Aside0.mk (Kd.R_drew HO445.out)
               have n5F_ := Aside0.mk (Kd.R_drew HO445F.out)
               have n6_ := Aside0.mk (Kd.R_drew HO450.out)
               have n7_ := Aside0.mk (Kd.R_drew HO453.out)
               have n8_ := Aside0.mk (blk_drew BK404.out)
               have n9_ := Aside0.mk (blk_drew BK405.out)
               have n10_ := Aside0.mk (blk_drew BK430.out)
               have n11_ := Aside0.mk (blk_drew BK438.out)
               have n12_ := Aside0.mk (blk_drew BK446.out)
               have n13_ := Aside0.mk (blk_drew BK455.out)
               have n14_ := Aside0.mk (below_drew1 HB.out)
               clear HO425 HO428 HO434 HO434F HO437 HO437F HO442 HO442F HO445 HO445F HO450 HO453 BK404 BK405 BK430 BK438 BK446 BK455 HB
               have HO425 := n0_; have HO428 := n1_; have HO434 := n2_; have HO434F := n2F_; have HO437 := n3_; have HO437F := n3F_; have HO442 := n4_; have HO442F := n4F_; have HO445 := n5_; have HO445F := n5F_; have HO450 := n6_; have HO453 := n7_; have BK404 := n8_; have BK405 := n9_; have BK430 := n10_; have BK438 := n11_; have BK446 := n12_; have BK455 := n13_; have HB := n14_
               clear n0_ n1_ n2_ n3_ n4_ n5_ n6_ n7_ n8_ n9_ n10_ n11_ n12_ n13_ n14_ n2F_ n3F_ n4F_ n5F_
               refine start_ (n := 5) (S := fun w' => w'.cell? ⟨gb446, 0, none⟩ = some (.int .i64 t439) ∧ w'.cell? ⟨gb446, 1, none⟩ = some (.slice Ao92 t440.length co92) ∧ w'.cell? ⟨gb446, 2, none⟩ = some (.slice Ao93 t443.length co93) ∧ w'.cell? ⟨gb405, 0, none⟩ = some (.int .i64 a1_0) ∧ w'.cell? ⟨gb405, 1, none⟩ = some (.slice A1_1 l1_1.length c1_1) ∧ w'.cell? ⟨gb405, 2, none⟩ = some (.slice A1_2 l1_2.length c1_2)) (ds := []) #[false, false, false, false, false] (by kernel_rfl) rfl rfl ⟨zc BK446 0, zc BK446 1, zc BK446 2, zc BK405 0, zc BK405 1, zc BK405 2⟩ (fun hHeld => ?_)
               generalize w111.drew = w112 at HO425 HO428 HO434 HO437 HO442 HO445 HO450 HO453 BK404 BK405 BK430 BK438 BK446 BK455 HB hHeld HO434F HO437F HO442F HO445F ⊢
               refine take_ (i := 0) (N := some 59) (v := ?_) (a' := ?_) #[true, false, false, false, false] rfl rfl (by kernel_rfl) (fun _ _ _ h => h) (Or.inl ⟨by rfl, ?_⟩) hHeld ?_ ?_
               rotate_left
               ·
                rintro w' ⟨s0, s1, s2, s3, s4, s5⟩
                go_simp
                with_reducible rfl
               rotate_left
               ·
                simp only [Act.put, List.setIfInBounds_toArray, List.set_cons_zero, List.set_cons_succ, i64_w, i32_w]
                rfl
               refine take_ (i := 1) (N := some 60) (v := ?_) (a' := ?_) #[true, true, false, false, false] rfl rfl (by kernel_rfl) (fun _ _ _ h => h) (Or.inl ⟨by rfl, ?_⟩) hHeld ?_ ?_
               rotate_left
               ·
                rintro w' ⟨s0, s1, s2, s3, s4, s5⟩
                go_simp
                with_reducible rfl
               rotate_left
               ·
                simp only [Act.put, List.setIfInBounds_toArray, List.set_cons_zero, List.set_cons_succ, i64_w, i32_w]
                rfl
               refine one_ (i := 2) (N := some 61) #[true, true, true, false, false] rfl rfl (by kernel_rfl) (by decide) (fun K hK => ?_)
               refine goes_ Try.func16 (by kernel_rfl) rfl #[.agg #[.int .i64 a1_0, .slice A1_1 l1_1.length c1_1, .slice A1_2 l1_2.length c1_2], .bool false] (by rfl) rfl rfl zq6 ?_
               with_reducible refine (laws_toBox.calls k a1_0 _ _ l1_1 _ _ l1_2 false t465 t466 t469 _ ?side1 ?side2 ?side3 ?side4 A30.out).mono ?_
               (case side1 => exact zcs HR1_1 HB)
               (case side2 => exact HC1_1.out)
               (case side3 => exact zcs HR1_2 HB)
               (case side4 => exact HC1_2.out)
               rintro e w113 ⟨v467, v470, rfl, ho0, ho1, hb, ho0F, ho1F⟩
               refine ⟨_, rfl, ?_⟩
               have n0_ := Aside0.mk (zt2 (zq3 HO425) hb ho0 ho1)
               have n1_ := Aside0.mk (zt2 (zq3 HO428) hb ho0 ho1)
               have n2_ := Aside0.mk (zt2 (zq3 HO434) hb ho0 ho1)
               have n2F_ := Aside0.mk (zt2 (zq3 HO434F) hb ho0 ho1)
               have n3_ := Aside0.mk (zt2 (zq3 HO437) hb ho0 ho1)
               have n3F_ := Aside0.mk (zt2 (zq3 HO437F) hb ho0 ho1)
               have n4_ := Aside0.mk (zt2 (zq3 HO442) hb ho0 ho1)
               have n4F_ := Aside0.mk (zt2 (zq3 HO442F) hb ho0 ho1)
               have n5_ := Aside0.mk (zt2 (zq3 HO445) hb ho0 ho1)
               have n5F_ := Aside0.mk (zt2 (zq3 HO445F) hb ho0 ho1)
               have n6_ := Aside0.mk (zt2 (zq3 HO450) hb ho0 ho1)
               have n7_ := Aside0.mk (zt2 (zq3 HO453) hb ho0 ho1)
               have n8_ := Aside0.mk (Kd.R_lower (zn (zn (zn (zn (zn (zn (zn (zn ho0 HO425) HO428) HO434) HO437) HO442) HO445) HO450) HO453) (below_size (zb1 HB)))
               have n8F_ := Aside0.mk (Kd.R_lower (zn (zn (zn (zn (zn (zn (zn (zn ho0F HO425) HO428) HO434) HO437) HO442) HO445) HO450) HO453) (below_size (zb1 HB)))
               have n9_ := Aside0.mk (Kd.R_lower (zn (zn (zn (zn (zn (zn (zn (zn ho1 HO425) HO428) HO434) HO437) HO442) HO445) HO450) HO453) (below_size (zb1 HB)))
               have n9F_ := Aside0.mk (Kd.R_lower (zn (zn (zn (zn (zn (zn (zn (zn ho1F HO425) HO428) HO434) HO437) HO442) HO445) HO450) HO453) (below_size (zb1 HB)))
               have n10_ := Aside0.mk (zbb BK404 hb)
               have n11_ := Aside0.mk (zbb BK405 hb)
               have n12_ := Aside0.mk (zbb BK430 hb)
               have n13_ := Aside0.mk (zbb BK438 hb)
               have n14_ := Aside0.mk (zbb BK446 hb)
               have n15_ := Aside0.mk (zbb BK455 hb)
               have n16_ := Aside0.mk (below_step (zb1 HB) hb)
               clear HO425 HO428 HO434 HO434F HO437 HO437F HO442 HO442F HO445 HO445F HO450 HO453 BK404 BK405 BK430 BK438 BK446 BK455 HB
               have HO425 := n0_; have HO428 := n1_; have HO434 := n2_; have HO434F := n2F_; have HO437 := n3_; have HO437F := n3F_; have HO442 := n4_; have HO442F := n4F_; have HO445 := n5_; have HO445F := n5F_; have HO450 := n6_; have HO453 := n7_; have HO468 := n8_; have HO468F := n8F_; have HO471 := n9_; have HO471F := n9F_; have BK404 := n10_; have BK405 := n11_; have BK430 := n12_; have BK438 := n13_; have BK446 := n14_; have BK455 := n15_; have HB := n16_
               clear n0_ n1_ n2_ n3_ n4_ n5_ n6_ n7_ n8_ n9_ n10_ n11_ n12_ n13_ n14_ n15_ n16_ n2F_ n3F_ n4F_ n5F_ n8F_ n9F_
               (try clear hb)
               (try clear hb2)
               (try clear hk)
               (try clear hi)
               (try clear ho0)
               (try clear ho0F)
               (try clear ho1)
               (try clear ho1F)
               obtain ⟨Ao114, co114, eo114⟩ := Kd.R_slice HO468.out
               (first | subst eo114 | (injection eo114 with f1_ f2_ f3_; have f4_ := f1_.symm; have f5_ := f3_.symm; clear f1_ f2_ f3_; subst f4_; subst f5_))
               obtain ⟨Ao115, co115, eo115⟩ := Kd.R_slice HO471.out
               (first | subst eo115 | (injection eo115 with f1_ f2_ f3_; have f4_ := f1_.symm; have f5_ := f3_.symm; clear f1_ f2_ f3_; subst f4_; subst f5_))
               refine hK.out _ _ ⟨zc BK446 0, zc BK446 1, zc BK446 2, zc BK405 0, zc BK405 1, zc BK405 2⟩ (fun hHeld => ?_)
               clear hK K
               refine norm_ (a' := ?_) ?_ ?_
               rotate_left
               ·
                show Act.put _ (some 61) _ = _
                simp only [Act.put, List.setIfInBounds_toArray, List.set_cons_zero, List.set_cons_succ, i64_w, i32_w]; rfl
               refine one_ (i := 3) (N := some 62) #[true, true, true, true, false] rfl rfl (by kernel_rfl) (by decide) (fun K hK => ?_)
               refine goes_ Try.func18 (by kernel_rfl) rfl #[.agg #[.int .i64 t439, .slice Ao92 t440.length co92, .slice Ao93 t443.length co93], .agg #[.int .i64 t465, .slice Ao114 t466.length co114, .slice Ao115 t469.length co115]] (by rfl) rfl rfl zq6 ?_
               with_reducible refine (laws_intactBox.calls t439 _ _ t440 _ _ t443 t465 _ _ t466 _ _ t469 true _ ?side1 ?side2 ?side3 ?side4 ?side5 ?side6 ?side7 ?side8 A31.out ?sideF1 ?sideF2 ?sideF3 ?sideF4 ?sideF5 ?sideF6 ?sideF7 ?sideF8).mono ?_
               (case side1 => exact zcr HO442)
               (case side2 => exact (Kd.R_reads' HO442.out).2.1)
               (case side3 => exact zcr HO445)
               (case side4 => exact (Kd.R_reads' HO445.out).2.1)
               (case side5 => exact zcr HO468)
               (case side6 => exact (Kd.R_reads' HO468.out).2.1)
               (case side7 => exact zcr HO471)
               (case side8 => exact (Kd.R_reads' HO471.out).2.1)
               (case sideF1 => exact zcr HO442F)
               (case sideF2 => exact (Kd.R_reads' HO442F.out).2.1)
               (case sideF3 => exact zcr HO445F)
               (case sideF4 => exact (Kd.R_reads' HO445F.out).2.1)
               (case sideF5 => exact zcr HO468F)
               (case sideF6 => exact (Kd.R_reads' HO468F.out).2.1)
               (case sideF7 => exact zcr HO471F)
               (case sideF8 => exact (Kd.R_reads' HO471F.out).2.1)
               rintro e w116 ⟨rfl, hb⟩
               refine ⟨_, rfl, ?_⟩
               have n0_ := Aside0.mk (Kd.R_below (zq3 HO425) hb)
               have n1_ := Aside0.mk (Kd.R_below (zq3 HO428) hb)
               have n2_ := Aside0.mk (Kd.R_below (zq3 HO434) hb)
               have n2F_ := Aside0.mk (Kd.R_below (zq3 HO434F) hb)
               have n3_ := Aside0.mk (Kd.R_below (zq3 HO437) hb)
               have n3F_ := Aside0.mk (Kd.R_below (zq3 HO437F) hb)
               have n4_ := Aside0.mk (Kd.R_below (zq3 HO442) hb)
               have n4F_ := Aside0.mk (Kd.R_below (zq3 HO442F) hb)
               have n5_ := Aside0.mk (Kd.R_below (zq3 HO445) hb)
               have n5F_ := Aside0.mk (Kd.R_below (zq3 HO445F) hb)
               have n6_ := Aside0.mk (Kd.R_below (zq3 HO450) hb)
               have n7_ := Aside0.mk (Kd.R_below (zq3 HO453) hb)
               have n8_ := Aside0.mk (Kd.R_below (zq3 HO468) hb)
               have n8F_ := Aside0.mk (Kd.R_below (zq3 HO468F) hb)
               have n9_ := Aside0.mk (Kd.R_below (zq3 HO471) hb)
               have n9F_ := Aside0.mk (Kd.R_below (zq3 HO471F) hb)
               have n10_ := Aside0.mk (zbb BK404 hb)
               have n11_ := Aside0.mk (zbb BK405 hb)
               have n12_ := Aside0.mk (zbb BK430 hb)
               have n13_ := Aside0.mk (zbb BK438 hb)
               have n14_ := Aside0.mk (zbb BK446 hb)
               have n15_ := Aside0.mk (zbb BK455 hb)
               have n16_ := Aside0.mk (below_step (zb1 HB) hb)
               clear HO425 HO428 HO434 HO434F HO437 HO437F HO442 HO442F HO445 HO445F HO450 HO453 HO468 HO468F HO471 HO471F BK404 BK405 BK430 BK438 BK446 BK455 HB
               have HO425 := n0_; have HO428 := n1_; have HO434 := n2_; have HO434F := n2F_; have HO437 := n3_; have HO437F := n3F_; have HO442 := n4_; have HO442F := n4F_; have HO445 := n5_; have HO445F := n5F_; have HO450 := n6_; have HO453 := n7_; have HO468 := n8_; have HO468F := n8F_; have HO471 := n9_; have HO471F := n9F_; have BK404 := n10_; have BK405 := n11_; have BK430 := n12_; have BK438 := n13_; have BK446 := n14_; have BK455 := n15_; have HB := n16_
               clear n0_ n1_ n2_ n3_ n4_ n5_ n6_ n7_ n8_ n9_ n10_ n11_ n12_ n13_ n14_ n15_ n16_ n2F_ n3F_ n4F_ n5F_ n8F_ n9F_
               (try clear hb)
               (try clear hb2)
               (try clear hk)
               (try clear hi)
               refine hK.out _ _ ⟨zc BK446 0, zc BK446 1, zc BK446 2, zc BK405 0, zc BK405 1, zc BK405 2⟩ (fun hHeld => ?_)
               clear hK K
               refine norm_ (a' := ?_) ?_ ?_
               rotate_left
               ·
                show Act.put _ (some 62) _ = _
                simp only [Act.put, List.setIfInBounds_toArray, List.set_cons_zero, List.set_cons_succ, i64_w, i32_w]; rfl
               refine pure_ (i := 4) (N := some 63) (v := ?_) (a' := ?_) #[true, true, true, true, true] rfl rfl (by kernel_rfl) (fun _ _ _ h => h) (Or.inl ⟨by rfl, ?_⟩) ?_ ?_
               rotate_left
               ·
                intro w'
                go_simp
                with_reducible rfl
               rotate_left
               ·
                simp only [Act.put, List.setIfInBounds_toArray, List.set_cons_zero, List.set_cons_succ, i64_w, i32_w]
                rfl
               refine done_ (by kernel_rfl) ?_
               have hcz117_0 : w116.cell? ⟨gb438, 0, none⟩ = some (.int .i64 t431) := zc BK438 0
               have hcz117_1 : w116.cell? ⟨gb438, 1, none⟩ = some (.slice Ao81 t432.length co81) := zc BK438 1
               have hcz117_2 : w116.cell? ⟨gb438, 2, none⟩ = some (.slice Ao82 t435.length co82) := zc BK438 2
               have hfz117_0 := blk_frozen BK438.out 0
               have hfz117_1 := blk_frozen BK438.out 1
               have hfz117_2 := blk_frozen BK438.out 2
               try go_wp2_with (first | ((with_reducible refine gate_callee (f := 34) rfl ?_); refine goesL_ (some 66) rfl rfl Try.func34 (by kernel_rfl) rfl #[.agg #[.int .i64 t431, .slice Ao81 t432.length co81, .slice Ao82 t435.length co82], .int .i64 101] rfl zq6 ?_; (with_reducible refine (laws_markBox.calls k t431 (fun k_ => some k_ = (.slice Ao81 t432.length co81 : Value).ownBlock) (.slice Ao81 t432.length co81) t432 (fun k_ => some k_ = (.slice Ao82 t435.length co82 : Value).ownBlock) (.slice Ao82 t435.length co82) t435 101 t473 t474 t475 w _ ?side1 ?side2 ?side3 ?side4 ?side5 A33.out).mono ?_); (case side1 => exact zb1 HB); (case side2 => exact Kd.R_tight rfl HO434.out); (case side3 => exact fun k_ e_ => (HO434.out.1 k_ e_.symm).1.1.1.1.1.1.1.1.1.1.1.1.1.1); (case side4 => exact Kd.R_tight rfl HO437.out); (case side5 => exact fun k_ e_ => (HO437.out.1 k_ e_.symm).1.1.1.1.1.1.1.1.1.1.1.1.1.1); rintro e w118 ⟨rfl, hy0, hy1, hb, hkp⟩; refine ⟨_, rfl, ?_⟩; have n0_ := Aside0.mk (blk_kept (zq1 BK404) hkp (fun hs_ => Or.elim hs_ (fun e_ => (fun e_ => (Kd.R_ne HO434.out BK404.out (by decide)) e_) e_) (fun e_ => (fun e_ => (Kd.R_ne HO437.out BK404.out (by decide)) e_) e_))); have n1_ := Aside0.mk (blk_kept (zq1 BK405) hkp (fun hs_ => Or.elim hs_ (fun e_ => (fun e_ => (Kd.R_ne HO434.out BK405.out (by decide)) e_) e_) (fun e_ => (fun e_ => (Kd.R_ne HO437.out BK405.out (by decide)) e_) e_))); have n2_ := Aside0.mk (Kd.R_mono (ok' := fun k_ => some k_ ≠ (.slice Ao71 t426.length co71 : Value).ownBlock ∧ some k_ ≠ (.slice Ao81 t432.length co81 : Value).ownBlock ∧ some k_ ≠ (.slice Ao82 t435.length co82 : Value).ownBlock ∧ some k_ ≠ (.slice Ao92 t440.length co92 : Value).ownBlock ∧ some k_ ≠ (.slice Ao93 t443.length co93 : Value).ownBlock ∧ some k_ ≠ (.slice Ao103 t448.length co103 : Value).ownBlock ∧ some k_ ≠ (.slice Ao104 t451.length co104 : Value).ownBlock) (Kd.R_keptB (HO425.out) hkp (fun k_ hk_ hs_ => Or.elim hs_ (fun e_ => (hk_.1.1.1.1.1.1.1.1.1.2) e_) (fun e_ => (hk_.1.1.1.1.1.1.1.1.2) e_))) (fun k_ hk_ => ⟨hk_.1.1.1.1.1.1.1.1.1.1.1.2.2.2.2, hk_.1.1.1.1.1.1.1.1.1.1.2, hk_.1.1.1.1.1.1.1.1.1.2, hk_.1.1.1.1.1.1.1.1.2, hk_.1.1.1.1.1.1.1.2, hk_.1.1.1.1.1.1.2, hk_.1.1.1.1.1.2⟩)); have n3_ := Aside0.mk (Kd.R_mono (ok' := fun k_ => some k_ ≠ (.slice Ao69 t423.length co69 : Value).ownBlock ∧ some k_ ≠ (.slice Ao81 t432.length co81 : Value).ownBlock ∧ some k_ ≠ (.slice Ao82 t435.length co82 : Value).ownBlock ∧ some k_ ≠ (.slice Ao92 t440.length co92 : Value).ownBlock ∧ some k_ ≠ (.slice Ao93 t443.length co93 : Value).ownBlock ∧ some k_ ≠ (.slice Ao103 t448.length co103 : Value).ownBlock ∧ some k_ ≠ (.slice Ao104 t451.length co104 : Value).ownBlock) (Kd.R_keptB (HO428.out) hkp (fun k_ hk_ hs_ => Or.elim hs_ (fun e_ => (hk_.1.1.1.1.1.1.1.1.1.2) e_) (fun e_ => (hk_.1.1.1.1.1.1.1.1.2) e_))) (fun k_ hk_ => ⟨hk_.1.1.1.1.1.1.1.1.1.1.1.2.2.2.2, hk_.1.1.1.1.1.1.1.1.1.1.2, hk_.1.1.1.1.1.1.1.1.1.2, hk_.1.1.1.1.1.1.1.1.2, hk_.1.1.1.1.1.1.1.2, hk_.1.1.1.1.1.1.2, hk_.1.1.1.1.1.2⟩)); have n4_ := Aside0.mk (blk_kept (zq1 BK430) hkp (fun hs_ => Or.elim hs_ (fun e_ => (fun e_ => (Kd.R_ne HO434.out BK430.out (by decide)) e_) e_) (fun e_ => (fun e_ => (Kd.R_ne HO437.out BK430.out (by decide)) e_) e_))); have n5_ := Aside0.mk (Kd.R_reok rfl hy0 (fun k_ e_ => HO434.out.1 k_ e_)); have n6_ := Aside0.mk (Kd.R_reok rfl hy1 (fun k_ e_ => HO437.out.1 k_ e_)); have n7_ := Aside0.mk (Kd.R_mono (ok' := fun k_ => some k_ ≠ (.slice Ao69 t423.length co69 : Value).ownBlock ∧ some k_ ≠ (.slice Ao71 t426.length co71 : Value).ownBlock ∧ some k_ ≠ (.slice Ao81 t432.length co81 : Value).ownBlock ∧ some k_ ≠ (.slice Ao82 t435.length co82 : Value).ownBlock ∧ some k_ ≠ (.slice Ao93 t443.length co93 : Value).ownBlock ∧ some k_ ≠ (.slice Ao103 t448.length co103 : Value).ownBlock ∧ some k_ ≠ (.slice Ao104 t451.length co104 : Value).ownBlock) (Kd.R_keptB (HO442.out) hkp (fun k_ hk_ hs_ => Or.elim hs_ (fun e_ => (hk_.1.1.1.1.1.1.1.2) e_) (fun e_ => (hk_.1.1.1.1.1.1.2) e_))) (fun k_ hk_ => ⟨hk_.1.1.1.1.1.1.1.1.1.1.2, hk_.1.1.1.1.1.1.1.1.1.2, hk_.1.1.1.1.1.1.1.1.2, hk_.1.1.1.1.1.1.1.2, hk_.1.1.1.1.1.1.1.1.1.1.1, hk_.1.1.1.1.1.1.2, hk_.1.1.1.1.1.2⟩)); have n7F_ := Aside0.mk (Kd.R_mono (ok' := fun k_ => some k_ ≠ (.slice Ao69 t423.length co69 : Value).ownBlock ∧ some k_ ≠ (.slice Ao71 t426.length co71 : Value).ownBlock ∧ some k_ ≠ (.slice Ao81 t432.length co81 : Value).ownBlock ∧ some k_ ≠ (.slice Ao82 t435.length co82 : Value).ownBlock ∧ some k_ ≠ (.slice Ao93 t443.length co93 : Value).ownBlock ∧ some k_ ≠ (.slice Ao103 t448.length co103 : Value).ownBlock ∧ some k_ ≠ (.slice Ao104 t451.length co104 : Value).ownBlock) (Kd.R_keptB (HO442F.out) hkp (fun k_ hk_ hs_ => Or.elim hs_ (fun e_ => (hk_.1.1.1.1.1.1.1.2) e_) (fun e_ => (hk_.1.1.1.1.1.1.2) e_))) (fun k_ hk_ => ⟨hk_.1.1.1.1.1.1.1.1.1.1.2, hk_.1.1.1.1.1.1.1.1.1.2, hk_.1.1.1.1.1.1.1.1.2, hk_.1.1.1.1.1.1.1.2, hk_.1.1.1.1.1.1.1.1.1.1.1, hk_.1.1.1.1.1.1.2, hk_.1.1.1.1.1.2⟩)); have n8_ := Aside0.mk (Kd.R_mono (ok' := fun k_ => some k_ ≠ (.slice Ao69 t423.length co69 : Value).ownBlock ∧ some k_ ≠ (.slice Ao71 t426.length co71 : Value).ownBlock ∧ some k_ ≠ (.slice Ao81 t432.length co81 : Value).ownBlock ∧ some k_ ≠ (.slice Ao82 t435.length co82 : Value).ownBlock ∧ some k_ ≠ (.slice Ao92 t440.length co92 : Value).ownBlock ∧ some k_ ≠ (.slice Ao103 t448.length co103 : Value).ownBlock ∧ some k_ ≠ (.slice Ao104 t451.length co104 : Value).ownBlock) (Kd.R_keptB (HO445.out) hkp (fun k_ hk_ hs_ => Or.elim hs_ (fun e_ => (hk_.1.1.1.1.1.1.1.2) e_) (fun e_ => (hk_.1.1.1.1.1.1.2) e_))) (fun k_ hk_ => ⟨hk_.1.1.1.1.1.1.1.1.1.1.2, hk_.1.1.1.1.1.1.1.1.1.2, hk_.1.1.1.1.1.1.1.1.2, hk_.1.1.1.1.1.1.1.2, hk_.1.1.1.1.1.1.1.1.1.1.1, hk_.1.1.1.1.1.1.2, hk_.1.1.1.1.1.2⟩)); have n8F_ := Aside0.mk (Kd.R_mono (ok' := fun k_ => some k_ ≠ (.slice Ao69 t423.length co69 : Value).ownBlock ∧ some k_ ≠ (.slice Ao71 t426.length co71 : Value).ownBlock ∧ some k_ ≠ (.slice Ao81 t432.length co81 : Value).ownBlock ∧ some k_ ≠ (.slice Ao82 t435.length co82 : Value).ownBlock ∧ some k_ ≠ (.slice Ao92 t440.length co92 : Value).ownBlock ∧ some k_ ≠ (.slice Ao103 t448.length co103 : Value).ownBlock ∧ some k_ ≠ (.slice Ao104 t451.length co104 : Value).ownBlock) (Kd.R_keptB (HO445F.out) hkp (fun k_ hk_ hs_ => Or.elim hs_ (fun e_ => (hk_.1.1.1.1.1.1.1.2) e_) (fun e_ => (hk_.1.1.1.1.1.1.2) e_))) (fun k_ hk_ => ⟨hk_.1.1.1.1.1.1.1.1.1.1.2, hk_.1.1.1.1.1.1.1.1.1.2, hk_.1.1.1.1.1.1.1.1.2, hk_.1.1.1.1.1.1.1.2, hk_.1.1.1.1.1.1.1.1.1.1.1, hk_.1.1.1.1.1.1.2, hk_.1.1.1.1.1.2⟩)); have n9_ := Aside0.mk (blk_kept (zq1 BK446) hkp (fun hs_ => Or.elim hs_ (fun e_ => (fun e_ => (Kd.R_ne HO434.out BK446.out (by decide)) e_) e_) (fun e_ => (fun e_ => (Kd.R_ne HO437.out BK446.out (by decide)) e_) e_))); have n10_ := Aside0.mk (Kd.R_mono (ok' := fun k_ => some k_ ≠ (.slice Ao69 t423.length co69 : Value).ownBlock ∧ some k_ ≠ (.slice Ao71 t426.length co71 : Value).ownBlock ∧ some k_ ≠ (.slice Ao81 t432.length co81 : Value).ownBlock ∧ some k_ ≠ (.slice Ao82 t435.length co82 : Value).ownBlock ∧ some k_ ≠ (.slice Ao92 t440.length co92 : Value).ownBlock ∧ some k_ ≠ (.slice Ao93 t443.length co93 : Value).ownBlock ∧ some k_ ≠ (.slice Ao104 t451.length co104 : Value).ownBlock) (Kd.R_keptB (HO450.out) hkp (fun k_ hk_ hs_ => Or.elim hs_ (fun e_ => (hk_.1.1.1.1.1.1.1.2) e_) (fun e_ => (hk_.1.1.1.1.1.1.2) e_))) (fun k_ hk_ => ⟨hk_.1.1.1.1.1.1.1.1.1.1.2, hk_.1.1.1.1.1.1.1.1.1.2, hk_.1.1.1.1.1.1.1.1.2, hk_.1.1.1.1.1.1.1.2, hk_.1.1.1.1.1.1.2, hk_.1.1.1.1.1.2, hk_.1.1.1.1.1.1.1.1.1.1.1⟩)); have n11_ := Aside0.mk (Kd.R_mono (ok' := fun k_ => some k_ ≠ (.slice Ao69 t423.length co69 : Value).ownBlock ∧ some k_ ≠ (.slice Ao71 t426.length co71 : Value).ownBlock ∧ some k_ ≠ (.slice Ao81 t432.length co81 : Value).ownBlock ∧ some k_ ≠ (.slice Ao82 t435.length co82 : Value).ownBlock ∧ some k_ ≠ (.slice Ao92 t440.length co92 : Value).ownBlock ∧ some k_ ≠ (.slice Ao93 t443.length co93 : Value).ownBlock ∧ some k_ ≠ (.slice Ao103 t448.length co103 : Value).ownBlock) (Kd.R_keptB (HO453.out) hkp (fun k_ hk_ hs_ => Or.elim hs_ (fun e_ => (hk_.1.1.1.1.1.1.1.2) e_) (fun e_ => (hk_.1.1.1.1.1.1.2) e_))) (fun k_ hk_ => ⟨hk_.1.1.1.1.1.1.1.1.1.1.2, hk_.1.1.1.1.1.1.1.1.1.2, hk_.1.1.1.1.1.1.1.1.2, hk_.1.1.1.1.1.1.1.2, hk_.1.1.1.1.1.1.2, hk_.1.1.1.1.1.2, hk_.1.1.1.1.1.1.1.1.1.1.1⟩)); have n12_ := Aside0.mk (blk_kept (zq1 BK455) hkp (fun hs_ => Or.elim hs_ (fun e_ => (fun e_ => (Kd.R_ne HO434.out BK455.out (by decide)) e_) e_) (fun e_ => (fun e_ => (Kd.R_ne HO437.out BK455.out (by decide)) e_) e_))); have n13_ := Aside0.mk (hb); clear BK404; clear BK405; clear HO425; clear HO428; clear BK430; clear HO434 HO434F; clear HO437 HO437F; clear HO442 HO442F; clear HO445 HO445F; clear BK446; clear HO450; clear HO453; clear BK455; clear HB; have BK404 := n0_; have BK405 := n1_; have HO425 := n2_; have HO428 := n3_; have BK430 := n4_; have HO434 := n5_; have HO437 := n6_; have HO442 := n7_; have HO442F := n7F_; have HO445 := n8_; have HO445F := n8F_; have BK446 := n9_; have HO450 := n10_; have HO453 := n11_; have BK455 := n12_; have HB := n13_; clear n0_ n1_ n2_ n3_ n4_ n5_ n6_ n7_ n8_ n9_ n10_ n11_ n12_ n13_ n7F_ n8F_; (try clear hb); (try clear hkp); (try clear hy0); (try clear hy1); have hcz119_0 : w118.cell? ⟨gb446, 0, none⟩ = some (.int .i64 t439) := zc BK446 0; have hcz119_1 : w118.cell? ⟨gb446, 1, none⟩ = some (.slice Ao92 t440.length co92) := zc BK446 1; have hcz119_2 : w118.cell? ⟨gb446, 2, none⟩ = some (.slice Ao93 t443.length co93) := zc BK446 2; have hfz119_0 := blk_frozen BK446.out 0; have hfz119_1 := blk_frozen BK446.out 1; have hfz119_2 := blk_frozen BK446.out 2) | ((with_reducible refine gate_callee (f := 34) rfl ?_); refine goesL_ (some 69) rfl rfl Try.func34 (by kernel_rfl) rfl #[.agg #[.int .i64 t439, .slice Ao92 t440.length co92, .slice Ao93 t443.length co93], .int .i64 t473] rfl zq6 ?_; (with_reducible refine (laws_markBox.calls k t439 (fun k_ => some k_ = (.slice Ao92 t440.length co92 : Value).ownBlock) (.slice Ao92 t440.length co92) t440 (fun k_ => some k_ = (.slice Ao93 t443.length co93 : Value).ownBlock) (.slice Ao93 t443.length co93) t443 t473 t476 t477 t478 w _ ?side1 ?side2 ?side3 ?side4 ?side5 A34.out).mono ?_); (case side1 => exact zb1 HB); (case side2 => exact Kd.R_tight rfl HO442.out); (case side3 => exact fun k_ e_ => (HO442.out.1 k_ e_.symm).2.2.2.2.1); (case side4 => exact Kd.R_tight rfl HO445.out); (case side5 => exact fun k_ e_ => (HO445.out.1 k_ e_.symm).2.2.2.2.1); rintro e w120 ⟨rfl, hy0, hy1, hb, hkp⟩; refine ⟨_, rfl, ?_⟩; have n0_ := Aside0.mk (blk_kept (zq1 BK404) hkp (fun hs_ => Or.elim hs_ (fun e_ => (fun e_ => (Kd.R_ne HO442.out BK404.out (by decide)) e_) e_) (fun e_ => (fun e_ => (Kd.R_ne HO445.out BK404.out (by decide)) e_) e_))); have n1_ := Aside0.mk (blk_kept (zq1 BK405) hkp (fun hs_ => Or.elim hs_ (fun e_ => (fun e_ => (Kd.R_ne HO442.out BK405.out (by decide)) e_) e_) (fun e_ => (fun e_ => (Kd.R_ne HO445.out BK405.out (by decide)) e_) e_))); have n2_ := Aside0.mk (Kd.R_mono (ok' := fun k_ => some k_ ≠ (.slice Ao71 t426.length co71 : Value).ownBlock ∧ some k_ ≠ (.slice Ao92 t440.length co92 : Value).ownBlock ∧ some k_ ≠ (.slice Ao93 t443.length co93 : Value).ownBlock ∧ some k_ ≠ (.slice Ao103 t448.length co103 : Value).ownBlock ∧ some k_ ≠ (.slice Ao104 t451.length co104 : Value).ownBlock) (Kd.R_keptB (HO425.out) hkp (fun k_ hk_ hs_ => Or.elim hs_ (fun e_ => (hk_.2.2.2.1) e_) (fun e_ => (hk_.2.2.2.2.1) e_))) (fun k_ hk_ => ⟨hk_.1.1, hk_.1.2.2.2.1, hk_.1.2.2.2.2.1, hk_.1.2.2.2.2.2.1, hk_.1.2.2.2.2.2.2⟩)); have n3_ := Aside0.mk (Kd.R_mono (ok' := fun k_ => some k_ ≠ (.slice Ao69 t423.length co69 : Value).ownBlock ∧ some k_ ≠ (.slice Ao92 t440.length co92 : Value).ownBlock ∧ some k_ ≠ (.slice Ao93 t443.length co93 : Value).ownBlock ∧ some k_ ≠ (.slice Ao103 t448.length co103 : Value).ownBlock ∧ some k_ ≠ (.slice Ao104 t451.length co104 : Value).ownBlock) (Kd.R_keptB (HO428.out) hkp (fun k_ hk_ hs_ => Or.elim hs_ (fun e_ => (hk_.2.2.2.1) e_) (fun e_ => (hk_.2.2.2.2.1) e_))) (fun k_ hk_ => ⟨hk_.1.1, hk_.1.2.2.2.1, hk_.1.2.2.2.2.1, hk_.1.2.2.2.2.2.1, hk_.1.2.2.2.2.2.2⟩)); have n4_ := Aside0.mk (blk_kept (zq1 BK430) hkp (fun hs_ => Or.elim hs_ (fun e_ => (fun e_ => (Kd.R_ne HO442.out BK430.out (by decide)) e_) e_) (fun e_ => (fun e_ => (Kd.R_ne HO445.out BK430.out (by decide)) e_) e_))); have n5_ := Aside0.mk (Kd.R_reok rfl hy0 (fun k_ e_ => HO442.out.1 k_ e_)); have n6_ := Aside0.mk (Kd.R_reok rfl hy1 (fun k_ e_ => HO445.out.1 k_ e_)); have n7_ := Aside0.mk (Kd.R_mono (ok' := fun k_ => some k_ ≠ (.slice Ao69 t423.length co69 : Value).ownBlock ∧ some k_ ≠ (.slice Ao71 t426.length co71 : Value).ownBlock ∧ some k_ ≠ (.slice Ao92 t440.length co92 : Value).ownBlock ∧ some k_ ≠ (.slice Ao93 t443.length co93 : Value).ownBlock ∧ some k_ ≠ (.slice Ao104 t451.length co104 : Value).ownBlock) (Kd.R_keptB (HO450.out) hkp (fun k_ hk_ hs_ => Or.elim hs_ (fun e_ => (hk_.2.2.2.2.1) e_) (fun e_ => (hk_.2.2.2.2.2.1) e_))) (fun k_ hk_ => ⟨hk_.1.1, hk_.1.2.1, hk_.1.2.2.2.2.1, hk_.1.2.2.2.2.2.1, hk_.1.2.2.2.2.2.2⟩)); have n8_ := Aside0.mk (Kd.R_mono (ok' := fun k_ => some k_ ≠ (.slice Ao69 t423.length co69 : Value).ownBlock ∧ some k_ ≠ (.slice Ao71 t426.length co71 : Value).ownBlock ∧ some k_ ≠ (.slice Ao92 t440.length co92 : Value).ownBlock ∧ some k_ ≠ (.slice Ao93 t443.length co93 : Value).ownBlock ∧ some k_ ≠ (.slice Ao103 t448.length co103 : Value).ownBlock) (Kd.R_keptB (HO453.out) hkp (fun k_ hk_ hs_ => Or.elim hs_ (fun e_ => (hk_.2.2.2.2.1) e_) (fun e_ => (hk_.2.2.2.2.2.1) e_))) (fun k_ hk_ => ⟨hk_.1.1, hk_.1.2.1, hk_.1.2.2.2.2.1, hk_.1.2.2.2.2.2.1, hk_.1.2.2.2.2.2.2⟩)); have n9_ := Aside0.mk (blk_kept (zq1 BK455) hkp (fun hs_ => Or.elim hs_ (fun e_ => (fun e_ => (Kd.R_ne HO442.out BK455.out (by decide)) e_) e_) (fun e_ => (fun e_ => (Kd.R_ne HO445.out BK455.out (by decide)) e_) e_))); have n10_ := Aside0.mk (hb); clear BK404; clear BK405; clear HO425; clear HO428; clear BK430; clear HO442 HO442F; clear HO445 HO445F; clear HO450; clear HO453; clear BK455; clear HB; have BK404 := n0_; have BK405 := n1_; have HO425 := n2_; have HO428 := n3_; have BK430 := n4_; have HO442 := n5_; have HO445 := n6_; have HO450 := n7_; have HO453 := n8_; have BK455 := n9_; have HB := n10_; clear n0_ n1_ n2_ n3_ n4_ n5_ n6_ n7_ n8_ n9_ n10_; (try clear hb); (try clear hkp); (try clear hy0); (try clear hy1); have hcz121_0 : w120.cell? ⟨gb455, 0, none⟩ = some (.int .i64 t447) := zc BK455 0; have hcz121_1 : w120.cell? ⟨gb455, 1, none⟩ = some (.slice Ao103 t448.length co103) := zc BK455 1; have hcz121_2 : w120.cell? ⟨gb455, 2, none⟩ = some (.slice Ao104 t451.length co104) := zc BK455 2; have hfz121_0 := blk_frozen BK455.out 0; have hfz121_1 := blk_frozen BK455.out 1; have hfz121_2 := blk_frozen BK455.out 2; have hcz122_0 : w120.cell? ⟨gb430, 0, none⟩ = some (.int .i64 t422) := zc BK430 0; have hcz122_1 : w120.cell? ⟨gb430, 1, none⟩ = some (.slice Ao69 t423.length co69) := zc BK430 1; have hcz122_2 : w120.cell? ⟨gb430, 2, none⟩ = some (.slice Ao71 t426.length co71) := zc BK430 2; have hfz122_0 := blk_frozen BK430.out 0; have hfz122_1 := blk_frozen BK430.out 1; have hfz122_2 := blk_frozen BK430.out 2) | (go_at_call 31; (with_reducible refine (laws_eqBox.calls k t447 _ _ t448 _ _ t451 t422 _ _ t423 _ _ t426 true _ ?side1 ?side2 ?side3 ?side4 ?side5 ?side6 ?side7 ?side8 A36.out).mono ?_); (case side1 => exact zcr HO450); (case side2 => exact (Kd.R_reads' HO450.out).2.1); (case side3 => exact zcr HO453); (case side4 => exact (Kd.R_reads' HO453.out).2.1); (case side5 => exact zcr HO425); (case side6 => exact (Kd.R_reads' HO425.out).2.1); (case side7 => exact zcr HO428); (case side8 => exact (Kd.R_reads' HO428.out).2.1); rintro e w123 ⟨rfl, hb⟩; replace HO425 := Aside0.mk (Kd.R_below (zq3 HO425) hb); replace HO428 := Aside0.mk (Kd.R_below (zq3 HO428) hb); replace HO450 := Aside0.mk (Kd.R_below (zq3 HO450) hb); replace HO453 := Aside0.mk (Kd.R_below (zq3 HO453) hb); replace BK404 := Aside0.mk (zbb BK404 hb); replace BK405 := Aside0.mk (zbb BK405 hb); replace BK430 := Aside0.mk (zbb BK430 hb); replace BK455 := Aside0.mk (zbb BK455 hb); replace HB := Aside0.mk (below_step (zb1 HB) hb); (try clear hb); (try clear hb2); (try clear hk); (try clear hi); have hcz124_0 : w123.cell? ⟨gb455, 0, none⟩ = some (.int .i64 t447) := zc BK455 0; have hcz124_1 : w123.cell? ⟨gb455, 1, none⟩ = some (.slice Ao103 t448.length co103) := zc BK455 1; have hcz124_2 : w123.cell? ⟨gb455, 2, none⟩ = some (.slice Ao104 t451.length co104) := zc BK455 2; have hfz124_0 := blk_frozen BK455.out 0; have hfz124_1 := blk_frozen BK455.out 1; have hfz124_2 := blk_frozen BK455.out 2) | ((with_reducible refine gate_callee (f := 34) rfl ?_); refine goesL_ (some 85) rfl rfl Try.func34 (by kernel_rfl) rfl #[.agg #[.int .i64 t447, .slice Ao103 t448.length co103, .slice Ao104 t451.length co104], .int .i64 101] rfl zq6 ?_; (with_reducible refine (laws_markBox.calls k t447 (fun k_ => some k_ = (.slice Ao103 t448.length co103 : Value).ownBlock) (.slice Ao103 t448.length co103) t448 (fun k_ => some k_ = (.slice Ao104 t451.length co104 : Value).ownBlock) (.slice Ao104 t451.length co104) t451 101 t480 t481 t482 w _ ?side1 ?side2 ?side3 ?side4 ?side5 A38.out).mono ?_); (case side1 => exact zb1 HB); (case side2 => exact Kd.R_tight rfl HO450.out); (case side3 => exact fun k_ e_ => (HO450.out.1 k_ e_.symm).2.2.2.2); (case side4 => exact Kd.R_tight rfl HO453.out); (case side5 => exact fun k_ e_ => (HO453.out.1 k_ e_.symm).2.2.2.2); rintro e w125 ⟨rfl, hy0, hy1, hb, hkp⟩; refine ⟨_, rfl, ?_⟩; replace BK404 := Aside0.mk (blk_kept (zq1 BK404) hkp (fun hs_ => Or.elim hs_ (fun e_ => (fun e_ => (Kd.R_ne HO450.out BK404.out (by decide)) e_) e_) (fun e_ => (fun e_ => (Kd.R_ne HO453.out BK404.out (by decide)) e_) e_))); replace BK405 := Aside0.mk (blk_kept (zq1 BK405) hkp (fun hs_ => Or.elim hs_ (fun e_ => (fun e_ => (Kd.R_ne HO450.out BK405.out (by decide)) e_) e_) (fun e_ => (fun e_ => (Kd.R_ne HO453.out BK405.out (by decide)) e_) e_))); replace HO425 := Aside0.mk (Kd.R_mono (ok' := fun k_ => some k_ ≠ (.slice Ao71 t426.length co71 : Value).ownBlock ∧ some k_ ≠ (.slice Ao103 t448.length co103 : Value).ownBlock ∧ some k_ ≠ (.slice Ao104 t451.length co104 : Value).ownBlock) (Kd.R_keptB (HO425.out) hkp (fun k_ hk_ hs_ => Or.elim hs_ (fun e_ => (hk_.2.2.2.1) e_) (fun e_ => (hk_.2.2.2.2) e_))) (fun k_ hk_ => ⟨hk_.1.1, hk_.1.2.2.2.1, hk_.1.2.2.2.2⟩)); replace HO428 := Aside0.mk (Kd.R_mono (ok' := fun k_ => some k_ ≠ (.slice Ao69 t423.length co69 : Value).ownBlock ∧ some k_ ≠ (.slice Ao103 t448.length co103 : Value).ownBlock ∧ some k_ ≠ (.slice Ao104 t451.length co104 : Value).ownBlock) (Kd.R_keptB (HO428.out) hkp (fun k_ hk_ hs_ => Or.elim hs_ (fun e_ => (hk_.2.2.2.1) e_) (fun e_ => (hk_.2.2.2.2) e_))) (fun k_ hk_ => ⟨hk_.1.1, hk_.1.2.2.2.1, hk_.1.2.2.2.2⟩)); replace BK430 := Aside0.mk (blk_kept (zq1 BK430) hkp (fun hs_ => Or.elim hs_ (fun e_ => (fun e_ => (Kd.R_ne HO450.out BK430.out (by decide)) e_) e_) (fun e_ => (fun e_ => (Kd.R_ne HO453.out BK430.out (by decide)) e_) e_))); replace BK455 := Aside0.mk (blk_kept (zq1 BK455) hkp (fun hs_ => Or.elim hs_ (fun e_ => (fun e_ => (Kd.R_ne HO450.out BK455.out (by decide)) e_) e_) (fun e_ => (fun e_ => (Kd.R_ne HO453.out BK455.out (by decide)) e_) e_))); replace HO450 := Aside0.mk (Kd.R_reok rfl hy0 (fun k_ e_ => HO450.out.1 k_ e_)); replace HO453 := Aside0.mk (Kd.R_reok rfl hy1 (fun k_ e_ => HO453.out.1 k_ e_)); replace HB := Aside0.mk (hb); (try clear hb); (try clear hkp); (try clear hy0); (try clear hy1); have hcz126_0 : w125.cell? ⟨gb455, 0, none⟩ = some (.int .i64 t447) := zc BK455 0; have hcz126_1 : w125.cell? ⟨gb455, 1, none⟩ = some (.slice Ao103 t448.length co103) := zc BK455 1; have hcz126_2 : w125.cell? ⟨gb455, 2, none⟩ = some (.slice Ao104 t451.length co104) := zc BK455 2; have hfz126_0 := blk_frozen BK455.out 0; have hfz126_1 := blk_frozen BK455.out 1; have hfz126_2 := blk_frozen BK455.out 2) | ((with_reducible refine gate_callee (f := 35) rfl ?_); refine goesL_ (some 88) rfl rfl Try.func35 (by kernel_rfl) rfl #[.agg #[.int .i64 t447, .slice Ao103 t481.length co103, .slice Ao104 t482.length co104], .int .i64 101] rfl (by (try simp only [List.map_toArray, List.map_cons, List.map_nil]); first | done | (rw [show t481.length = t448.length from (Kd.R_reads' HO450.out).1.symm, show t482.length = t451.length from (Kd.R_reads' HO453.out).1.symm] <;> rfl) | rfl | (simp only [List.length_drop, List.length_take]; rfl)) ?_; (with_reducible refine (laws_heldBox.calls k t447 _ _ t481 _ _ t482 101 t483 _ ?side1 ?side2 ?side3 ?side4 A39.out).mono ?_); (case side1 => exact zcr HO450); (case side2 => rw [show t481.length = t448.length from (Kd.R_reads' HO450.out).1.symm]; exact (Kd.R_reads' HO450.out).2.1); (case side3 => exact zcr HO453); (case side4 => rw [show t482.length = t451.length from (Kd.R_reads' HO453.out).1.symm]; exact (Kd.R_reads' HO453.out).2.1); rintro e w127 ⟨rfl, hb⟩; refine ⟨_, rfl, ?_⟩; replace HO425 := Aside0.mk (Kd.R_below (zq3 HO425) hb); replace HO428 := Aside0.mk (Kd.R_below (zq3 HO428) hb); replace HO450 := Aside0.mk (Kd.R_below (zq3 HO450) hb); replace HO453 := Aside0.mk (Kd.R_below (zq3 HO453) hb); replace BK404 := Aside0.mk (zbb BK404 hb); replace BK405 := Aside0.mk (zbb BK405 hb); replace BK430 := Aside0.mk (zbb BK430 hb); replace BK455 := Aside0.mk (zbb BK455 hb); replace HB := Aside0.mk (below_step (zb1 HB) hb); (try clear hb); (try clear hb2); (try clear hk); (try clear hi)))
               replace HO425 := Aside0.mk (Kd.R_drew HO425.out); replace HO428 := Aside0.mk (Kd.R_drew HO428.out); replace HO450 := Aside0.mk (Kd.R_drew HO450.out); replace HO453 := Aside0.mk (Kd.R_drew HO453.out); replace BK404 := Aside0.mk (blk_drew BK404.out); replace BK405 := Aside0.mk (blk_drew BK405.out); replace BK430 := Aside0.mk (blk_drew BK430.out); replace BK455 := Aside0.mk (blk_drew BK455.out); replace HB := Aside0.mk (below_drew1 HB.out)
               refine start_ (n := 11) (S := fun w' => w'.cell? ⟨gb404, 0, none⟩ = some (.int .i64 a0_0) ∧ w'.cell? ⟨gb404, 1, none⟩ = some (.slice A0_1 l0_1.length c0_1) ∧ w'.cell? ⟨gb404, 2, none⟩ = some (.slice A0_2 l0_2.length c0_2) ∧ w'.cell? ⟨gb405, 0, none⟩ = some (.int .i64 a1_0) ∧ w'.cell? ⟨gb405, 1, none⟩ = some (.slice A1_1 l1_1.length c1_1) ∧ w'.cell? ⟨gb405, 2, none⟩ = some (.slice A1_2 l1_2.length c1_2)) (ds := []) #[false, false, false, false, false, false, false, false, false, false, false] (by kernel_rfl) rfl rfl ⟨zc BK404 0, zc BK404 1, zc BK404 2, zc BK405 0, zc BK405 1, zc BK405 2⟩ (fun hHeld => ?_); refine with_tabW laws_FnExactHullOfBoxes.tab31 laws_FnExactHullOfBoxes.bits31 (fun HT_ HW_ => ?_)
               generalize w127.drew = w128 at HO425 HO428 HO450 HO453 BK404 BK405 BK430 BK455 HB hHeld ⊢
               refine take_ (i := 0) (N := some 95) (v := ?_) (a' := ?_) #[true, false, false, false, false, false, false, false, false, false, false] rfl rfl (take_ofW HT_.out HW_.out (by kernel_rfl)) (fun _ _ _ h => h) (Or.inl ⟨by rfl, ?_⟩) hHeld ?_ ?_
               rotate_left
               ·
                rintro w' ⟨s0, s1, s2, s3, s4, s5⟩
                go_simp
                with_reducible rfl
               rotate_left
               ·
                simp only [Act.put, List.setIfInBounds_toArray, List.set_cons_zero, List.set_cons_succ, i64_w, i32_w]
                rfl
               refine take_ (i := 2) (N := some 97) (v := ?_) (a' := ?_) #[true, false, true, false, false, false, false, false, false, false, false] rfl rfl (take_ofW HT_.out HW_.out (by kernel_rfl)) (fun _ _ _ h => h) (Or.inl ⟨by rfl, ?_⟩) hHeld ?_ ?_
               rotate_left
               ·
                rintro w' ⟨s0, s1, s2, s3, s4, s5⟩
                go_simp
                with_reducible rfl
               rotate_left
               ·
                simp only [Act.put, List.setIfInBounds_toArray, List.set_cons_zero, List.set_cons_succ, i64_w, i32_w]
                rfl
               refine join_ (σ := Value × Value × Value × Value × Value × Value × Nat) 2 #[true, true, true, true, true, true, true, true, true, false, false] (fun s_ => [(96, .agg #[.int .i64 t484, s_.1, s_.2.1]), (98, .agg #[.int .i64 t491, s_.2.2.1, s_.2.2.2.1]), (99, .tuple #[.agg #[.int .i64 t498, s_.2.2.2.2.1, s_.2.2.2.2.2.1], .bool t505]), (15, .pointer (some ⟨s_.2.2.2.2.2.2, 0, none⟩)), (94, .tuple #[.agg #[.int .i64 t498, s_.2.2.2.2.1, s_.2.2.2.2.2.1], .bool t505]), (100, .agg #[.int .i64 t498, s_.2.2.2.2.1, s_.2.2.2.2.2.1]), (101, .bool t505)]) (fun s_ w' => (w'.cell? ⟨gb404, 0, none⟩ = some (.int .i64 a0_0) ∧ w'.cell? ⟨gb404, 1, none⟩ = some (.slice A0_1 l0_1.length c0_1) ∧ w'.cell? ⟨gb404, 2, none⟩ = some (.slice A0_2 l0_2.length c0_2) ∧ w'.cell? ⟨gb405, 0, none⟩ = some (.int .i64 a1_0) ∧ w'.cell? ⟨gb405, 1, none⟩ = some (.slice A1_1 l1_1.length c1_1) ∧ w'.cell? ⟨gb405, 2, none⟩ = some (.slice A1_2 l1_2.length c1_2)) ∧ (Kd.R (Kd.int .i64) 3 w' w.heap.size (fun k_ => some k_ ≠ (.slice Ao71 t426.length co71 : Value).ownBlock ∧ some k_ ≠ (.slice Ao103 t448.length co103 : Value).ownBlock ∧ some k_ ≠ (.slice Ao104 t451.length co104 : Value).ownBlock ∧ some k_ ≠ (s_.1 : Value).ownBlock ∧ some k_ ≠ (s_.2.1 : Value).ownBlock ∧ some k_ ≠ (s_.2.2.1 : Value).ownBlock ∧ some k_ ≠ (s_.2.2.2.1 : Value).ownBlock ∧ some k_ ≠ (s_.2.2.2.2.1 : Value).ownBlock ∧ some k_ ≠ (s_.2.2.2.2.2.1 : Value).ownBlock) (.slice Ao69 t423.length co69) t423) ∧ (Kd.R (Kd.int .i64) 3 w' w.heap.size (fun k_ => some k_ ≠ (.slice Ao69 t423.length co69 : Value).ownBlock ∧ some k_ ≠ (.slice Ao103 t448.length co103 : Value).ownBlock ∧ some k_ ≠ (.slice Ao104 t451.length co104 : Value).ownBlock ∧ some k_ ≠ (s_.1 : Value).ownBlock ∧ some k_ ≠ (s_.2.1 : Value).ownBlock ∧ some k_ ≠ (s_.2.2.1 : Value).ownBlock ∧ some k_ ≠ (s_.2.2.2.1 : Value).ownBlock ∧ some k_ ≠ (s_.2.2.2.2.1 : Value).ownBlock ∧ some k_ ≠ (s_.2.2.2.2.2.1 : Value).ownBlock) (.slice Ao71 t426.length co71) t426) ∧ (Kd.R (Kd.int .i64) 3 w' w.heap.size (fun k_ => some k_ ≠ (.slice Ao69 t423.length co69 : Value).ownBlock ∧ some k_ ≠ (.slice Ao71 t426.length co71 : Value).ownBlock ∧ some k_ ≠ (.slice Ao104 t451.length co104 : Value).ownBlock ∧ some k_ ≠ (s_.1 : Value).ownBlock ∧ some k_ ≠ (s_.2.1 : Value).ownBlock ∧ some k_ ≠ (s_.2.2.1 : Value).ownBlock ∧ some k_ ≠ (s_.2.2.2.1 : Value).ownBlock ∧ some k_ ≠ (s_.2.2.2.2.1 : Value).ownBlock ∧ some k_ ≠ (s_.2.2.2.2.2.1 : Value).ownBlock) (.slice Ao103 t448.length co103) t481) ∧ (Kd.R (Kd.int .i64) 3 w' w.heap.size (fun k_ => some k_ ≠ (.slice Ao69 t423.length co69 : Value).ownBlock ∧ some k_ ≠ (.slice Ao71 t426.length co71 : Value).ownBlock ∧ some k_ ≠ (.slice Ao103 t448.length co103 : Value).ownBlock ∧ some k_ ≠ (s_.1 : Value).ownBlock ∧ some k_ ≠ (s_.2.1 : Value).ownBlock ∧ some k_ ≠ (s_.2.2.1 : Value).ownBlock ∧ some k_ ≠ (s_.2.2.2.1 : Value).ownBlock ∧ some k_ ≠ (s_.2.2.2.2.1 : Value).ownBlock ∧ some k_ ≠ (s_.2.2.2.2.2.1 : Value).ownBlock) (.slice Ao104 t451.length co104) t482) ∧ (Kd.R (Kd.int .i64) 3 w' w.heap.size (fun k_ => some k_ ≠ (.slice Ao69 t423.length co69 : Value).ownBlock ∧ some k_ ≠ (.slice Ao71 t426.length co71 : Value).ownBlock ∧ some k_ ≠ (.slice Ao103 t448.length co103 : Value).ownBlock ∧ some k_ ≠ (.slice Ao104 t451.length co104 : Value).ownBlock ∧ some k_ ≠ (s_.2.1 : Value).ownBlock ∧ some k_ ≠ (s_.2.2.1 : Value).ownBlock ∧ some k_ ≠ (s_.2.2.2.1 : Value).ownBlock ∧ some k_ ≠ (s_.2.2.2.2.1 : Value).ownBlock ∧ some k_ ≠ (s_.2.2.2.2.2.1 : Value).ownBlock) s_.1 t485) ∧ (Kd.R (Kd.int .i64) 3 w' w.heap.size (fun k_ => some k_ ≠ (.slice Ao69 t423.length co69 : Value).ownBlock ∧ some k_ ≠ (.slice Ao71 t426.length co71 : Value).ownBlock ∧ some k_ ≠ (.slice Ao103 t448.length co103 : Value).ownBlock ∧ some k_ ≠ (.slice Ao104 t451.length co104 : Value).ownBlock ∧ some k_ ≠ (s_.1 : Value).ownBlock ∧ some k_ ≠ (s_.2.2.1 : Value).ownBlock ∧ some k_ ≠ (s_.2.2.2.1 : Value).ownBlock ∧ some k_ ≠ (s_.2.2.2.2.1 : Value).ownBlock ∧ some k_ ≠ (s_.2.2.2.2.2.1 : Value).ownBlock) s_.2.1 t488) ∧ (Kd.R (Kd.int .i64) 3 w' w.heap.size (fun k_ => some k_ ≠ (.slice Ao69 t423.length co69 : Value).ownBlock ∧ some k_ ≠ (.slice Ao71 t426.length co71 : Value).ownBlock ∧ some k_ ≠ (.slice Ao103 t448.length co103 : Value).ownBlock ∧ some k_ ≠ (.slice Ao104 t451.length co104 : Value).ownBlock ∧ some k_ ≠ (s_.1 : Value).ownBlock ∧ some k_ ≠ (s_.2.1 : Value).ownBlock ∧ some k_ ≠ (s_.2.2.2.1 : Value).ownBlock ∧ some k_ ≠ (s_.2.2.2.2.1 : Value).ownBlock ∧ some k_ ≠ (s_.2.2.2.2.2.1 : Value).ownBlock) s_.2.2.1 t492) ∧ (Kd.R (Kd.int .i64) 3 w' w.heap.size (fun k_ => some k_ ≠ (.slice Ao69 t423.length co69 : Value).ownBlock ∧ some k_ ≠ (.slice Ao71 t426.length co71 : Value).ownBlock ∧ some k_ ≠ (.slice Ao103 t448.length co103 : Value).ownBlock ∧ some k_ ≠ (.slice Ao104 t451.length co104 : Value).ownBlock ∧ some k_ ≠ (s_.1 : Value).ownBlock ∧ some k_ ≠ (s_.2.1 : Value).ownBlock ∧ some k_ ≠ (s_.2.2.1 : Value).ownBlock ∧ some k_ ≠ (s_.2.2.2.2.1 : Value).ownBlock ∧ some k_ ≠ (s_.2.2.2.2.2.1 : Value).ownBlock) s_.2.2.2.1 t495) ∧ (Kd.R (Kd.int .i64) 3 w' w.heap.size (fun k_ => some k_ ≠ (.slice Ao69 t423.length co69 : Value).ownBlock ∧ some k_ ≠ (.slice Ao71 t426.length co71 : Value).ownBlock ∧ some k_ ≠ (.slice Ao103 t448.length co103 : Value).ownBlock ∧ some k_ ≠ (.slice Ao104 t451.length co104 : Value).ownBlock ∧ some k_ ≠ (s_.1 : Value).ownBlock ∧ some k_ ≠ (s_.2.1 : Value).ownBlock ∧ some k_ ≠ (s_.2.2.1 : Value).ownBlock ∧ some k_ ≠ (s_.2.2.2.1 : Value).ownBlock ∧ some k_ ≠ (s_.2.2.2.2.2.1 : Value).ownBlock) s_.2.2.2.2.1 t499) ∧ (Kd.R (Kd.int .i64) 3 w' w.heap.size (fun k_ => some k_ ≠ (.slice Ao69 t423.length co69 : Value).ownBlock ∧ some k_ ≠ (.slice Ao71 t426.length co71 : Value).ownBlock ∧ some k_ ≠ (.slice Ao103 t448.length co103 : Value).ownBlock ∧ some k_ ≠ (.slice Ao104 t451.length co104 : Value).ownBlock ∧ some k_ ≠ (s_.1 : Value).ownBlock ∧ some k_ ≠ (s_.2.1 : Value).ownBlock ∧ some k_ ≠ (s_.2.2.1 : Value).ownBlock ∧ some k_ ≠ (s_.2.2.2.1 : Value).ownBlock ∧ some k_ ≠ (s_.2.2.2.2.1 : Value).ownBlock) s_.2.2.2.2.2.1 t502) ∧ (w'.heap[gb404]? = some (.cells #[.int .i64 a0_0, .slice A0_1 l0_1.length c0_1, .slice A0_2 l0_2.length c0_2] 24 (0, 0))) ∧ (w'.heap[gb405]? = some (.cells #[.int .i64 a1_0, .slice A1_1 l1_1.length c1_1, .slice A1_2 l1_2.length c1_2] 24 (0, 0))) ∧ (w'.heap[gb430]? = some (.cells #[.int .i64 t422, .slice Ao69 t423.length co69, .slice Ao71 t426.length co71] 27 (0, 0))) ∧ (w'.heap[gb455]? = some (.cells #[.int .i64 t447, .slice Ao103 t448.length co103, .slice Ao104 t451.length co104] 27 (0, 0))) ∧ (w'.heap[s_.2.2.2.2.2.2]? = some (.cells #[.int .i64 0, .slice none 0 0, .slice none 0 0] 27 (0, 0))) ∧ (w.heap.size ≤ s_.2.2.2.2.2.2) ∧ (w.heap.size ≤ s_.2.2.2.2.2.2) ∧ (gb404 ≠ s_.2.2.2.2.2.2) ∧ (s_.2.2.2.2.2.2 ≠ gb404) ∧ (gb405 ≠ s_.2.2.2.2.2.2) ∧ (s_.2.2.2.2.2.2 ≠ gb405) ∧ (gb430 ≠ s_.2.2.2.2.2.2) ∧ (s_.2.2.2.2.2.2 ≠ gb430) ∧ (gb455 ≠ s_.2.2.2.2.2.2) ∧ (s_.2.2.2.2.2.2 ≠ gb455) ∧ (Below w.heap.size w w')) ?_ ?_
               rotate_left
               ·
                intro hCont
                refine two_ (i := 1) (j := 8) (Ni := some 96) (Nj := some 15) #[true, true, true, false, false, false, false, false, false, false, false] #[true, false, true, false, false, false, false, false, true, false, false] rfl rfl rfl rfl (two_of HT_.out (by kernel_rfl)) (by decide) (by decide) (fun K hK => ?_) (fun K hK => ?_)
                ·
                 refine goes_ Try.func16 (by kernel_rfl) rfl #[.agg #[.int .i64 a0_0, .slice A0_1 l0_1.length c0_1, .slice A0_2 l0_2.length c0_2], .bool true] (by rfl) rfl rfl zq6 ?_
                 with_reducible refine (laws_toBox.calls k a0_0 _ _ l0_1 _ _ l0_2 true t484 t485 t488 _ ?side1 ?side2 ?side3 ?side4 A42.out).mono ?_
                 (case side1 => exact zcs HR0_1 HB)
                 (case side2 => exact HC0_1.out)
                 (case side3 => exact zcs HR0_2 HB)
                 (case side4 => exact HC0_2.out)
                 rintro e w129 ⟨v486, v489, rfl, ho0, ho1, hb, ho0F, ho1F⟩
                 refine ⟨_, rfl, ?_⟩
                 have n0_ := Aside0.mk (zt2 (zq3 HO425) hb ho0 ho1)
                 have n1_ := Aside0.mk (zt2 (zq3 HO428) hb ho0 ho1)
                 have n2_ := Aside0.mk (zt2 (zq3 HO450) hb ho0 ho1)
                 have n3_ := Aside0.mk (zt2 (zq3 HO453) hb ho0 ho1)
                 have n4_ := Aside0.mk (Kd.R_lower (zn (zn (zn (zn ho0 HO425) HO428) HO450) HO453) (below_size (zb1 HB)))
                 have n4F_ := Aside0.mk (Kd.R_lower (zn (zn (zn (zn ho0F HO425) HO428) HO450) HO453) (below_size (zb1 HB)))
                 have n5_ := Aside0.mk (Kd.R_lower (zn (zn (zn (zn ho1 HO425) HO428) HO450) HO453) (below_size (zb1 HB)))
                 have n5F_ := Aside0.mk (Kd.R_lower (zn (zn (zn (zn ho1F HO425) HO428) HO450) HO453) (below_size (zb1 HB)))
                 have n6_ := Aside0.mk (zbb BK404 hb)
                 have n7_ := Aside0.mk (zbb BK405 hb)
                 have n8_ := Aside0.mk (zbb BK430 hb)
                 have n9_ := Aside0.mk (zbb BK455 hb)
                 have n10_ := Aside0.mk (below_step (zb1 HB) hb)
                 clear HO425 HO428 HO450 HO453 BK404 BK405 BK430 BK455 HB
                 have HO425 := n0_; have HO428 := n1_; have HO450 := n2_; have HO453 := n3_; have HO487 := n4_; have HO487F := n4F_; have HO490 := n5_; have HO490F := n5F_; have BK404 := n6_; have BK405 := n7_; have BK430 := n8_; have BK455 := n9_; have HB := n10_
                 clear n0_ n1_ n2_ n3_ n4_ n5_ n6_ n7_ n8_ n9_ n10_ n4F_ n5F_
                 (try clear hb)
                 (try clear hb2)
                 (try clear hk)
                 (try clear hi)
                 (try clear ho0)
                 (try clear ho0F)
                 (try clear ho1)
                 (try clear ho1F)
                 refine hK.out _ _ ⟨zc BK404 0, zc BK404 1, zc BK404 2, zc BK405 0, zc BK405 1, zc BK405 2⟩ (fun hHeld => ?_)
                 clear hK K
                 refine norm_ (a' := ?_) ?_ ?_
                 rotate_left
                 ·
                  show Act.put _ (some 96) _ = _
                  simp only [Act.put, List.setIfInBounds_toArray, List.set_cons_zero, List.set_cons_succ, i64_w, i32_w]; rfl
                 refine two_ (i := 3) (j := 8) (Ni := some 98) (Nj := some 15) #[true, true, true, true, false, false, false, false, false, false, false] #[true, true, true, false, false, false, false, false, true, false, false] rfl rfl rfl rfl (two_of HT_.out (by kernel_rfl)) (by decide) (by decide) (fun K hK => ?_) (fun K hK => ?_)
                 ·
                  refine goes_ Try.func16 (by kernel_rfl) rfl #[.agg #[.int .i64 a1_0, .slice A1_1 l1_1.length c1_1, .slice A1_2 l1_2.length c1_2], .bool true] (by rfl) rfl rfl zq6 ?_
                  with_reducible refine (laws_toBox.calls k a1_0 _ _ l1_1 _ _ l1_2 true t491 t492 t495 _ ?side1 ?side2 ?side3 ?side4 A43.out).mono ?_
                  (case side1 => exact zcs HR1_1 HB)
                  (case side2 => exact HC1_1.out)
                  (case side3 => exact zcs HR1_2 HB)
                  (case side4 => exact HC1_2.out)
                  rintro e w130 ⟨v493, v496, rfl, ho0, ho1, hb, ho0F, ho1F⟩
                  refine ⟨_, rfl, ?_⟩
                  have n0_ := Aside0.mk (zt2 (zq3 HO425) hb ho0 ho1)
                  have n1_ := Aside0.mk (zt2 (zq3 HO428) hb ho0 ho1)
                  have n2_ := Aside0.mk (zt2 (zq3 HO450) hb ho0 ho1)
                  have n3_ := Aside0.mk (zt2 (zq3 HO453) hb ho0 ho1)
                  have n4_ := Aside0.mk (zt2 (zq3 HO487) hb ho0 ho1)
                  have n4F_ := Aside0.mk (zt2 (zq3 HO487F) hb ho0 ho1)
                  have n5_ := Aside0.mk (zt2 (zq3 HO490) hb ho0 ho1)
                  have n5F_ := Aside0.mk (zt2 (zq3 HO490F) hb ho0 ho1)
                  have n6_ := Aside0.mk (Kd.R_lower (zn (zn (zn (zn (zn (zn ho0 HO425) HO428) HO450) HO453) HO487) HO490) (below_size (zb1 HB)))
                  have n6F_ := Aside0.mk (Kd.R_lower (zn (zn (zn (zn (zn (zn ho0F HO425) HO428) HO450) HO453) HO487) HO490) (below_size (zb1 HB)))
                  have n7_ := Aside0.mk (Kd.R_lower (zn (zn (zn (zn (zn (zn ho1 HO425) HO428) HO450) HO453) HO487) HO490) (below_size (zb1 HB)))
                  have n7F_ := Aside0.mk (Kd.R_lower (zn (zn (zn (zn (zn (zn ho1F HO425) HO428) HO450) HO453) HO487) HO490) (below_size (zb1 HB)))
                  have n8_ := Aside0.mk (zbb BK404 hb)
                  have n9_ := Aside0.mk (zbb BK405 hb)
                  have n10_ := Aside0.mk (zbb BK430 hb)
                  have n11_ := Aside0.mk (zbb BK455 hb)
                  have n12_ := Aside0.mk (below_step (zb1 HB) hb)
                  clear HO425 HO428 HO450 HO453 HO487 HO487F HO490 HO490F BK404 BK405 BK430 BK455 HB
                  have HO425 := n0_; have HO428 := n1_; have HO450 := n2_; have HO453 := n3_; have HO487 := n4_; have HO487F := n4F_; have HO490 := n5_; have HO490F := n5F_; have HO494 := n6_; have HO494F := n6F_; have HO497 := n7_; have HO497F := n7F_; have BK404 := n8_; have BK405 := n9_; have BK430 := n10_; have BK455 := n11_; have HB := n12_
                  clear n0_ n1_ n2_ n3_ n4_ n5_ n6_ n7_ n8_ n9_ n10_ n11_ n12_ n4F_ n5F_ n6F_ n7F_
                  (try clear hb)
                  (try clear hb2)
                  (try clear hk)
                  (try clear hi)
                  (try clear ho0)
                  (try clear ho0F)
                  (try clear ho1)
                  (try clear ho1F)
                  obtain ⟨Ao131, co131, eo131⟩ := Kd.R_slice HO487.out
                  (first | subst eo131 | (injection eo131 with f1_ f2_ f3_; have f4_ := f1_.symm; have f5_ := f3_.symm; clear f1_ f2_ f3_; subst f4_; subst f5_))
                  obtain ⟨Ao132, co132, eo132⟩ := Kd.R_slice HO490.out
                  (first | subst eo132 | (injection eo132 with f1_ f2_ f3_; have f4_ := f1_.symm; have f5_ := f3_.symm; clear f1_ f2_ f3_; subst f4_; subst f5_))
                  obtain ⟨Ao133, co133, eo133⟩ := Kd.R_slice HO494.out
                  (first | subst eo133 | (injection eo133 with f1_ f2_ f3_; have f4_ := f1_.symm; have f5_ := f3_.symm; clear f1_ f2_ f3_; subst f4_; subst f5_))
                  obtain ⟨Ao134, co134, eo134⟩ := Kd.R_slice HO497.out
                  (first | subst eo134 | (injection eo134 with f1_ f2_ f3_; have f4_ := f1_.symm; have f5_ := f3_.symm; clear f1_ f2_ f3_; subst f4_; subst f5_))
                  refine hK.out _ _ ⟨zc BK404 0, zc BK404 1, zc BK404 2, zc BK405 0, zc BK405 1, zc BK405 2⟩ (fun hHeld => ?_)
                  clear hK K
                  refine norm_ (a' := ?_) ?_ ?_
                  rotate_left
                  ·
                   show Act.put _ (some 98) _ = _
                   simp only [Act.put, List.setIfInBounds_toArray, List.set_cons_zero, List.set_cons_succ, i64_w, i32_w]; rfl
                  refine two_ (i := 4) (j := 8) (Ni := some 99) (Nj := some 15) #[true, true, true, true, true, false, false, false, false, false, false] #[true, true, true, true, false, false, false, false, true, false, false] rfl rfl rfl rfl (two_of HT_.out (by kernel_rfl)) (by decide) (by decide) (fun K hK => ?_) (fun K hK => ?_)
                  ·
                   refine goes_ Try.func42 (by kernel_rfl) rfl #[.agg #[.int .i64 t484, .slice Ao131 t485.length co131, .slice Ao132 t488.length co132], .agg #[.int .i64 t491, .slice Ao133 t492.length co133, .slice Ao134 t495.length co134]] (by rfl) rfl rfl zq6 ?_
                   with_reducible refine (impl_HullOfBoxes.calls k t484 _ _ t485 _ _ t488 t491 _ _ t492 _ _ t495 t498 t499 t502 t505 _ ?side1 ?side2 ?side3 ?side4 ?side5 ?side6 ?side7 ?side8 A44.out).mono ?_
                   (case side1 => exact zcr HO487)
                   (case side2 => exact (Kd.R_reads' HO487.out).2.1)
                   (case side3 => exact zcr HO490)
                   (case side4 => exact (Kd.R_reads' HO490.out).2.1)
                   (case side5 => exact zcr HO494)
                   (case side6 => exact (Kd.R_reads' HO494.out).2.1)
                   (case side7 => exact zcr HO497)
                   (case side8 => exact (Kd.R_reads' HO497.out).2.1)
                   rintro e w135 ⟨v500, v503, rfl, ho0, ho1, hb⟩
                   refine ⟨_, rfl, ?_⟩
                   have n0_ := Aside0.mk (zt2 (zq3 HO425) hb ho0 ho1)
                   have n1_ := Aside0.mk (zt2 (zq3 HO428) hb ho0 ho1)
                   have n2_ := Aside0.mk (zt2 (zq3 HO450) hb ho0 ho1)
                   have n3_ := Aside0.mk (zt2 (zq3 HO453) hb ho0 ho1)
                   have n4_ := Aside0.mk (zt2 (zq3 HO487) hb ho0 ho1)
                   have n4F_ := Aside0.mk (zt2 (zq3 HO487F) hb ho0 ho1)
                   have n5_ := Aside0.mk (zt2 (zq3 HO490) hb ho0 ho1)
                   have n5F_ := Aside0.mk (zt2 (zq3 HO490F) hb ho0 ho1)
                   have n6_ := Aside0.mk (zt2 (zq3 HO494) hb ho0 ho1)
                   have n6F_ := Aside0.mk (zt2 (zq3 HO494F) hb ho0 ho1)
                   have n7_ := Aside0.mk (zt2 (zq3 HO497) hb ho0 ho1)
                   have n7F_ := Aside0.mk (zt2 (zq3 HO497F) hb ho0 ho1)
                   have n8_ := Aside0.mk (Kd.R_lower (zn (zn (zn (zn (zn (zn (zn (zn ho0 HO425) HO428) HO450) HO453) HO487) HO490) HO494) HO497) (below_size (zb1 HB)))
                   have n9_ := Aside0.mk (Kd.R_lower (zn (zn (zn (zn (zn (zn (zn (zn ho1 HO425) HO428) HO450) HO453) HO487) HO490) HO494) HO497) (below_size (zb1 HB)))
                   have n10_ := Aside0.mk (zbb BK404 hb)
                   have n11_ := Aside0.mk (zbb BK405 hb)
                   have n12_ := Aside0.mk (zbb BK430 hb)
                   have n13_ := Aside0.mk (zbb BK455 hb)
                   have n14_ := Aside0.mk (below_step (zb1 HB) hb)
                   clear HO425 HO428 HO450 HO453 HO487 HO487F HO490 HO490F HO494 HO494F HO497 HO497F BK404 BK405 BK430 BK455 HB
                   have HO425 := n0_; have HO428 := n1_; have HO450 := n2_; have HO453 := n3_; have HO487 := n4_; have HO487F := n4F_; have HO490 := n5_; have HO490F := n5F_; have HO494 := n6_; have HO494F := n6F_; have HO497 := n7_; have HO497F := n7F_; have HO501 := n8_; have HO504 := n9_; have BK404 := n10_; have BK405 := n11_; have BK430 := n12_; have BK455 := n13_; have HB := n14_
                   clear n0_ n1_ n2_ n3_ n4_ n5_ n6_ n7_ n8_ n9_ n10_ n11_ n12_ n13_ n14_ n4F_ n5F_ n6F_ n7F_
                   (try clear hb)
                   (try clear hb2)
                   (try clear hk)
                   (try clear hi)
                   (try clear ho0)
                   (try clear ho1)
                   refine hK.out _ _ ⟨zc BK404 0, zc BK404 1, zc BK404 2, zc BK405 0, zc BK405 1, zc BK405 2⟩ (fun hHeld => ?_)
                   clear hK K
                   refine norm_ (a' := ?_) ?_ ?_
                   rotate_left
                   ·
                    show Act.put _ (some 99) _ = _
                    simp only [Act.put, List.setIfInBounds_toArray, List.set_cons_zero, List.set_cons_succ, i64_w, i32_w]; rfl
                   refine zp (i := 5) (N := some 94) #[true, true, true, true, true, true, false, false, false, false, false] (any_of HT_.out (by kernel_rfl)) ?_
                   refine zp (i := 6) (N := some 100) #[true, true, true, true, true, true, true, false, false, false, false] (any_of HT_.out (by kernel_rfl)) ?_
                   refine zp (i := 7) (N := some 101) #[true, true, true, true, true, true, true, true, false, false, false] (any_of HT_.out (by kernel_rfl)) ?_
                   refine one_ (i := 8) (N := some 15) #[true, true, true, true, true, true, true, true, true, false, false] rfl rfl (one_of HT_.out (by kernel_rfl)) (by decide) (fun K hK => ?_)
                   refine box_step ?hg (N := 15) ?hd (cs := #[.int .i64 0, .slice none 0 0, .slice none 0 0]) (t := 27) ?hr ?_; (case hd => rfl); (case hg => rfl); (case hr => first | (go_simp; done) | (go_simp; rfl))
                   intro gb506 hg w136 hbox hb
                   have n0_ := Aside0.mk (Kd.R_below (zq3 HO425) hb)
                   have n1_ := Aside0.mk (Kd.R_below (zq3 HO428) hb)
                   have n2_ := Aside0.mk (Kd.R_below (zq3 HO450) hb)
                   have n3_ := Aside0.mk (Kd.R_below (zq3 HO453) hb)
                   have n4_ := Aside0.mk (Kd.R_below (zq3 HO487) hb)
                   have n4F_ := Aside0.mk (Kd.R_below (zq3 HO487F) hb)
                   have n5_ := Aside0.mk (Kd.R_below (zq3 HO490) hb)
                   have n5F_ := Aside0.mk (Kd.R_below (zq3 HO490F) hb)
                   have n6_ := Aside0.mk (Kd.R_below (zq3 HO494) hb)
                   have n6F_ := Aside0.mk (Kd.R_below (zq3 HO494F) hb)
                   have n7_ := Aside0.mk (Kd.R_below (zq3 HO497) hb)
                   have n7F_ := Aside0.mk (Kd.R_below (zq3 HO497F) hb)
                   have n8_ := Aside0.mk (Kd.R_below (zq3 HO501) hb)
                   have n9_ := Aside0.mk (Kd.R_below (zq3 HO504) hb)
                   have n10_ := Aside0.mk (zbb BK404 hb)
                   have n11_ := Aside0.mk (zbb BK405 hb)
                   have n12_ := Aside0.mk (zbb BK430 hb)
                   have n13_ := Aside0.mk (zbb BK455 hb)
                   have n14_ := Aside0.mk (below_step (zb1 HB) hb)
                   have n15_ := Aside0.mk (hbox)
                   have n16_ := Aside0.mk (zge (zb1 HB) hg)
                   have n17_ := Aside0.mk (zge (zb1 HB) hg)
                   have n18_ := Aside0.mk (zlt BK404 hg)
                   have n19_ := Aside0.mk (zgt BK404 hg)
                   have n20_ := Aside0.mk (zlt BK405 hg)
                   have n21_ := Aside0.mk (zgt BK405 hg)
                   have n22_ := Aside0.mk (zlt BK430 hg)
                   have n23_ := Aside0.mk (zgt BK430 hg)
                   have n24_ := Aside0.mk (zlt BK455 hg)
                   have n25_ := Aside0.mk (zgt BK455 hg)
                   clear HO425 HO428 HO450 HO453 HO487 HO487F HO490 HO490F HO494 HO494F HO497 HO497F HO501 HO504 BK404 BK405 BK430 BK455 HB
                   have HO425 := n0_; have HO428 := n1_; have HO450 := n2_; have HO453 := n3_; have HO487 := n4_; have HO487F := n4F_; have HO490 := n5_; have HO490F := n5F_; have HO494 := n6_; have HO494F := n6F_; have HO497 := n7_; have HO497F := n7F_; have HO501 := n8_; have HO504 := n9_; have BK404 := n10_; have BK405 := n11_; have BK430 := n12_; have BK455 := n13_; have HB := n14_; have BK506 := n15_; have GW506 := n16_; have GE506 := n17_; have NB404_506 := n18_; have NB506_404 := n19_; have NB405_506 := n20_; have NB506_405 := n21_; have NB430_506 := n22_; have NB506_430 := n23_; have NB455_506 := n24_; have NB506_455 := n25_
                   clear n0_ n1_ n2_ n3_ n4_ n5_ n6_ n7_ n8_ n9_ n10_ n11_ n12_ n13_ n14_ n15_ n16_ n17_ n18_ n19_ n20_ n21_ n22_ n23_ n24_ n25_ n4F_ n5F_ n6F_ n7F_ hb hbox hg
                   refine hK.out _ _ ⟨zc BK404 0, zc BK404 1, zc BK404 2, zc BK405 0, zc BK405 1, zc BK405 2⟩ (fun hHeld => ?_)
                   clear hK K
                   refine norm_ (a' := ?_) ?_ ?_
                   rotate_left
                   ·
                    show Act.put _ (some 15) _ = _
                    simp only [Act.put, List.setIfInBounds_toArray, List.set_cons_zero, List.set_cons_succ, i64_w, i32_w]; rfl
                   exact norm_ (by simp only [putAll, Act.put, List.setIfInBounds_toArray, List.set_cons_zero, List.set_cons_succ]) (hCont (.slice Ao131 t485.length co131, .slice Ao132 t488.length co132, .slice Ao133 t492.length co133, .slice Ao134 t495.length co134, v500, v503, gb506) _ ⟨hHeld, (zqm HO425), (zqm HO428), (zqm HO450), (zqm HO453), (zqm HO487), (zqm HO490), (zqm HO494), (zqm HO497), (zqm HO501), (zqm HO504), (zq1 BK404), (zq1 BK405), (zq1 BK430), (zq1 BK455), (zq1 BK506), GW506.out, GE506.out, NB404_506.out, NB506_404.out, NB405_506.out, NB506_405.out, NB430_506.out, NB506_430.out, NB455_506.out, NB506_455.out, (zb1 HB)⟩)
                  ·
                   refine box_step ?hg (N := 15) ?hd (cs := #[.int .i64 0, .slice none 0 0, .slice none 0 0]) (t := 27) ?hr ?_; (case hd => rfl); (case hg => rfl); (case hr => first | (go_simp; done) | (go_simp; rfl))
                   intro gb506 hg w131 hbox hb
                   have n0_ := Aside0.mk (Kd.R_below (zq3 HO425) hb)
                   have n1_ := Aside0.mk (Kd.R_below (zq3 HO428) hb)
                   have n2_ := Aside0.mk (Kd.R_below (zq3 HO450) hb)
                   have n3_ := Aside0.mk (Kd.R_below (zq3 HO453) hb)
                   have n4_ := Aside0.mk (Kd.R_below (zq3 HO487) hb)
                   have n4F_ := Aside0.mk (Kd.R_below (zq3 HO487F) hb)
                   have n5_ := Aside0.mk (Kd.R_below (zq3 HO490) hb)
                   have n5F_ := Aside0.mk (Kd.R_below (zq3 HO490F) hb)
                   have n6_ := Aside0.mk (Kd.R_below (zq3 HO494) hb)
                   have n6F_ := Aside0.mk (Kd.R_below (zq3 HO494F) hb)
                   have n7_ := Aside0.mk (Kd.R_below (zq3 HO497) hb)
                   have n7F_ := Aside0.mk (Kd.R_below (zq3 HO497F) hb)
                   have n8_ := Aside0.mk (zbb BK404 hb)
                   have n9_ := Aside0.mk (zbb BK405 hb)
                   have n10_ := Aside0.mk (zbb BK430 hb)
                   have n11_ := Aside0.mk (zbb BK455 hb)
                   have n12_ := Aside0.mk (below_step (zb1 HB) hb)
                   have n13_ := Aside0.mk (hbox)
                   have n14_ := Aside0.mk (zge (zb1 HB) hg)
                   have n15_ := Aside0.mk (zge (zb1 HB) hg)
                   have n16_ := Aside0.mk (zlt BK404 hg)
                   have n17_ := Aside0.mk (zgt BK404 hg)
                   have n18_ := Aside0.mk (zlt BK405 hg)
                   have n19_ := Aside0.mk (zgt BK405 hg)
                   have n20_ := Aside0.mk (zlt BK430 hg)
                   have n21_ := Aside0.mk (zgt BK430 hg)
                   have n22_ := Aside0.mk (zlt BK455 hg)
                   have n23_ := Aside0.mk (zgt BK455 hg)
                   clear HO425 HO428 HO450 HO453 HO487 HO487F HO490 HO490F HO494 HO494F HO497 HO497F BK404 BK405 BK430 BK455 HB
                   have HO425 := n0_; have HO428 := n1_; have HO450 := n2_; have HO453 := n3_; have HO487 := n4_; have HO487F := n4F_; have HO490 := n5_; have HO490F := n5F_; have HO494 := n6_; have HO494F := n6F_; have HO497 := n7_; have HO497F := n7F_; have BK404 := n8_; have BK405 := n9_; have BK430 := n10_; have BK455 := n11_; have HB := n12_; have BK506 := n13_; have GW506 := n14_; have GE506 := n15_; have NB404_506 := n16_; have NB506_404 := n17_; have NB405_506 := n18_; have NB506_405 := n19_; have NB430_506 := n20_; have NB506_430 := n21_; have NB455_506 := n22_; have NB506_455 := n23_
                   clear n0_ n1_ n2_ n3_ n4_ n5_ n6_ n7_ n8_ n9_ n10_ n11_ n12_ n13_ n14_ n15_ n16_ n17_ n18_ n19_ n20_ n21_ n22_ n23_ n4F_ n5F_ n6F_ n7F_ hb hbox hg
                   obtain ⟨Ao132, co132, eo132⟩ := Kd.R_slice HO487.out
                   (first | subst eo132 | (injection eo132 with f1_ f2_ f3_; have f4_ := f1_.symm; have f5_ := f3_.symm; clear f1_ f2_ f3_; subst f4_; subst f5_))
                   obtain ⟨Ao133, co133, eo133⟩ := Kd.R_slice HO490.out
                   (first | subst eo133 | (injection eo133 with f1_ f2_ f3_; have f4_ := f1_.symm; have f5_ := f3_.symm; clear f1_ f2_ f3_; subst f4_; subst f5_))
                   obtain ⟨Ao134, co134, eo134⟩ := Kd.R_slice HO494.out
                   (first | subst eo134 | (injection eo134 with f1_ f2_ f3_; have f4_ := f1_.symm; have f5_ := f3_.symm; clear f1_ f2_ f3_; subst f4_; subst f5_))
                   obtain ⟨Ao135, co135, eo135⟩ := Kd.R_slice HO497.out
                   (first | subst eo135 | (injection eo135 with f1_ f2_ f3_; have f4_ := f1_.symm; have f5_ := f3_.symm; clear f1_ f2_ f3_; subst f4_; subst f5_))
                   refine hK.out _ _ ⟨zc BK404 0, zc BK404 1, zc BK404 2, zc BK405 0, zc BK405 1, zc BK405 2⟩ (fun hHeld => ?_)
                   clear hK K
                   refine norm_ (a' := ?_) ?_ ?_
                   rotate_left
                   ·
                    show Act.put _ (some 15) _ = _
                    simp only [Act.put, List.setIfInBounds_toArray, List.set_cons_zero, List.set_cons_succ, i64_w, i32_w]; rfl
                   refine one_ (i := 4) (N := some 99) #[true, true, true, true, true, false, false, false, true, false, false] rfl rfl (one_of HT_.out (by kernel_rfl)) (by decide) (fun K hK => ?_)
                   refine goes_ Try.func42 (by kernel_rfl) rfl #[.agg #[.int .i64 t484, .slice Ao132 t485.length co132, .slice Ao133 t488.length co133], .agg #[.int .i64 t491, .slice Ao134 t492.length co134, .slice Ao135 t495.length co135]] (by rfl) rfl rfl zq6 ?_
                   with_reducible refine (impl_HullOfBoxes.calls k t484 _ _ t485 _ _ t488 t491 _ _ t492 _ _ t495 t498 t499 t502 t505 _ ?side1 ?side2 ?side3 ?side4 ?side5 ?side6 ?side7 ?side8 A44.out).mono ?_
                   (case side1 => exact zcr HO487)
                   (case side2 => exact (Kd.R_reads' HO487.out).2.1)
                   (case side3 => exact zcr HO490)
                   (case side4 => exact (Kd.R_reads' HO490.out).2.1)
                   (case side5 => exact zcr HO494)
                   (case side6 => exact (Kd.R_reads' HO494.out).2.1)
                   (case side7 => exact zcr HO497)
                   (case side8 => exact (Kd.R_reads' HO497.out).2.1)
                   rintro e w136 ⟨v500, v503, rfl, ho0, ho1, hb⟩
                   refine ⟨_, rfl, ?_⟩
                   have n0_ := Aside0.mk (zt2 (zq3 HO425) hb ho0 ho1)
                   have n1_ := Aside0.mk (zt2 (zq3 HO428) hb ho0 ho1)
                   have n2_ := Aside0.mk (zt2 (zq3 HO450) hb ho0 ho1)
                   have n3_ := Aside0.mk (zt2 (zq3 HO453) hb ho0 ho1)
                   have n4_ := Aside0.mk (zt2 (zq3 HO487) hb ho0 ho1)
                   have n4F_ := Aside0.mk (zt2 (zq3 HO487F) hb ho0 ho1)
                   have n5_ := Aside0.mk (zt2 (zq3 HO490) hb ho0 ho1)
                   have n5F_ := Aside0.mk (zt2 (zq3 HO490F) hb ho0 ho1)
                   have n6_ := Aside0.mk (zt2 (zq3 HO494) hb ho0 ho1)
                   have n6F_ := Aside0.mk (zt2 (zq3 HO494F) hb ho0 ho1)
                   have n7_ := Aside0.mk (zt2 (zq3 HO497) hb ho0 ho1)
                   have n7F_ := Aside0.mk (zt2 (zq3 HO497F) hb ho0 ho1)
                   have n8_ := Aside0.mk (Kd.R_lower (zn (zn (zn (zn (zn (zn (zn (zn ho0 HO425) HO428) HO450) HO453) HO487) HO490) HO494) HO497) (below_size (zb1 HB)))
                   have n9_ := Aside0.mk (Kd.R_lower (zn (zn (zn (zn (zn (zn (zn (zn ho1 HO425) HO428) HO450) HO453) HO487) HO490) HO494) HO497) (below_size (zb1 HB)))
                   have n10_ := Aside0.mk (zbb BK404 hb)
                   have n11_ := Aside0.mk (zbb BK405 hb)
                   have n12_ := Aside0.mk (zbb BK430 hb)
                   have n13_ := Aside0.mk (zbb BK455 hb)
                   have n14_ := Aside0.mk (zbb BK506 hb)
                   have n15_ := Aside0.mk (below_step (zb1 HB) hb)
                   clear HO425 HO428 HO450 HO453 HO487 HO487F HO490 HO490F HO494 HO494F HO497 HO497F BK404 BK405 BK430 BK455 BK506 HB
                   have HO425 := n0_; have HO428 := n1_; have HO450 := n2_; have HO453 := n3_; have HO487 := n4_; have HO487F := n4F_; have HO490 := n5_; have HO490F := n5F_; have HO494 := n6_; have HO494F := n6F_; have HO497 := n7_; have HO497F := n7F_; have HO501 := n8_; have HO504 := n9_; have BK404 := n10_; have BK405 := n11_; have BK430 := n12_; have BK455 := n13_; have BK506 := n14_; have HB := n15_
                   clear n0_ n1_ n2_ n3_ n4_ n5_ n6_ n7_ n8_ n9_ n10_ n11_ n12_ n13_ n14_ n15_ n4F_ n5F_ n6F_ n7F_
                   (try clear hb)
                   (try clear hb2)
                   (try clear hk)
                   (try clear hi)
                   (try clear ho0)
                   (try clear ho1)
                   refine hK.out _ _ ⟨zc BK404 0, zc BK404 1, zc BK404 2, zc BK405 0, zc BK405 1, zc BK405 2⟩ (fun hHeld => ?_)
                   clear hK K
                   refine norm_ (a' := ?_) ?_ ?_
                   rotate_left
                   ·
                    show Act.put _ (some 99) _ = _
                    simp only [Act.put, List.setIfInBounds_toArray, List.set_cons_zero, List.set_cons_succ, i64_w, i32_w]; rfl
                   refine zp (i := 5) (N := some 94) #[true, true, true, true, true, true, false, false, true, false, false] (any_of HT_.out (by kernel_rfl)) ?_
                   refine zp (i := 6) (N := some 100) #[true, true, true, true, true, true, true, false, true, false, false] (any_of HT_.out (by kernel_rfl)) ?_
                   refine zp (i := 7) (N := some 101) #[true, true, true, true, true, true, true, true, true, false, false] (any_of HT_.out (by kernel_rfl)) ?_
                   exact norm_ (by simp only [putAll, Act.put, List.setIfInBounds_toArray, List.set_cons_zero, List.set_cons_succ]) (hCont (.slice Ao132 t485.length co132, .slice Ao133 t488.length co133, .slice Ao134 t492.length co134, .slice Ao135 t495.length co135, v500, v503, gb506) _ ⟨hHeld, (zqm HO425), (zqm HO428), (zqm HO450), (zqm HO453), (zqm HO487), (zqm HO490), (zqm HO494), (zqm HO497), (zqm HO501), (zqm HO504), (zq1 BK404), (zq1 BK405), (zq1 BK430), (zq1 BK455), (zq1 BK506), GW506.out, GE506.out, NB404_506.out, NB506_404.out, NB405_506.out, NB506_405.out, NB430_506.out, NB506_430.out, NB455_506.out, NB506_455.out, (zb1 HB)⟩)
                 ·
                  refine box_step ?hg (N := 15) ?hd (cs := #[.int .i64 0, .slice none 0 0, .slice none 0 0]) (t := 27) ?hr ?_; (case hd => rfl); (case hg => rfl); (case hr => first | (go_simp; done) | (go_simp; rfl))
                  intro gb506 hg w130 hbox hb
                  have n0_ := Aside0.mk (Kd.R_below (zq3 HO425) hb)
                  have n1_ := Aside0.mk (Kd.R_below (zq3 HO428) hb)
                  have n2_ := Aside0.mk (Kd.R_below (zq3 HO450) hb)
                  have n3_ := Aside0.mk (Kd.R_below (zq3 HO453) hb)
                  have n4_ := Aside0.mk (Kd.R_below (zq3 HO487) hb)
                  have n4F_ := Aside0.mk (Kd.R_below (zq3 HO487F) hb)
                  have n5_ := Aside0.mk (Kd.R_below (zq3 HO490) hb)
                  have n5F_ := Aside0.mk (Kd.R_below (zq3 HO490F) hb)
                  have n6_ := Aside0.mk (zbb BK404 hb)
                  have n7_ := Aside0.mk (zbb BK405 hb)
                  have n8_ := Aside0.mk (zbb BK430 hb)
                  have n9_ := Aside0.mk (zbb BK455 hb)
                  have n10_ := Aside0.mk (below_step (zb1 HB) hb)
                  have n11_ := Aside0.mk (hbox)
                  have n12_ := Aside0.mk (zge (zb1 HB) hg)
                  have n13_ := Aside0.mk (zge (zb1 HB) hg)
                  have n14_ := Aside0.mk (zlt BK404 hg)
                  have n15_ := Aside0.mk (zgt BK404 hg)
                  have n16_ := Aside0.mk (zlt BK405 hg)
                  have n17_ := Aside0.mk (zgt BK405 hg)
                  have n18_ := Aside0.mk (zlt BK430 hg)
                  have n19_ := Aside0.mk (zgt BK430 hg)
                  have n20_ := Aside0.mk (zlt BK455 hg)
                  have n21_ := Aside0.mk (zgt BK455 hg)
                  clear HO425 HO428 HO450 HO453 HO487 HO487F HO490 HO490F BK404 BK405 BK430 BK455 HB
                  have HO425 := n0_; have HO428 := n1_; have HO450 := n2_; have HO453 := n3_; have HO487 := n4_; have HO487F := n4F_; have HO490 := n5_; have HO490F := n5F_; have BK404 := n6_; have BK405 := n7_; have BK430 := n8_; have BK455 := n9_; have HB := n10_; have BK506 := n11_; have GW506 := n12_; have GE506 := n13_; have NB404_506 := n14_; have NB506_404 := n15_; have NB405_506 := n16_; have NB506_405 := n17_; have NB430_506 := n18_; have NB506_430 := n19_; have NB455_506 := n20_; have NB506_455 := n21_
                  clear n0_ n1_ n2_ n3_ n4_ n5_ n6_ n7_ n8_ n9_ n10_ n11_ n12_ n13_ n14_ n15_ n16_ n17_ n18_ n19_ n20_ n21_ n4F_ n5F_ hb hbox hg
                  refine hK.out _ _ ⟨zc BK404 0, zc BK404 1, zc BK404 2, zc BK405 0, zc BK405 1, zc BK405 2⟩ (fun hHeld => ?_)
                  clear hK K
                  refine norm_ (a' := ?_) ?_ ?_
                  rotate_left
                  ·
                   show Act.put _ (some 15) _ = _
                   simp only [Act.put, List.setIfInBounds_toArray, List.set_cons_zero, List.set_cons_succ, i64_w, i32_w]; rfl
                  refine one_ (i := 3) (N := some 98) #[true, true, true, true, false, false, false, false, true, false, false] rfl rfl (one_of HT_.out (by kernel_rfl)) (by decide) (fun K hK => ?_)
                  refine goes_ Try.func16 (by kernel_rfl) rfl #[.agg #[.int .i64 a1_0, .slice A1_1 l1_1.length c1_1, .slice A1_2 l1_2.length c1_2], .bool true] (by rfl) rfl rfl zq6 ?_
                  with_reducible refine (laws_toBox.calls k a1_0 _ _ l1_1 _ _ l1_2 true t491 t492 t495 _ ?side1 ?side2 ?side3 ?side4 A43.out).mono ?_
                  (case side1 => exact zcs HR1_1 HB)
                  (case side2 => exact HC1_1.out)
                  (case side3 => exact zcs HR1_2 HB)
                  (case side4 => exact HC1_2.out)
                  rintro e w131 ⟨v493, v496, rfl, ho0, ho1, hb, ho0F, ho1F⟩
                  refine ⟨_, rfl, ?_⟩
                  have n0_ := Aside0.mk (zt2 (zq3 HO425) hb ho0 ho1)
                  have n1_ := Aside0.mk (zt2 (zq3 HO428) hb ho0 ho1)
                  have n2_ := Aside0.mk (zt2 (zq3 HO450) hb ho0 ho1)
                  have n3_ := Aside0.mk (zt2 (zq3 HO453) hb ho0 ho1)
                  have n4_ := Aside0.mk (zt2 (zq3 HO487) hb ho0 ho1)
                  have n4F_ := Aside0.mk (zt2 (zq3 HO487F) hb ho0 ho1)
                  have n5_ := Aside0.mk (zt2 (zq3 HO490) hb ho0 ho1)
                  have n5F_ := Aside0.mk (zt2 (zq3 HO490F) hb ho0 ho1)
                  have n6_ := Aside0.mk (Kd.R_lower (zn (zn (zn (zn (zn (zn ho0 HO425) HO428) HO450) HO453) HO487) HO490) (below_size (zb1 HB)))
                  have n6F_ := Aside0.mk (Kd.R_lower (zn (zn (zn (zn (zn (zn ho0F HO425) HO428) HO450) HO453) HO487) HO490) (below_size (zb1 HB)))
                  have n7_ := Aside0.mk (Kd.R_lower (zn (zn (zn (zn (zn (zn ho1 HO425) HO428) HO450) HO453) HO487) HO490) (below_size (zb1 HB)))
                  have n7F_ := Aside0.mk (Kd.R_lower (zn (zn (zn (zn (zn (zn ho1F HO425) HO428) HO450) HO453) HO487) HO490) (below_size (zb1 HB)))
                  have n8_ := Aside0.mk (zbb BK404 hb)
                  have n9_ := Aside0.mk (zbb BK405 hb)
                  have n10_ := Aside0.mk (zbb BK430 hb)
                  have n11_ := Aside0.mk (zbb BK455 hb)
                  have n12_ := Aside0.mk (zbb BK506 hb)
                  have n13_ := Aside0.mk (below_step (zb1 HB) hb)
                  clear HO425 HO428 HO450 HO453 HO487 HO487F HO490 HO490F BK404 BK405 BK430 BK455 BK506 HB
                  have HO425 := n0_; have HO428 := n1_; have HO450 := n2_; have HO453 := n3_; have HO487 := n4_; have HO487F := n4F_; have HO490 := n5_; have HO490F := n5F_; have HO494 := n6_; have HO494F := n6F_; have HO497 := n7_; have HO497F := n7F_; have BK404 := n8_; have BK405 := n9_; have BK430 := n10_; have BK455 := n11_; have BK506 := n12_; have HB := n13_
                  clear n0_ n1_ n2_ n3_ n4_ n5_ n6_ n7_ n8_ n9_ n10_ n11_ n12_ n13_ n4F_ n5F_ n6F_ n7F_
                  (try clear hb)
                  (try clear hb2)
                  (try clear hk)
                  (try clear hi)
                  (try clear ho0)
                  (try clear ho0F)
                  (try clear ho1)
                  (try clear ho1F)
                  obtain ⟨Ao132, co132, eo132⟩ := Kd.R_slice HO487.out
                  (first | subst eo132 | (injection eo132 with f1_ f2_ f3_; have f4_ := f1_.symm; have f5_ := f3_.symm; clear f1_ f2_ f3_; subst f4_; subst f5_))
                  obtain ⟨Ao133, co133, eo133⟩ := Kd.R_slice HO490.out
                  (first | subst eo133 | (injection eo133 with f1_ f2_ f3_; have f4_ := f1_.symm; have f5_ := f3_.symm; clear f1_ f2_ f3_; subst f4_; subst f5_))
                  obtain ⟨Ao134, co134, eo134⟩ := Kd.R_slice HO494.out
                  (first | subst eo134 | (injection eo134 with f1_ f2_ f3_; have f4_ := f1_.symm; have f5_ := f3_.symm; clear f1_ f2_ f3_; subst f4_; subst f5_))
                  obtain ⟨Ao135, co135, eo135⟩ := Kd.R_slice HO497.out
                  (first | subst eo135 | (injection eo135 with f1_ f2_ f3_; have f4_ := f1_.symm; have f5_ := f3_.symm; clear f1_ f2_ f3_; subst f4_; subst f5_))
                  refine hK.out _ _ ⟨zc BK404 0, zc BK404 1, zc BK404 2, zc BK405 0, zc BK405 1, zc BK405 2⟩ (fun hHeld => ?_)
                  clear hK K
                  refine norm_ (a' := ?_) ?_ ?_
                  rotate_left
                  ·
                   show Act.put _ (some 98) _ = _
                   simp only [Act.put, List.setIfInBounds_toArray, List.set_cons_zero, List.set_cons_succ, i64_w, i32_w]; rfl
                  refine one_ (i := 4) (N := some 99) #[true, true, true, true, true, false, false, false, true, false, false] rfl rfl (one_of HT_.out (by kernel_rfl)) (by decide) (fun K hK => ?_)
                  refine goes_ Try.func42 (by kernel_rfl) rfl #[.agg #[.int .i64 t484, .slice Ao132 t485.length co132, .slice Ao133 t488.length co133], .agg #[.int .i64 t491, .slice Ao134 t492.length co134, .slice Ao135 t495.length co135]] (by rfl) rfl rfl zq6 ?_
                  with_reducible refine (impl_HullOfBoxes.calls k t484 _ _ t485 _ _ t488 t491 _ _ t492 _ _ t495 t498 t499 t502 t505 _ ?side1 ?side2 ?side3 ?side4 ?side5 ?side6 ?side7 ?side8 A44.out).mono ?_
                  (case side1 => exact zcr HO487)
                  (case side2 => exact (Kd.R_reads' HO487.out).2.1)
                  (case side3 => exact zcr HO490)
                  (case side4 => exact (Kd.R_reads' HO490.out).2.1)
                  (case side5 => exact zcr HO494)
                  (case side6 => exact (Kd.R_reads' HO494.out).2.1)
                  (case side7 => exact zcr HO497)
                  (case side8 => exact (Kd.R_reads' HO497.out).2.1)
                  rintro e w136 ⟨v500, v503, rfl, ho0, ho1, hb⟩
                  refine ⟨_, rfl, ?_⟩
                  have n0_ := Aside0.mk (zt2 (zq3 HO425) hb ho0 ho1)
                  have n1_ := Aside0.mk (zt2 (zq3 HO428) hb ho0 ho1)
                  have n2_ := Aside0.mk (zt2 (zq3 HO450) hb ho0 ho1)
                  have n3_ := Aside0.mk (zt2 (zq3 HO453) hb ho0 ho1)
                  have n4_ := Aside0.mk (zt2 (zq3 HO487) hb ho0 ho1)
                  have n4F_ := Aside0.mk (zt2 (zq3 HO487F) hb ho0 ho1)
                  have n5_ := Aside0.mk (zt2 (zq3 HO490) hb ho0 ho1)
                  have n5F_ := Aside0.mk (zt2 (zq3 HO490F) hb ho0 ho1)
                  have n6_ := Aside0.mk (zt2 (zq3 HO494) hb ho0 ho1)
                  have n6F_ := Aside0.mk (zt2 (zq3 HO494F) hb ho0 ho1)
                  have n7_ := Aside0.mk (zt2 (zq3 HO497) hb ho0 ho1)
                  have n7F_ := Aside0.mk (zt2 (zq3 HO497F) hb ho0 ho1)
                  have n8_ := Aside0.mk (Kd.R_lower (zn (zn (zn (zn (zn (zn (zn (zn ho0 HO425) HO428) HO450) HO453) HO487) HO490) HO494) HO497) (below_size (zb1 HB)))
                  have n9_ := Aside0.mk (Kd.R_lower (zn (zn (zn (zn (zn (zn (zn (zn ho1 HO425) HO428) HO450) HO453) HO487) HO490) HO494) HO497) (below_size (zb1 HB)))
                  have n10_ := Aside0.mk (zbb BK404 hb)
                  have n11_ := Aside0.mk (zbb BK405 hb)
                  have n12_ := Aside0.mk (zbb BK430 hb)
                  have n13_ := Aside0.mk (zbb BK455 hb)
                  have n14_ := Aside0.mk (zbb BK506 hb)
                  have n15_ := Aside0.mk (below_step (zb1 HB) hb)
                  clear HO425 HO428 HO450 HO453 HO487 HO487F HO490 HO490F HO494 HO494F HO497 HO497F BK404 BK405 BK430 BK455 BK506 HB
                  have HO425 := n0_; have HO428 := n1_; have HO450 := n2_; have HO453 := n3_; have HO487 := n4_; have HO487F := n4F_; have HO490 := n5_; have HO490F := n5F_; have HO494 := n6_; have HO494F := n6F_; have HO497 := n7_; have HO497F := n7F_; have HO501 := n8_; have HO504 := n9_; have BK404 := n10_; have BK405 := n11_; have BK430 := n12_; have BK455 := n13_; have BK506 := n14_; have HB := n15_
                  clear n0_ n1_ n2_ n3_ n4_ n5_ n6_ n7_ n8_ n9_ n10_ n11_ n12_ n13_ n14_ n15_ n4F_ n5F_ n6F_ n7F_
                  (try clear hb)
                  (try clear hb2)
                  (try clear hk)
                  (try clear hi)
                  (try clear ho0)
                  (try clear ho1)
                  refine hK.out _ _ ⟨zc BK404 0, zc BK404 1, zc BK404 2, zc BK405 0, zc BK405 1, zc BK405 2⟩ (fun hHeld => ?_)
                  clear hK K
                  refine norm_ (a' := ?_) ?_ ?_
                  rotate_left
                  ·
                   show Act.put _ (some 99) _ = _
                   simp only [Act.put, List.setIfInBounds_toArray, List.set_cons_zero, List.set_cons_succ, i64_w, i32_w]; rfl
                  refine zp (i := 5) (N := some 94) #[true, true, true, true, true, true, false, false, true, false, false] (any_of HT_.out (by kernel_rfl)) ?_
                  refine zp (i := 6) (N := some 100) #[true, true, true, true, true, true, true, false, true, false, false] (any_of HT_.out (by kernel_rfl)) ?_
                  refine zp (i := 7) (N := some 101) #[true, true, true, true, true, true, true, true, true, false, false] (any_of HT_.out (by kernel_rfl)) ?_
                  exact norm_ (by simp only [putAll, Act.put, List.setIfInBounds_toArray, List.set_cons_zero, List.set_cons_succ]) (hCont (.slice Ao132 t485.length co132, .slice Ao133 t488.length co133, .slice Ao134 t492.length co134, .slice Ao135 t495.length co135, v500, v503, gb506) _ ⟨hHeld, (zqm HO425), (zqm HO428), (zqm HO450), (zqm HO453), (zqm HO487), (zqm HO490), (zqm HO494), (zqm HO497), (zqm HO501), (zqm HO504), (zq1 BK404), (zq1 BK405), (zq1 BK430), (zq1 BK455), (zq1 BK506), GW506.out, GE506.out, NB404_506.out, NB506_404.out, NB405_506.out, NB506_405.out, NB430_506.out, NB506_430.out, NB455_506.out, NB506_455.out, (zb1 HB)⟩)
                ·
                 refine box_step ?hg (N := 15) ?hd (cs := #[.int .i64 0, .slice none 0 0, .slice none 0 0]) (t := 27) ?hr ?_; (case hd => rfl); (case hg => rfl); (case hr => first | (go_simp; done) | (go_simp; rfl))
                 intro gb506 hg w129 hbox hb
                 have n0_ := Aside0.mk (Kd.R_below (zq3 HO425) hb)
                 have n1_ := Aside0.mk (Kd.R_below (zq3 HO428) hb)
                 have n2_ := Aside0.mk (Kd.R_below (zq3 HO450) hb)
                 have n3_ := Aside0.mk (Kd.R_below (zq3 HO453) hb)
                 have n4_ := Aside0.mk (zbb BK404 hb)
                 have n5_ := Aside0.mk (zbb BK405 hb)
                 have n6_ := Aside0.mk (zbb BK430 hb)
                 have n7_ := Aside0.mk (zbb BK455 hb)
                 have n8_ := Aside0.mk (below_step (zb1 HB) hb)
                 have BK506 := Aside0.mk (hbox)
                 have GW506 := Aside0.mk (zge (zb1 HB) hg)
                 have GE506 := Aside0.mk (zge (zb1 HB) hg)
                 have NB404_506 := Aside0.mk (zlt BK404 hg)
                 have NB506_404 := Aside0.mk (zgt BK404 hg)
                 have NB405_506 := Aside0.mk (zlt BK405 hg)
                 have NB506_405 := Aside0.mk (zgt BK405 hg)
                 have NB430_506 := Aside0.mk (zlt BK430 hg)
                 have NB506_430 := Aside0.mk (zgt BK430 hg)
                 have NB455_506 := Aside0.mk (zlt BK455 hg)
                 have NB506_455 := Aside0.mk (zgt BK455 hg)
                 clear HO425 HO428 HO450 HO453 BK404 BK405 BK430 BK455 HB
                 have HO425 := n0_; have HO428 := n1_; have HO450 := n2_; have HO453 := n3_; have BK404 := n4_; have BK405 := n5_; have BK430 := n6_; have BK455 := n7_; have HB := n8_
                 clear n0_ n1_ n2_ n3_ n4_ n5_ n6_ n7_ n8_ hb hbox hg
                 refine hK.out _ _ ⟨zc BK404 0, zc BK404 1, zc BK404 2, zc BK405 0, zc BK405 1, zc BK405 2⟩ (fun hHeld => ?_)
                 clear hK K
                 refine norm_ (a' := ?_) ?_ ?_
                 rotate_left
                 ·
                  show Act.put _ (some 15) _ = _
                  simp only [Act.put, List.setIfInBounds_toArray, List.set_cons_zero, List.set_cons_succ, i64_w, i32_w]; rfl
                 refine one_ (i := 1) (N := some 96) #[true, true, true, false, false, false, false, false, true, false, false] rfl rfl (one_of HT_.out (by kernel_rfl)) (by decide) (fun K hK => ?_)
                 refine goes_ Try.func16 (by kernel_rfl) rfl #[.agg #[.int .i64 a0_0, .slice A0_1 l0_1.length c0_1, .slice A0_2 l0_2.length c0_2], .bool true] (by rfl) rfl rfl zq6 ?_
                 with_reducible refine (laws_toBox.calls k a0_0 _ _ l0_1 _ _ l0_2 true t484 t485 t488 _ ?side1 ?side2 ?side3 ?side4 A42.out).mono ?_
                 (case side1 => exact zcs HR0_1 HB)
                 (case side2 => exact HC0_1.out)
                 (case side3 => exact zcs HR0_2 HB)
                 (case side4 => exact HC0_2.out)
                 rintro e w130 ⟨v486, v489, rfl, ho0, ho1, hb, ho0F, ho1F⟩
                 refine ⟨_, rfl, ?_⟩
                 have n0_ := Aside0.mk (zt2 (zq3 HO425) hb ho0 ho1)
                 have n1_ := Aside0.mk (zt2 (zq3 HO428) hb ho0 ho1)
                 have n2_ := Aside0.mk (zt2 (zq3 HO450) hb ho0 ho1)
                 have n3_ := Aside0.mk (zt2 (zq3 HO453) hb ho0 ho1)
                 have n4_ := Aside0.mk (Kd.R_lower (zn (zn (zn (zn ho0 HO425) HO428) HO450) HO453) (below_size (zb1 HB)))
                 have n4F_ := Aside0.mk (Kd.R_lower (zn (zn (zn (zn ho0F HO425) HO428) HO450) HO453) (below_size (zb1 HB)))
                 have n5_ := Aside0.mk (Kd.R_lower (zn (zn (zn (zn ho1 HO425) HO428) HO450) HO453) (below_size (zb1 HB)))
                 have n5F_ := Aside0.mk (Kd.R_lower (zn (zn (zn (zn ho1F HO425) HO428) HO450) HO453) (below_size (zb1 HB)))
                 have n6_ := Aside0.mk (zbb BK404 hb)
                 have n7_ := Aside0.mk (zbb BK405 hb)
                 have n8_ := Aside0.mk (zbb BK430 hb)
                 have n9_ := Aside0.mk (zbb BK455 hb)
                 have n10_ := Aside0.mk (zbb BK506 hb)
                 have n11_ := Aside0.mk (below_step (zb1 HB) hb)
                 clear HO425 HO428 HO450 HO453 BK404 BK405 BK430 BK455 BK506 HB
                 have HO425 := n0_; have HO428 := n1_; have HO450 := n2_; have HO453 := n3_; have HO487 := n4_; have HO487F := n4F_; have HO490 := n5_; have HO490F := n5F_; have BK404 := n6_; have BK405 := n7_; have BK430 := n8_; have BK455 := n9_; have BK506 := n10_; have HB := n11_
                 clear n0_ n1_ n2_ n3_ n4_ n5_ n6_ n7_ n8_ n9_ n10_ n11_ n4F_ n5F_
                 (try clear hb)
                 (try clear hb2)
                 (try clear hk)
                 (try clear hi)
                 (try clear ho0)
                 (try clear ho0F)
                 (try clear ho1)
                 (try clear ho1F)
                 refine hK.out _ _ ⟨zc BK404 0, zc BK404 1, zc BK404 2, zc BK405 0, zc BK405 1, zc BK405 2⟩ (fun hHeld => ?_)
                 clear hK K
                 refine norm_ (a' := ?_) ?_ ?_
                 rotate_left
                 ·
                  show Act.put _ (some 96) _ = _
                  simp only [Act.put, List.setIfInBounds_toArray, List.set_cons_zero, List.set_cons_succ, i64_w, i32_w]; rfl
                 refine one_ (i := 3) (N := some 98) #[true, true, true, true, false, false, false, false, true, false, false] rfl rfl (one_of HT_.out (by kernel_rfl)) (by decide) (fun K hK => ?_)
                 refine goes_ Try.func16 (by kernel_rfl) rfl #[.agg #[.int .i64 a1_0, .slice A1_1 l1_1.length c1_1, .slice A1_2 l1_2.length c1_2], .bool true] (by rfl) rfl rfl zq6 ?_
                 with_reducible refine (laws_toBox.calls k a1_0 _ _ l1_1 _ _ l1_2 true t491 t492 t495 _ ?side1 ?side2 ?side3 ?side4 A43.out).mono ?_
                 (case side1 => exact zcs HR1_1 HB)
                 (case side2 => exact HC1_1.out)
                 (case side3 => exact zcs HR1_2 HB)
                 (case side4 => exact HC1_2.out)
                 rintro e w131 ⟨v493, v496, rfl, ho0, ho1, hb, ho0F, ho1F⟩
                 refine ⟨_, rfl, ?_⟩
                 have n0_ := Aside0.mk (zt2 (zq3 HO425) hb ho0 ho1)
                 have n1_ := Aside0.mk (zt2 (zq3 HO428) hb ho0 ho1)
                 have n2_ := Aside0.mk (zt2 (zq3 HO450) hb ho0 ho1)
                 have n3_ := Aside0.mk (zt2 (zq3 HO453) hb ho0 ho1)
                 have n4_ := Aside0.mk (zt2 (zq3 HO487) hb ho0 ho1)
                 have n4F_ := Aside0.mk (zt2 (zq3 HO487F) hb ho0 ho1)
                 have n5_ := Aside0.mk (zt2 (zq3 HO490) hb ho0 ho1)
                 have n5F_ := Aside0.mk (zt2 (zq3 HO490F) hb ho0 ho1)
                 have n6_ := Aside0.mk (Kd.R_lower (zn (zn (zn (zn (zn (zn ho0 HO425) HO428) HO450) HO453) HO487) HO490) (below_size (zb1 HB)))
                 have n6F_ := Aside0.mk (Kd.R_lower (zn (zn (zn (zn (zn (zn ho0F HO425) HO428) HO450) HO453) HO487) HO490) (below_size (zb1 HB)))
                 have n7_ := Aside0.mk (Kd.R_lower (zn (zn (zn (zn (zn (zn ho1 HO425) HO428) HO450) HO453) HO487) HO490) (below_size (zb1 HB)))
                 have n7F_ := Aside0.mk (Kd.R_lower (zn (zn (zn (zn (zn (zn ho1F HO425) HO428) HO450) HO453) HO487) HO490) (below_size (zb1 HB)))
                 have n8_ := Aside0.mk (zbb BK404 hb)
                 have n9_ := Aside0.mk (zbb BK405 hb)
                 have n10_ := Aside0.mk (zbb BK430 hb)
                 have n11_ := Aside0.mk (zbb BK455 hb)
                 have n12_ := Aside0.mk (zbb BK506 hb)
                 have n13_ := Aside0.mk (below_step (zb1 HB) hb)
                 clear HO425 HO428 HO450 HO453 HO487 HO487F HO490 HO490F BK404 BK405 BK430 BK455 BK506 HB
                 have HO425 := n0_; have HO428 := n1_; have HO450 := n2_; have HO453 := n3_; have HO487 := n4_; have HO487F := n4F_; have HO490 := n5_; have HO490F := n5F_; have HO494 := n6_; have HO494F := n6F_; have HO497 := n7_; have HO497F := n7F_; have BK404 := n8_; have BK405 := n9_; have BK430 := n10_; have BK455 := n11_; have BK506 := n12_; have HB := n13_
                 clear n0_ n1_ n2_ n3_ n4_ n5_ n6_ n7_ n8_ n9_ n10_ n11_ n12_ n13_ n4F_ n5F_ n6F_ n7F_
                 (try clear hb)
                 (try clear hb2)
                 (try clear hk)
                 (try clear hi)
                 (try clear ho0)
                 (try clear ho0F)
                 (try clear ho1)
                 (try clear ho1F)
                 obtain ⟨Ao132, co132, eo132⟩ := Kd.R_slice HO487.out
                 (first | subst eo132 | (injection eo132 with f1_ f2_ f3_; have f4_ := f1_.symm; have f5_ := f3_.symm; clear f1_ f2_ f3_; subst f4_; subst f5_))
                 obtain ⟨Ao133, co133, eo133⟩ := Kd.R_slice HO490.out
                 (first | subst eo133 | (injection eo133 with f1_ f2_ f3_; have f4_ := f1_.symm; have f5_ := f3_.symm; clear f1_ f2_ f3_; subst f4_; subst f5_))
                 obtain ⟨Ao134, co134, eo134⟩ := Kd.R_slice HO494.out
                 (first | subst eo134 | (injection eo134 with f1_ f2_ f3_; have f4_ := f1_.symm; have f5_ := f3_.symm; clear f1_ f2_ f3_; subst f4_; subst f5_))
                 obtain ⟨Ao135, co135, eo135⟩ := Kd.R_slice HO497.out
                 (first | subst eo135 | (injection eo135 with f1_ f2_ f3_; have f4_ := f1_.symm; have f5_ := f3_.symm; clear f1_ f2_ f3_; subst f4_; subst f5_))
                 refine hK.out _ _ ⟨zc BK404 0, zc BK404 1, zc BK404 2, zc BK405 0, zc BK405 1, zc BK405 2⟩ (fun hHeld => ?_)
                 clear hK K
                 refine norm_ (a' := ?_) ?_ ?_
                 rotate_left
                 ·
                  show Act.put _ (some 98) _ = _
                  simp only [Act.put, List.setIfInBounds_toArray, List.set_cons_zero, List.set_cons_succ, i64_w, i32_w]; rfl
                 refine one_ (i := 4) (N := some 99) #[true, true, true, true, true, false, false, false, true, false, false] rfl rfl (one_of HT_.out (by kernel_rfl)) (by decide) (fun K hK => ?_)
                 refine goes_ Try.func42 (by kernel_rfl) rfl #[.agg #[.int .i64 t484, .slice Ao132 t485.length co132, .slice Ao133 t488.length co133], .agg #[.int .i64 t491, .slice Ao134 t492.length co134, .slice Ao135 t495.length co135]] (by rfl) rfl rfl zq6 ?_
                 with_reducible refine (impl_HullOfBoxes.calls k t484 _ _ t485 _ _ t488 t491 _ _ t492 _ _ t495 t498 t499 t502 t505 _ ?side1 ?side2 ?side3 ?side4 ?side5 ?side6 ?side7 ?side8 A44.out).mono ?_
                 (case side1 => exact zcr HO487)
                 (case side2 => exact (Kd.R_reads' HO487.out).2.1)
                 (case side3 => exact zcr HO490)
                 (case side4 => exact (Kd.R_reads' HO490.out).2.1)
                 (case side5 => exact zcr HO494)
                 (case side6 => exact (Kd.R_reads' HO494.out).2.1)
                 (case side7 => exact zcr HO497)
                 (case side8 => exact (Kd.R_reads' HO497.out).2.1)
                 rintro e w136 ⟨v500, v503, rfl, ho0, ho1, hb⟩
                 refine ⟨_, rfl, ?_⟩
                 have n0_ := Aside0.mk (zt2 (zq3 HO425) hb ho0 ho1)
                 have n1_ := Aside0.mk (zt2 (zq3 HO428) hb ho0 ho1)
                 have n2_ := Aside0.mk (zt2 (zq3 HO450) hb ho0 ho1)
                 have n3_ := Aside0.mk (zt2 (zq3 HO453) hb ho0 ho1)
                 have n4_ := Aside0.mk (zt2 (zq3 HO487) hb ho0 ho1)
                 have n4F_ := Aside0.mk (zt2 (zq3 HO487F) hb ho0 ho1)
                 have n5_ := Aside0.mk (zt2 (zq3 HO490) hb ho0 ho1)
                 have n5F_ := Aside0.mk (zt2 (zq3 HO490F) hb ho0 ho1)
                 have n6_ := Aside0.mk (zt2 (zq3 HO494) hb ho0 ho1)
                 have n6F_ := Aside0.mk (zt2 (zq3 HO494F) hb ho0 ho1)
                 have n7_ := Aside0.mk (zt2 (zq3 HO497) hb ho0 ho1)
                 have n7F_ := Aside0.mk (zt2 (zq3 HO497F) hb ho0 ho1)
                 have n8_ := Aside0.mk (Kd.R_lower (zn (zn (zn (zn (zn (zn (zn (zn ho0 HO425) HO428) HO450) HO453) HO487) HO490) HO494) HO497) (below_size (zb1 HB)))
                 have n9_ := Aside0.mk (Kd.R_lower (zn (zn (zn (zn (zn (zn (zn (zn ho1 HO425) HO428) HO450) HO453) HO487) HO490) HO494) HO497) (below_size (zb1 HB)))
                 have n10_ := Aside0.mk (zbb BK404 hb)
                 have n11_ := Aside0.mk (zbb BK405 hb)
                 have n12_ := Aside0.mk (zbb BK430 hb)
                 have n13_ := Aside0.mk (zbb BK455 hb)
                 have n14_ := Aside0.mk (zbb BK506 hb)
                 have n15_ := Aside0.mk (below_step (zb1 HB) hb)
                 clear HO425 HO428 HO450 HO453 HO487 HO487F HO490 HO490F HO494 HO494F HO497 HO497F BK404 BK405 BK430 BK455 BK506 HB
                 have HO425 := n0_; have HO428 := n1_; have HO450 := n2_; have HO453 := n3_; have HO487 := n4_; have HO487F := n4F_; have HO490 := n5_; have HO490F := n5F_; have HO494 := n6_; have HO494F := n6F_; have HO497 := n7_; have HO497F := n7F_; have HO501 := n8_; have HO504 := n9_; have BK404 := n10_; have BK405 := n11_; have BK430 := n12_; have BK455 := n13_; have BK506 := n14_; have HB := n15_
                 clear n0_ n1_ n2_ n3_ n4_ n5_ n6_ n7_ n8_ n9_ n10_ n11_ n12_ n13_ n14_ n15_ n4F_ n5F_ n6F_ n7F_
                 (try clear hb)
                 (try clear hb2)
                 (try clear hk)
                 (try clear hi)
                 (try clear ho0)
                 (try clear ho1)
                 refine hK.out _ _ ⟨zc BK404 0, zc BK404 1, zc BK404 2, zc BK405 0, zc BK405 1, zc BK405 2⟩ (fun hHeld => ?_)
                 clear hK K
                 refine norm_ (a' := ?_) ?_ ?_
                 rotate_left
                 ·
                  show Act.put _ (some 99) _ = _
                  simp only [Act.put, List.setIfInBounds_toArray, List.set_cons_zero, List.set_cons_succ, i64_w, i32_w]; rfl
                 refine zp (i := 5) (N := some 94) #[true, true, true, true, true, true, false, false, true, false, false] (any_of HT_.out (by kernel_rfl)) ?_
                 refine zp (i := 6) (N := some 100) #[true, true, true, true, true, true, true, false, true, false, false] (any_of HT_.out (by kernel_rfl)) ?_
                 refine zp (i := 7) (N := some 101) #[true, true, true, true, true, true, true, true, true, false, false] (any_of HT_.out (by kernel_rfl)) ?_
                 exact norm_ (by simp only [putAll, Act.put, List.setIfInBounds_toArray, List.set_cons_zero, List.set_cons_succ]) (hCont (.slice Ao132 t485.length co132, .slice Ao133 t488.length co133, .slice Ao134 t492.length co134, .slice Ao135 t495.length co135, v500, v503, gb506) _ ⟨hHeld, (zqm HO425), (zqm HO428), (zqm HO450), (zqm HO453), (zqm HO487), (zqm HO490), (zqm HO494), (zqm HO497), (zqm HO501), (zqm HO504), (zq1 BK404), (zq1 BK405), (zq1 BK430), (zq1 BK455), (zq1 BK506), GW506.out, GE506.out, NB404_506.out, NB506_404.out, NB405_506.out, NB506_405.out, NB430_506.out, NB506_430.out, NB455_506.out, NB506_455.out, (zb1 HB)⟩)
               rintro ⟨v486, v489, v493, v496, v500, v503, gb506⟩ w137 ⟨hS_, h0_, h1_, h2_, h3_, h4_, h5_, h6_, h7_, h8_, h9_, h10_, h11_, h12_, h13_, h14_, h15_, h16_, h17_, h18_, h19_, h20_, h21_, h22_, h23_, h24_, h25_⟩
               have HO487 : Aside0 (Kd.R (Kd.int .i64) 3 w137 w.heap.size (fun k_ => some k_ ≠ (.slice Ao69 t423.length co69 : Value).ownBlock ∧ some k_ ≠ (.slice Ao71 t426.length co71 : Value).ownBlock ∧ some k_ ≠ (.slice Ao103 t448.length co103 : Value).ownBlock ∧ some k_ ≠ (.slice Ao104 t451.length co104 : Value).ownBlock ∧ some k_ ≠ (v489 : Value).ownBlock ∧ some k_ ≠ (v493 : Value).ownBlock ∧ some k_ ≠ (v496 : Value).ownBlock ∧ some k_ ≠ (v500 : Value).ownBlock ∧ some k_ ≠ (v503 : Value).ownBlock) v486 t485) := ⟨h4_⟩
               have HO490 : Aside0 (Kd.R (Kd.int .i64) 3 w137 w.heap.size (fun k_ => some k_ ≠ (.slice Ao69 t423.length co69 : Value).ownBlock ∧ some k_ ≠ (.slice Ao71 t426.length co71 : Value).ownBlock ∧ some k_ ≠ (.slice Ao103 t448.length co103 : Value).ownBlock ∧ some k_ ≠ (.slice Ao104 t451.length co104 : Value).ownBlock ∧ some k_ ≠ (v486 : Value).ownBlock ∧ some k_ ≠ (v493 : Value).ownBlock ∧ some k_ ≠ (v496 : Value).ownBlock ∧ some k_ ≠ (v500 : Value).ownBlock ∧ some k_ ≠ (v503 : Value).ownBlock) v489 t488) := ⟨h5_⟩
               have HO494 : Aside0 (Kd.R (Kd.int .i64) 3 w137 w.heap.size (fun k_ => some k_ ≠ (.slice Ao69 t423.length co69 : Value).ownBlock ∧ some k_ ≠ (.slice Ao71 t426.length co71 : Value).ownBlock ∧ some k_ ≠ (.slice Ao103 t448.length co103 : Value).ownBlock ∧ some k_ ≠ (.slice Ao104 t451.length co104 : Value).ownBlock ∧ some k_ ≠ (v486 : Value).ownBlock ∧ some k_ ≠ (v489 : Value).ownBlock ∧ some k_ ≠ (v496 : Value).ownBlock ∧ some k_ ≠ (v500 : Value).ownBlock ∧ some k_ ≠ (v503 : Value).ownBlock) v493 t492) := ⟨h6_⟩
               have HO497 : Aside0 (Kd.R (Kd.int .i64) 3 w137 w.heap.size (fun k_ => some k_ ≠ (.slice Ao69 t423.length co69 : Value).ownBlock ∧ some k_ ≠ (.slice Ao71 t426.length co71 : Value).ownBlock ∧ some k_ ≠ (.slice Ao103 t448.length co103 : Value).ownBlock ∧ some k_ ≠ (.slice Ao104 t451.length co104 : Value).ownBlock ∧ some k_ ≠ (v486 : Value).ownBlock ∧ some k_ ≠ (v489 : Value).ownBlock ∧ some k_ ≠ (v493 : Value).ownBlock ∧ some k_ ≠ (v500 : Value).ownBlock ∧ some k_ ≠ (v503 : Value).ownBlock) v496 t495) := ⟨h7_⟩
               have HO501 : Aside0 (Kd.R (Kd.int .i64) 3 w137 w.heap.size (fun k_ => some k_ ≠ (.slice Ao69 t423.length co69 : Value).ownBlock ∧ some k_ ≠ (.slice Ao71 t426.length co71 : Value).ownBlock ∧ some k_ ≠ (.slice Ao103 t448.length co103 : Value).ownBlock ∧ some k_ ≠ (.slice Ao104 t451.length co104 : Value).ownBlock ∧ some k_ ≠ (v486 : Value).ownBlock ∧ some k_ ≠ (v489 : Value).ownBlock ∧ some k_ ≠ (v493 : Value).ownBlock ∧ some k_ ≠ (v496 : Value).ownBlock ∧ some k_ ≠ (v503 : Value).ownBlock) v500 t499) := ⟨h8_⟩
               have HO504 : Aside0 (Kd.R (Kd.int .i64) 3 w137 w.heap.size (fun k_ => some k_ ≠ (.slice Ao69 t423.length co69 : Value).ownBlock ∧ some k_ ≠ (.slice Ao71 t426.length co71 : Value).ownBlock ∧ some k_ ≠ (.slice Ao103 t448.length co103 : Value).ownBlock ∧ some k_ ≠ (.slice Ao104 t451.length co104 : Value).ownBlock ∧ some k_ ≠ (v486 : Value).ownBlock ∧ some k_ ≠ (v489 : Value).ownBlock ∧ some k_ ≠ (v493 : Value).ownBlock ∧ some k_ ≠ (v496 : Value).ownBlock ∧ some k_ ≠ (v500 : Value).ownBlock) v503 t502) := ⟨h9_⟩
               have BK506 : Aside0 (w137.heap[gb506]? = some (.cells #[.int .i64 0, .slice none 0 0, .slice none 0 0] 27 (0, 0))) := ⟨h14_⟩
               have GW506 : Aside0 (w.heap.size ≤ gb506) := ⟨h15_⟩
               have GE506 : Aside0 (w.heap.size ≤ gb506) := ⟨h16_⟩
               have NB404_506 : Aside0 (gb404 ≠ gb506) := ⟨h17_⟩
               have NB506_404 : Aside0 (gb506 ≠ gb404) := ⟨h18_⟩
               have NB405_506 : Aside0 (gb405 ≠ gb506) := ⟨h19_⟩
               have NB506_405 : Aside0 (gb506 ≠ gb405) := ⟨h20_⟩
               have NB430_506 : Aside0 (gb430 ≠ gb506) := ⟨h21_⟩
               have NB506_430 : Aside0 (gb506 ≠ gb430) := ⟨h22_⟩
               have NB455_506 : Aside0 (gb455 ≠ gb506) := ⟨h23_⟩
               have NB506_455 : Aside0 (gb506 ≠ gb455) := ⟨h24_⟩
               replace HO425 : Aside0 (Kd.R (Kd.int .i64) 3 w137 w.heap.size (fun k_ => some k_ ≠ (.slice Ao71 t426.length co71 : Value).ownBlock ∧ some k_ ≠ (.slice Ao103 t448.length co103 : Value).ownBlock ∧ some k_ ≠ (.slice Ao104 t451.length co104 : Value).ownBlock ∧ some k_ ≠ (v486 : Value).ownBlock ∧ some k_ ≠ (v489 : Value).ownBlock ∧ some k_ ≠ (v493 : Value).ownBlock ∧ some k_ ≠ (v496 : Value).ownBlock ∧ some k_ ≠ (v500 : Value).ownBlock ∧ some k_ ≠ (v503 : Value).ownBlock) (.slice Ao69 t423.length co69) t423) := ⟨h0_⟩; replace HO428 : Aside0 (Kd.R (Kd.int .i64) 3 w137 w.heap.size (fun k_ => some k_ ≠ (.slice Ao69 t423.length co69 : Value).ownBlock ∧ some k_ ≠ (.slice Ao103 t448.length co103 : Value).ownBlock ∧ some k_ ≠ (.slice Ao104 t451.length co104 : Value).ownBlock ∧ some k_ ≠ (v486 : Value).ownBlock ∧ some k_ ≠ (v489 : Value).ownBlock ∧ some k_ ≠ (v493 : Value).ownBlock ∧ some k_ ≠ (v496 : Value).ownBlock ∧ some k_ ≠ (v500 : Value).ownBlock ∧ some k_ ≠ (v503 : Value).ownBlock) (.slice Ao71 t426.length co71) t426) := ⟨h1_⟩; replace HO450 : Aside0 (Kd.R (Kd.int .i64) 3 w137 w.heap.size (fun k_ => some k_ ≠ (.slice Ao69 t423.length co69 : Value).ownBlock ∧ some k_ ≠ (.slice Ao71 t426.length co71 : Value).ownBlock ∧ some k_ ≠ (.slice Ao104 t451.length co104 : Value).ownBlock ∧ some k_ ≠ (v486 : Value).ownBlock ∧ some k_ ≠ (v489 : Value).ownBlock ∧ some k_ ≠ (v493 : Value).ownBlock ∧ some k_ ≠ (v496 : Value).ownBlock ∧ some k_ ≠ (v500 : Value).ownBlock ∧ some k_ ≠ (v503 : Value).ownBlock) (.slice Ao103 t448.length co103) t481) := ⟨h2_⟩; replace HO453 : Aside0 (Kd.R (Kd.int .i64) 3 w137 w.heap.size (fun k_ => some k_ ≠ (.slice Ao69 t423.length co69 : Value).ownBlock ∧ some k_ ≠ (.slice Ao71 t426.length co71 : Value).ownBlock ∧ some k_ ≠ (.slice Ao103 t448.length co103 : Value).ownBlock ∧ some k_ ≠ (v486 : Value).ownBlock ∧ some k_ ≠ (v489 : Value).ownBlock ∧ some k_ ≠ (v493 : Value).ownBlock ∧ some k_ ≠ (v496 : Value).ownBlock ∧ some k_ ≠ (v500 : Value).ownBlock ∧ some k_ ≠ (v503 : Value).ownBlock) (.slice Ao104 t451.length co104) t482) := ⟨h3_⟩; replace BK404 : Aside0 (w137.heap[gb404]? = some (.cells #[.int .i64 a0_0, .slice A0_1 l0_1.length c0_1, .slice A0_2 l0_2.length c0_2] 24 (0, 0))) := ⟨h10_⟩; replace BK405 : Aside0 (w137.heap[gb405]? = some (.cells #[.int .i64 a1_0, .slice A1_1 l1_1.length c1_1, .slice A1_2 l1_2.length c1_2] 24 (0, 0))) := ⟨h11_⟩; replace BK430 : Aside0 (w137.heap[gb430]? = some (.cells #[.int .i64 t422, .slice Ao69 t423.length co69, .slice Ao71 t426.length co71] 27 (0, 0))) := ⟨h12_⟩; replace BK455 : Aside0 (w137.heap[gb455]? = some (.cells #[.int .i64 t447, .slice Ao103 t448.length co103, .slice Ao104 t451.length co104] 27 (0, 0))) := ⟨h13_⟩; replace HB : Aside0 (Below w.heap.size w w137) := ⟨h25_⟩
               clear h0_ h10_ h11_ h12_ h13_ h14_ h15_ h16_ h17_ h18_ h19_ h1_ h20_ h21_ h22_ h23_ h24_ h25_ h2_ h3_ h4_ h5_ h6_ h7_ h8_ h9_
               have hHeld : w137.cell? ⟨gb404, 0, none⟩ = some (.int .i64 a0_0) ∧ w137.cell? ⟨gb404, 1, none⟩ = some (.slice A0_1 l0_1.length c0_1) ∧ w137.cell? ⟨gb404, 2, none⟩ = some (.slice A0_2 l0_2.length c0_2) ∧ w137.cell? ⟨gb405, 0, none⟩ = some (.int .i64 a1_0) ∧ w137.cell? ⟨gb405, 1, none⟩ = some (.slice A1_1 l1_1.length c1_1) ∧ w137.cell? ⟨gb405, 2, none⟩ = some (.slice A1_2 l1_2.length c1_2) := hS_
               obtain ⟨Ao139, co139, eo139⟩ := Kd.R_slice HO501.out
               (first | subst eo139 | (injection eo139 with f1_ f2_ f3_; have f4_ := f1_.symm; have f5_ := f3_.symm; clear f1_ f2_ f3_; subst f4_; subst f5_))
               obtain ⟨Ao141, co141, eo141⟩ := Kd.R_slice HO504.out
               (first | subst eo141 | (injection eo141 with f1_ f2_ f3_; have f4_ := f1_.symm; have f5_ := f3_.symm; clear f1_ f2_ f3_; subst f4_; subst f5_))
               refine norm_ (a' := ?_) ?_ ?_
               rotate_left
               ·
                simp only [putAll, Act.put, List.setIfInBounds_toArray, List.set_cons_zero, List.set_cons_succ]
                rfl
               refine one_ (i := 9) (N := none) #[true, true, true, true, true, true, true, true, true, true, false] rfl rfl (one_of HT_.out (by kernel_rfl)) (by decide) (fun K hK => ?_)
               have hs138 : w137.cell? ⟨gb506, 0, none⟩ = some (.int .i64 0) := zc BK506 0
               have hfs138 := blk_frozen BK506.out 0
               have hns138_0 := NB404_506.out
               have hns138_1 := NB405_506.out
               have hns138_2 := NB430_506.out
               have hns138_3 := NB455_506.out
               have hms138_0 := NB506_404.out
               have hms138_1 := NB506_405.out
               have hms138_2 := NB506_430.out
               have hms138_3 := NB506_455.out
               have hs140 : w137.cell? ⟨gb506, 1, none⟩ = some (.slice none 0 0) := zc BK506 1
               have hfs140 := blk_frozen BK506.out 1
               have hns140_0 := NB404_506.out
               have hns140_1 := NB405_506.out
               have hns140_2 := NB430_506.out
               have hns140_3 := NB455_506.out
               have hms140_0 := NB506_404.out
               have hms140_1 := NB506_405.out
               have hms140_2 := NB506_430.out
               have hms140_3 := NB506_455.out
               have hs142 : w137.cell? ⟨gb506, 2, none⟩ = some (.slice none 0 0) := zc BK506 2
               have hfs142 := blk_frozen BK506.out 2
               have hns142_0 := NB404_506.out
               have hns142_1 := NB405_506.out
               have hns142_2 := NB430_506.out
               have hns142_3 := NB455_506.out
               have hms142_0 := NB506_404.out
               have hms142_1 := NB506_405.out
               have hms142_2 := NB506_430.out
               have hms142_3 := NB506_455.out
               refine skip_ (w1 := ?_) (by rfl) rfl ?_ ?_
               rotate_left
               ·
                go_simp
                rfl
               refine hK.out _ _ ⟨((cell_far (p := ⟨gb506, _, none⟩) NB404_506.out _).trans (((cell_far (p := ⟨gb506, _, none⟩) NB404_506.out _).trans (((cell_far (p := ⟨gb506, _, none⟩) NB404_506.out _).trans (hHeld.1)))))), ((cell_far (p := ⟨gb506, _, none⟩) NB404_506.out _).trans (((cell_far (p := ⟨gb506, _, none⟩) NB404_506.out _).trans (((cell_far (p := ⟨gb506, _, none⟩) NB404_506.out _).trans (hHeld.2.1)))))), ((cell_far (p := ⟨gb506, _, none⟩) NB404_506.out _).trans (((cell_far (p := ⟨gb506, _, none⟩) NB404_506.out _).trans (((cell_far (p := ⟨gb506, _, none⟩) NB404_506.out _).trans (hHeld.2.2.1)))))), ((cell_far (p := ⟨gb506, _, none⟩) NB405_506.out _).trans (((cell_far (p := ⟨gb506, _, none⟩) NB405_506.out _).trans (((cell_far (p := ⟨gb506, _, none⟩) NB405_506.out _).trans (hHeld.2.2.2.1)))))), ((cell_far (p := ⟨gb506, _, none⟩) NB405_506.out _).trans (((cell_far (p := ⟨gb506, _, none⟩) NB405_506.out _).trans (((cell_far (p := ⟨gb506, _, none⟩) NB405_506.out _).trans (hHeld.2.2.2.2.1)))))), ((cell_far (p := ⟨gb506, _, none⟩) NB405_506.out _).trans (((cell_far (p := ⟨gb506, _, none⟩) NB405_506.out _).trans (((cell_far (p := ⟨gb506, _, none⟩) NB405_506.out _).trans (hHeld.2.2.2.2.2))))))⟩ (fun hHeld => ?_)
               clear hK K
               refine zp (i := 10) (N := some 16) #[true, true, true, true, true, true, true, true, true, true, true] (any_of HT_.out (by kernel_rfl)) ?_
               refine done_ (done_of HT_.out (by kernel_rfl)) ?_
               have hnb143 := NB506_404.out
               have hnc143 := NB404_506.out
               have hnb144 := NB506_405.out
               have hnc144 := NB405_506.out
               have hnb145 := NB506_430.out
               have hnc145 := NB430_506.out
               have hnb146 := NB506_455.out
               have hnc146 := NB455_506.out
               have hcz147_0 : w137.cell? ⟨gb506, 0, none⟩ = some (.int .i64 0) := zc BK506 0
               have hcz147_1 : w137.cell? ⟨gb506, 1, none⟩ = some (.slice none 0 0) := zc BK506 1
               have hcz147_2 : w137.cell? ⟨gb506, 2, none⟩ = some (.slice none 0 0) := zc BK506 2
               have hfz147_0 := blk_frozen BK506.out 0
               have hfz147_1 := blk_frozen BK506.out 1
               have hfz147_2 := blk_frozen BK506.out 2
               have hcz148_0 : w137.cell? ⟨gb430, 0, none⟩ = some (.int .i64 t422) := zc BK430 0
               have hcz148_1 : w137.cell? ⟨gb430, 1, none⟩ = some (.slice Ao69 t423.length co69) := zc BK430 1
               have hcz148_2 : w137.cell? ⟨gb430, 2, none⟩ = some (.slice Ao71 t426.length co71) := zc BK430 2
               have hfz148_0 := blk_frozen BK430.out 0
               have hfz148_1 := blk_frozen BK430.out 1
               have hfz148_2 := blk_frozen BK430.out 2
               try go_wp2_with (first | ((with_reducible refine gate_callee (f := 31) rfl ?_); refine goesL_ (some 104) rfl rfl Try.func31 (by kernel_rfl) rfl #[.agg #[.int .i64 t498, .slice Ao139 t499.length co139, .slice Ao141 t502.length co141], .agg #[.int .i64 t422, .slice Ao69 t423.length co69, .slice Ao71 t426.length co71]] rfl zq6 ?_; (with_reducible refine (laws_eqBox.calls k t498 _ _ t499 _ _ t502 t422 _ _ t423 _ _ t426 true _ ?side1 ?side2 ?side3 ?side4 ?side5 ?side6 ?side7 ?side8 A45.out).mono ?_); (case side1 => refine (Kd.R_reads' (e := 3) (base := w.heap.size) (ok := fun k_ => (some k_ ≠ (.slice Ao69 t423.length co69 : Value).ownBlock ∧ (some k_ ≠ (.slice Ao71 t426.length co71 : Value).ownBlock ∧ (some k_ ≠ (.slice Ao103 t448.length co103 : Value).ownBlock ∧ (some k_ ≠ (.slice Ao104 t451.length co104 : Value).ownBlock ∧ (some k_ ≠ (v486 : Value).ownBlock ∧ (some k_ ≠ (v489 : Value).ownBlock ∧ (some k_ ≠ (v493 : Value).ownBlock ∧ (some k_ ≠ (v496 : Value).ownBlock ∧ some k_ ≠ (.slice Ao141 t502.length co141 : Value).ownBlock))))))))) (n := t499.length) (c := co139) ?_).2.2; exact (z3f HO501 BK506 (.int .i64 t498) (.slice Ao139 t499.length co139) (.slice Ao141 t502.length co141))); (case side2 => exact (Kd.R_reads' HO501.out).2.1); (case side3 => refine (Kd.R_reads' (e := 3) (base := w.heap.size) (ok := fun k_ => (some k_ ≠ (.slice Ao69 t423.length co69 : Value).ownBlock ∧ (some k_ ≠ (.slice Ao71 t426.length co71 : Value).ownBlock ∧ (some k_ ≠ (.slice Ao103 t448.length co103 : Value).ownBlock ∧ (some k_ ≠ (.slice Ao104 t451.length co104 : Value).ownBlock ∧ (some k_ ≠ (v486 : Value).ownBlock ∧ (some k_ ≠ (v489 : Value).ownBlock ∧ (some k_ ≠ (v493 : Value).ownBlock ∧ (some k_ ≠ (v496 : Value).ownBlock ∧ some k_ ≠ (.slice Ao139 t499.length co139 : Value).ownBlock))))))))) (n := t502.length) (c := co141) ?_).2.2; exact (z3f HO504 BK506 (.int .i64 t498) (.slice Ao139 t499.length co139) (.slice Ao141 t502.length co141))); (case side4 => exact (Kd.R_reads' HO504.out).2.1); (case side5 => refine (Kd.R_reads' (e := 3) (base := w.heap.size) (ok := fun k_ => (some k_ ≠ (.slice Ao71 t426.length co71 : Value).ownBlock ∧ (some k_ ≠ (.slice Ao103 t448.length co103 : Value).ownBlock ∧ (some k_ ≠ (.slice Ao104 t451.length co104 : Value).ownBlock ∧ (some k_ ≠ (v486 : Value).ownBlock ∧ (some k_ ≠ (v489 : Value).ownBlock ∧ (some k_ ≠ (v493 : Value).ownBlock ∧ (some k_ ≠ (v496 : Value).ownBlock ∧ (some k_ ≠ (.slice Ao139 t499.length co139 : Value).ownBlock ∧ some k_ ≠ (.slice Ao141 t502.length co141 : Value).ownBlock))))))))) (n := t423.length) (c := co69) ?_).2.2; exact (z3f HO425 BK506 (.int .i64 t498) (.slice Ao139 t499.length co139) (.slice Ao141 t502.length co141))); (case side6 => exact (Kd.R_reads' HO425.out).2.1); (case side7 => refine (Kd.R_reads' (e := 3) (base := w.heap.size) (ok := fun k_ => (some k_ ≠ (.slice Ao69 t423.length co69 : Value).ownBlock ∧ (some k_ ≠ (.slice Ao103 t448.length co103 : Value).ownBlock ∧ (some k_ ≠ (.slice Ao104 t451.length co104 : Value).ownBlock ∧ (some k_ ≠ (v486 : Value).ownBlock ∧ (some k_ ≠ (v489 : Value).ownBlock ∧ (some k_ ≠ (v493 : Value).ownBlock ∧ (some k_ ≠ (v496 : Value).ownBlock ∧ (some k_ ≠ (.slice Ao139 t499.length co139 : Value).ownBlock ∧ some k_ ≠ (.slice Ao141 t502.length co141 : Value).ownBlock))))))))) (n := t426.length) (c := co71) ?_).2.2; exact (z3f HO428 BK506 (.int .i64 t498) (.slice Ao139 t499.length co139) (.slice Ao141 t502.length co141))); (case side8 => exact (Kd.R_reads' HO428.out).2.1); rintro e w149 ⟨rfl, hb⟩; refine ⟨_, rfl, ?_⟩; replace HO425 := Aside0.mk (Kd.R_below (z3f HO425 BK506 (.int .i64 t498) (.slice Ao139 t499.length co139) (.slice Ao141 t502.length co141)) hb); replace HO428 := Aside0.mk (Kd.R_below (z3f HO428 BK506 (.int .i64 t498) (.slice Ao139 t499.length co139) (.slice Ao141 t502.length co141)) hb); replace HO450 := Aside0.mk (Kd.R_below (z3f HO450 BK506 (.int .i64 t498) (.slice Ao139 t499.length co139) (.slice Ao141 t502.length co141)) hb); replace HO453 := Aside0.mk (Kd.R_below (z3f HO453 BK506 (.int .i64 t498) (.slice Ao139 t499.length co139) (.slice Ao141 t502.length co141)) hb); replace HO487 := Aside0.mk (Kd.R_below (z3f HO487 BK506 (.int .i64 t498) (.slice Ao139 t499.length co139) (.slice Ao141 t502.length co141)) hb); replace HO490 := Aside0.mk (Kd.R_below (z3f HO490 BK506 (.int .i64 t498) (.slice Ao139 t499.length co139) (.slice Ao141 t502.length co141)) hb); replace HO494 := Aside0.mk (Kd.R_below (z3f HO494 BK506 (.int .i64 t498) (.slice Ao139 t499.length co139) (.slice Ao141 t502.length co141)) hb); replace HO497 := Aside0.mk (Kd.R_below (z3f HO497 BK506 (.int .i64 t498) (.slice Ao139 t499.length co139) (.slice Ao141 t502.length co141)) hb); replace HO501 := Aside0.mk (Kd.R_below (z3f HO501 BK506 (.int .i64 t498) (.slice Ao139 t499.length co139) (.slice Ao141 t502.length co141)) hb); replace HO504 := Aside0.mk (Kd.R_below (z3f HO504 BK506 (.int .i64 t498) (.slice Ao139 t499.length co139) (.slice Ao141 t502.length co141)) hb); replace BK404 := Aside0.mk (blk_below (g := gb404) (o := .cells #[.int .i64 a0_0, .slice A0_1 l0_1.length c0_1, .slice A0_2 l0_2.length c0_2] 24 (0, 0)) (zq5 BK404) hb); replace BK405 := Aside0.mk (blk_below (g := gb405) (o := .cells #[.int .i64 a1_0, .slice A1_1 l1_1.length c1_1, .slice A1_2 l1_2.length c1_2] 24 (0, 0)) (zq5 BK405) hb); replace BK430 := Aside0.mk (blk_below (g := gb430) (o := .cells #[.int .i64 t422, .slice Ao69 t423.length co69, .slice Ao71 t426.length co71] 27 (0, 0)) (zq5 BK430) hb); replace BK455 := Aside0.mk (blk_below (g := gb455) (o := .cells #[.int .i64 t447, .slice Ao103 t448.length co103, .slice Ao104 t451.length co104] 27 (0, 0)) (zq5 BK455) hb); replace BK506 := Aside0.mk (blk_below (g := gb506) (o := .cells #[.int .i64 t498, .slice Ao139 t499.length co139, .slice Ao141 t502.length co141] 27 (0, 0)) (by (with_reducible repeat (first | refine blk_drewN ?_ _ | refine blk_drew ?_ | refine blk_alloc ?_ _)); refine blk_put (cs := #[.int .i64 t498, .slice Ao139 t499.length co139, .slice none 0 0]) ?_ 2 _ rfl; (with_reducible repeat (first | refine blk_drewN ?_ _ | refine blk_drew ?_ | refine blk_alloc ?_ _)); refine blk_put (cs := #[.int .i64 t498, .slice none 0 0, .slice none 0 0]) ?_ 1 _ rfl; (with_reducible repeat (first | refine blk_drewN ?_ _ | refine blk_drew ?_ | refine blk_alloc ?_ _)); refine blk_put (cs := #[.int .i64 0, .slice none 0 0, .slice none 0 0]) ?_ 0 _ rfl; (with_reducible repeat (first | refine blk_drewN ?_ _ | refine blk_drew ?_ | refine blk_alloc ?_ _)); exact BK506.out) hb); replace HB := Aside0.mk (below_step (zb1 HB) hb); (try clear hb); (try clear hb2); (try clear hk); (try clear hi); have hcz150_0 : w149.cell? ⟨gb455, 0, none⟩ = some (.int .i64 t447) := zc BK455 0; have hcz150_1 : w149.cell? ⟨gb455, 1, none⟩ = some (.slice Ao103 t448.length co103) := zc BK455 1; have hcz150_2 : w149.cell? ⟨gb455, 2, none⟩ = some (.slice Ao104 t451.length co104) := zc BK455 2; have hfz150_0 := blk_frozen BK455.out 0; have hfz150_1 := blk_frozen BK455.out 1; have hfz150_2 := blk_frozen BK455.out 2) | ((with_reducible refine gate_callee (f := 35) rfl ?_); refine goesL_ (some 113) rfl rfl Try.func35 (by kernel_rfl) rfl #[.agg #[.int .i64 t447, .slice Ao103 t481.length co103, .slice Ao104 t482.length co104], .int .i64 101] rfl (by (try simp only [List.map_toArray, List.map_cons, List.map_nil]); first | done | (rw [show t481.length = t448.length from (Kd.R_reads' HO450.out).1.symm, show t482.length = t451.length from (Kd.R_reads' HO453.out).1.symm] <;> rfl) | rfl | (simp only [List.length_drop, List.length_take]; rfl)) ?_; (with_reducible refine (laws_heldBox.calls k t447 _ _ t481 _ _ t482 101 t508 _ ?side1 ?side2 ?side3 ?side4 A48.out).mono ?_); (case side1 => exact zcr HO450); (case side2 => rw [show t481.length = t448.length from (Kd.R_reads' HO450.out).1.symm]; exact (Kd.R_reads' HO450.out).2.1); (case side3 => exact zcr HO453); (case side4 => rw [show t482.length = t451.length from (Kd.R_reads' HO453.out).1.symm]; exact (Kd.R_reads' HO453.out).2.1); rintro e w151 ⟨rfl, hb⟩; refine ⟨_, rfl, ?_⟩; replace HO450 := Aside0.mk (Kd.R_below (zq3 HO450) hb); replace HO453 := Aside0.mk (Kd.R_below (zq3 HO453) hb); replace HB := Aside0.mk (below_step (zb0 HB) hb); (try clear hb); (try clear hb2); (try clear hk); (try clear hi)))
               go_ret
               exact ⟨by first | rfl | (simp [errW_none, errW_some] <;> rfl) | (simp [*, errW_none, errW_some] <;> rfl), (zb0 HB)⟩
              ·
               rw [if_neg c50] at H
               exact absurd H (by simp)
           ·
            replace c46 := Bool.eq_false_iff.mpr c46
            subst c46
            have H1 : (none) = some r := by rw [if_neg (show ¬ (false = true) by decide)] at H; exact H
            clear H
            have H := H1
            clear H1
            exact absurd H (by simp)
          ·
           rw [if_neg c41] at H
           exact absurd H (by simp)
        ·
         replace c37 := Bool.eq_false_iff.mpr c37
         subst c37
         have H1 : (none) = some r := by rw [if_neg (show ¬ (false = true) by decide)] at H; exact H
         clear H
         have H := H1
         clear H1
         exact absurd H (by simp)
      ·
       replace c32 := Bool.eq_false_iff.mpr c32
       subst c32
       have H1 : (none) = some r := by rw [if_neg (show ¬ (false = true) by decide)] at H; exact H
       clear H
       have H := H1
       clear H1
       exact absurd H (by simp)
     ·
      replace c29 := Bool.eq_false_iff.mpr c29
      subst c29
      have H1 : (none) = some r := by rw [if_neg (show ¬ (false = true) by decide)] at H; exact H
      clear H
      have H := H1
      clear H1
      exact absurd H (by simp)
   ·
    replace c25 := Bool.eq_false_iff.mpr c25
    subst c25
    have H1 : (none) = some r := by rw [if_neg (show ¬ (false = true) by decide)] at H; exact H
    clear H
    have H := H1
    clear H1
    exact absurd H (by simp)
end Go.Proofs.Ytgaoniapddpaaaa.PD
