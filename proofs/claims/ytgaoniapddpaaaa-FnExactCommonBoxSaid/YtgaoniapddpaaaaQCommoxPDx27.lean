-- By wip/mk/drv.py
import Derived.Test.YtgaoniapddpaaaaQCommoxPDx0
import Derived.Test.YtgaoniapddpaaaaQCommoxPDx1
import Derived.Test.YtgaoniapddpaaaaQCommoxPDx2
import Derived.Test.YtgaoniapddpaaaaQCommoxPDx3
import Derived.Test.YtgaoniapddpaaaaQCommoxPDx5
import Derived.Test.YtgaoniapddpaaaaQCommoxPDx6
import Derived.Test.YtgaoniapddpaaaaQCommoxPDx19
import Derived.Test.YtgaoniapddpaaaaQCommoxPDx25
import Derived.Test.YtgaoniapddpaaaaQCommoxPDx26
namespace Go.Proofs.Ytgaoniapddpaaaa.PD
open Go.RowKit Go.Proofs.YtgaoniapddpaaaaW.PrintWords Go.Proofs.YtgaoniapddpaaaaW.PrintLast Go.Proofs.YtgaoniapddpaaaaW.PrintMore
attribute [local go_sem] max2_int min2_int max_two min_two max_three min_three max_four min_four
set_option linter.unusedVariables false
set_option linter.unusedSimpArgs false
/-! ### laws_FnExactCommonBox: function 12 -/
def laws_FnExactCommonBox.T8 : Bool × List (List Nat × List Nat) := (true, [([], []), ([0], [0]), ([], []), ([2, 1], [2]), ([1, 3, 3], [1, 3]), ([4], [4]), ([5], [5]), ([5], [5]), ([], []), ([8, 6, 4, 0, 1, 2, 3, 4, 5, 6, 8], [6, 8]), ([7, 9, 0, 1, 2, 3, 4, 5, 6, 7, 8, 9], [7])])
def laws_FnExactCommonBox.B8 : List Nat := [0, 1, 0, 7, 15, 31, 63, 63, 0, 383, 1023]
theorem laws_FnExactCommonBox.tab8 : rtab .any (opsOf Try.f12 8) = laws_FnExactCommonBox.T8 := by kernel_rfl
theorem laws_FnExactCommonBox.bits8 : waitsOk laws_FnExactCommonBox.T8.2 laws_FnExactCommonBox.B8 = true := by kernel_rfl
def laws_FnExactCommonBox.T31 : Bool × List (List Nat × List Nat) := (true, [([], []), ([0], [0]), ([], []), ([2, 1], [2]), ([1, 3, 3], [1, 3]), ([4], [4]), ([5], [5]), ([5], [5]), ([], []), ([8, 6, 4, 0, 1, 2, 3, 4, 5, 6, 8], [6, 8]), ([7, 9, 0, 1, 2, 3, 4, 5, 6, 7, 8, 9], [7])])
def laws_FnExactCommonBox.B31 : List Nat := [0, 1, 0, 7, 15, 31, 63, 63, 0, 383, 1023]
theorem laws_FnExactCommonBox.tab31 : rtab .any (opsOf Try.f12 31) = laws_FnExactCommonBox.T31 := by kernel_rfl
theorem laws_FnExactCommonBox.bits31 : waitsOk laws_FnExactCommonBox.T31.2 laws_FnExactCommonBox.B31 = true := by kernel_rfl
set_option maxHeartbeats 8000000 in
set_option maxRecDepth 100000 in
theorem laws_FnExactCommonBox.calls (k : Nat) (a0_0 : Int) (A0_1 : Option Addr) (c0_1 : Nat) (l0_1 : List Int) (A0_2 : Option Addr) (c0_2 : Nat) (l0_2 : List Int) (a1_0 : Int) (A1_1 : Option Addr) (c1_1 : Nat) (l1_1 : List Int) (A1_2 : Option Addr) (c1_2 : Nat) (l1_2 : List Int) (r : Bool) (w : World) (hr0_1 : Kd.C (Kd.int .i64) w A0_1 l0_1.length l0_1) (hc0_1 : l0_1.length ≤ c0_1) (hr0_2 : Kd.C (Kd.int .i64) w A0_2 l0_2.length l0_2) (hc0_2 : l0_2.length ≤ c0_2) (hr1_1 : Kd.C (Kd.int .i64) w A1_1 l1_1.length l1_1) (hc1_1 : l1_1.length ≤ c1_1) (hr1_2 : Kd.C (Kd.int .i64) w A1_2 l1_2.length l1_2) (hc1_2 : l1_2.length ≤ c1_2) (h : laws_FnExactCommonBox.f k a0_0 l0_1 l0_2 a1_0 l1_1 l1_2 = some r) :
  Calls Try.prog 12 #[.agg #[.int .i64 a0_0, .slice A0_1 l0_1.length c0_1, .slice A0_2 l0_2.length c0_2], .agg #[.int .i64 a1_0, .slice A1_1 l1_1.length c1_1, .slice A1_2 l1_2.length c1_2]] w fun e w' => e = .returned (.bool r) ∧ Below w.heap.size w w' := by
 have hu24 := Try.underlying24
 have hu27 := Try.underlying27
 have HR0_1 := Aside0.mk hr0_1
 have HC0_1 := Aside0.mk hc0_1
 clear hr0_1 hc0_1
 have HR0_2 := Aside0.mk hr0_2
 have HC0_2 := Aside0.mk hc0_2
 clear hr0_2 hc0_2
 have HR1_1 := Aside0.mk hr1_1
 have HC1_1 := Aside0.mk hc1_1
 clear hr1_1 hc1_1
 have HR1_2 := Aside0.mk hr1_2
 have HC1_2 := Aside0.mk hc1_2
 clear hr1_2 hc1_2
 have HB := Aside0.mk (Below.refl w.heap.size w)
 have H : ((laws_szBox.f a0_0 l0_1 l0_2 1000000).bind fun t554 => (if t554 < 0 then (some true) else ((laws_szBox.f a1_0 l1_1 l1_2 t554).bind fun t555 => (if t555 < 0 then (some true) else ((laws_toBox.f k a0_0 l0_1 l0_2 false).bind fun bt556 => ((laws_toBox.f k a1_0 l1_1 l1_2 false).bind fun bt563 => ((spec_CommonBox.f k bt556.1 bt556.2.1 bt556.2.2 bt563.1 bt563.2.1 bt563.2.2).bind fun bt570 => ((laws_toBox.f k a0_0 l0_1 l0_2 false).bind fun bt579 => ((laws_toBox.f k a1_0 l1_1 l1_2 false).bind fun bt587 => ((impl_CommonBox.f k bt579.1 bt579.2.1 bt579.2.2 bt587.1 bt587.2.1 bt587.2.2).bind fun bt595 => ((laws_eqBox.f k bt595.1 bt595.2.1 bt595.2.2.1 bt570.1 bt570.2.1 bt570.2.2.1).bind fun t604 => (if t604 = true then (if (bt595.2.2.2 != bt570.2.2.2) = true then (none) else ((laws_toBox.f k a0_0 l0_1 l0_2 false).bind fun bt605 => ((laws_intactBox.f bt579.1 bt579.2.1 bt579.2.2 bt605.1 bt605.2.1 bt605.2.2).bind fun t612 => (if t612 = true then ((laws_toBox.f k a1_0 l1_1 l1_2 false).bind fun bt613 => ((laws_intactBox.f bt587.1 bt587.2.1 bt587.2.2 bt613.1 bt613.2.1 bt613.2.2).bind fun t620 => (if t620 = true then ((laws_markBox.f k bt579.1 bt579.2.1 bt579.2.2 101).bind fun bt621 => ((laws_markBox.f k bt587.1 bt587.2.1 bt587.2.2 bt621.1).bind fun bt624 => (if bt624.1 < 0 then (none) else ((laws_eqBox.f k bt595.1 bt595.2.1 bt595.2.2.1 bt570.1 bt570.2.1 bt570.2.2.1).bind fun t627 => (if t627 = true then ((laws_markBox.f k bt595.1 bt595.2.1 bt595.2.2.1 101).bind fun bt628 => ((laws_heldBox.f k bt595.1 bt628.2.1 bt628.2.2 101).bind fun t631 => (if t631 < 0 then (none) else (if t631 = bt628.1 then ((laws_toBox.f k a0_0 l0_1 l0_2 true).bind fun bt632 => ((laws_toBox.f k a1_0 l1_1 l1_2 true).bind fun bt639 => ((impl_CommonBox.f k bt632.1 bt632.2.1 bt632.2.2 bt639.1 bt639.2.1 bt639.2.2).bind fun bt646 => ((laws_eqBox.f k bt646.1 bt646.2.1 bt646.2.2.1 bt570.1 bt570.2.1 bt570.2.2.1).bind fun t655 => (if t655 = true then (if (bt646.2.2.2 != bt570.2.2.2) = true then (none) else ((laws_heldBox.f k bt595.1 bt628.2.1 bt628.2.2 101).bind fun t656 => (if t656 < 0 then (none) else (if t656 = bt628.1 then (some true) else (none))))) else (none)))))) else (none))))) else (none)))))) else (none)))) else (none))))) else (none))))))))))))) = some r := h
 clear h
 replace H := Option.bind_eq_some_iff.mp H
 obtain ⟨t554, A30, H⟩ := H
 replace H : (if t554 < 0 then (some true) else ((laws_szBox.f a1_0 l1_1 l1_2 t554).bind fun t555 => (if t555 < 0 then (some true) else ((laws_toBox.f k a0_0 l0_1 l0_2 false).bind fun bt556 => ((laws_toBox.f k a1_0 l1_1 l1_2 false).bind fun bt563 => ((spec_CommonBox.f k bt556.1 bt556.2.1 bt556.2.2 bt563.1 bt563.2.1 bt563.2.2).bind fun bt570 => ((laws_toBox.f k a0_0 l0_1 l0_2 false).bind fun bt579 => ((laws_toBox.f k a1_0 l1_1 l1_2 false).bind fun bt587 => ((impl_CommonBox.f k bt579.1 bt579.2.1 bt579.2.2 bt587.1 bt587.2.1 bt587.2.2).bind fun bt595 => ((laws_eqBox.f k bt595.1 bt595.2.1 bt595.2.2.1 bt570.1 bt570.2.1 bt570.2.2.1).bind fun t604 => (if t604 = true then (if (bt595.2.2.2 != bt570.2.2.2) = true then (none) else ((laws_toBox.f k a0_0 l0_1 l0_2 false).bind fun bt605 => ((laws_intactBox.f bt579.1 bt579.2.1 bt579.2.2 bt605.1 bt605.2.1 bt605.2.2).bind fun t612 => (if t612 = true then ((laws_toBox.f k a1_0 l1_1 l1_2 false).bind fun bt613 => ((laws_intactBox.f bt587.1 bt587.2.1 bt587.2.2 bt613.1 bt613.2.1 bt613.2.2).bind fun t620 => (if t620 = true then ((laws_markBox.f k bt579.1 bt579.2.1 bt579.2.2 101).bind fun bt621 => ((laws_markBox.f k bt587.1 bt587.2.1 bt587.2.2 bt621.1).bind fun bt624 => (if bt624.1 < 0 then (none) else ((laws_eqBox.f k bt595.1 bt595.2.1 bt595.2.2.1 bt570.1 bt570.2.1 bt570.2.2.1).bind fun t627 => (if t627 = true then ((laws_markBox.f k bt595.1 bt595.2.1 bt595.2.2.1 101).bind fun bt628 => ((laws_heldBox.f k bt595.1 bt628.2.1 bt628.2.2 101).bind fun t631 => (if t631 < 0 then (none) else (if t631 = bt628.1 then ((laws_toBox.f k a0_0 l0_1 l0_2 true).bind fun bt632 => ((laws_toBox.f k a1_0 l1_1 l1_2 true).bind fun bt639 => ((impl_CommonBox.f k bt632.1 bt632.2.1 bt632.2.2 bt639.1 bt639.2.1 bt639.2.2).bind fun bt646 => ((laws_eqBox.f k bt646.1 bt646.2.1 bt646.2.2.1 bt570.1 bt570.2.1 bt570.2.2.1).bind fun t655 => (if t655 = true then (if (bt646.2.2.2 != bt570.2.2.2) = true then (none) else ((laws_heldBox.f k bt595.1 bt628.2.1 bt628.2.2 101).bind fun t656 => (if t656 < 0 then (none) else (if t656 = bt628.1 then (some true) else (none))))) else (none)))))) else (none))))) else (none)))))) else (none)))) else (none))))) else (none)))))))))))) = some r := H
 have A3 := Aside0.mk A30
 clear A30
 by_cases c4 : t554 < 0
 ·
  rw [if_pos c4] at H
  have c4b0 : decide (t554 < 0) = true := decide_eq_true c4
  clear c4
  obtain rfl := Option.some.inj H
  go_enter Try.func12, Try.ntmps12
  go_wp2_with (first | ((with_reducible refine gate_dst (N := 2) rfl ?_); refine zbe (N := 2) (cs := #[.int .i64 a0_0, .slice A0_1 l0_1.length c0_1, .slice A0_2 l0_2.length c0_2]) (t := 24) ?_; intro gb552 hg w5 hbox hb; have BK552 := Aside0.mk (hbox); have GW552 := Aside0.mk (zge (zb0 HB) hg); have GE552 := GW552; replace HB := Aside0.mk (below_step (zb0 HB) hb); clear hb hbox hg) | ((with_reducible refine gate_dst (N := 3) rfl ?_); refine zbe (N := 3) (cs := #[.int .i64 a1_0, .slice A1_1 l1_1.length c1_1, .slice A1_2 l1_2.length c1_2]) (t := 24) ?_; intro gb553 hg w6 hbox hb; have BK553 := Aside0.mk (hbox); have GW553 := Aside0.mk (zge (zb1 HB) hg); have GE553 := GW553; have NB552_553 := Aside0.mk (zlt BK552 hg); have NB553_552 := Aside0.mk (zgt BK552 hg); replace BK552 := Aside0.mk (zbb BK552 hb); replace HB := Aside0.mk (below_step (zb1 HB) hb); clear hb hbox hg; have hcz7_0 : w6.cell? ⟨gb552, 0, none⟩ = some (.int .i64 a0_0) := zc BK552 0; have hcz7_1 : w6.cell? ⟨gb552, 1, none⟩ = some (.slice A0_1 l0_1.length c0_1) := zc BK552 1; have hcz7_2 : w6.cell? ⟨gb552, 2, none⟩ = some (.slice A0_2 l0_2.length c0_2) := zc BK552 2; have hfz7_0 := blk_frozen BK552.out 0; have hfz7_1 := blk_frozen BK552.out 1; have hfz7_2 := blk_frozen BK552.out 2) | ((with_reducible refine gate_callee (f := 14) rfl ?_); refine goesL_ (some 19) rfl rfl Try.func14 (by kernel_rfl) rfl #[.agg #[.int .i64 a0_0, .slice A0_1 l0_1.length c0_1, .slice A0_2 l0_2.length c0_2], .int .i64 1000000] rfl zq6 ?_; (with_reducible refine (laws_szBox.calls a0_0 _ _ l0_1 _ _ l0_2 1000000 t554 _ ?side1 ?side2 ?side3 ?side4 A3.out).mono ?_); (case side1 => exact zcs HR0_1 HB); (case side2 => exact HC0_1.out); (case side3 => exact zcs HR0_2 HB); (case side4 => exact HC0_2.out); rintro e w8 ⟨rfl, hb⟩; refine ⟨_, rfl, ?_⟩; replace HB := Aside0.mk (below_step (zb0 HB) hb); (try clear hb); (try clear hb2); (try clear hk); (try clear hi)))
  go_ret
  exact ⟨by first | rfl | (simp [errW_none, errW_some] <;> rfl) | (simp [*, errW_none, errW_some] <;> rfl), (zb0 HB)⟩
 ·
  rw [if_neg c4] at H
  have c4b0 : decide (t554 < 0) = false := decide_eq_false c4
  clear c4
  replace H := Option.bind_eq_some_iff.mp H
  obtain ⟨t555, A90, H⟩ := H
  replace H : (if t555 < 0 then (some true) else ((laws_toBox.f k a0_0 l0_1 l0_2 false).bind fun bt556 => ((laws_toBox.f k a1_0 l1_1 l1_2 false).bind fun bt563 => ((spec_CommonBox.f k bt556.1 bt556.2.1 bt556.2.2 bt563.1 bt563.2.1 bt563.2.2).bind fun bt570 => ((laws_toBox.f k a0_0 l0_1 l0_2 false).bind fun bt579 => ((laws_toBox.f k a1_0 l1_1 l1_2 false).bind fun bt587 => ((impl_CommonBox.f k bt579.1 bt579.2.1 bt579.2.2 bt587.1 bt587.2.1 bt587.2.2).bind fun bt595 => ((laws_eqBox.f k bt595.1 bt595.2.1 bt595.2.2.1 bt570.1 bt570.2.1 bt570.2.2.1).bind fun t604 => (if t604 = true then (if (bt595.2.2.2 != bt570.2.2.2) = true then (none) else ((laws_toBox.f k a0_0 l0_1 l0_2 false).bind fun bt605 => ((laws_intactBox.f bt579.1 bt579.2.1 bt579.2.2 bt605.1 bt605.2.1 bt605.2.2).bind fun t612 => (if t612 = true then ((laws_toBox.f k a1_0 l1_1 l1_2 false).bind fun bt613 => ((laws_intactBox.f bt587.1 bt587.2.1 bt587.2.2 bt613.1 bt613.2.1 bt613.2.2).bind fun t620 => (if t620 = true then ((laws_markBox.f k bt579.1 bt579.2.1 bt579.2.2 101).bind fun bt621 => ((laws_markBox.f k bt587.1 bt587.2.1 bt587.2.2 bt621.1).bind fun bt624 => (if bt624.1 < 0 then (none) else ((laws_eqBox.f k bt595.1 bt595.2.1 bt595.2.2.1 bt570.1 bt570.2.1 bt570.2.2.1).bind fun t627 => (if t627 = true then ((laws_markBox.f k bt595.1 bt595.2.1 bt595.2.2.1 101).bind fun bt628 => ((laws_heldBox.f k bt595.1 bt628.2.1 bt628.2.2 101).bind fun t631 => (if t631 < 0 then (none) else (if t631 = bt628.1 then ((laws_toBox.f k a0_0 l0_1 l0_2 true).bind fun bt632 => ((laws_toBox.f k a1_0 l1_1 l1_2 true).bind fun bt639 => ((impl_CommonBox.f k bt632.1 bt632.2.1 bt632.2.2 bt639.1 bt639.2.1 bt639.2.2).bind fun bt646 => ((laws_eqBox.f k bt646.1 bt646.2.1 bt646.2.2.1 bt570.1 bt570.2.1 bt570.2.2.1).bind fun t655 => (if t655 = true then (if (bt646.2.2.2 != bt570.2.2.2) = true then (none) else ((laws_heldBox.f k bt595.1 bt628.2.1 bt628.2.2 101).bind fun t656 => (if t656 < 0 then (none) else (if t656 = bt628.1 then (some true) else (none))))) else (none)))))) else (none))))) else (none)))))) else (none)))) else (none))))) else (none)))))))))) = some r := H
  have A9 := Aside0.mk A90
  clear A90
  by_cases c10 : t555 < 0
  ·
   rw [if_pos c10] at H
   have c10b0 : decide (t555 < 0) = true := decide_eq_true c10
   clear c10
   obtain rfl := Option.some.inj H
   go_enter Try.func12, Try.ntmps12
   go_wp2_with (first | ((with_reducible refine gate_dst (N := 2) rfl ?_); refine zbe (N := 2) (cs := #[.int .i64 a0_0, .slice A0_1 l0_1.length c0_1, .slice A0_2 l0_2.length c0_2]) (t := 24) ?_; intro gb552 hg w11 hbox hb; have BK552 := Aside0.mk (hbox); have GW552 := Aside0.mk (zge (zb0 HB) hg); have GE552 := GW552; replace HB := Aside0.mk (below_step (zb0 HB) hb); clear hb hbox hg) | ((with_reducible refine gate_dst (N := 3) rfl ?_); refine zbe (N := 3) (cs := #[.int .i64 a1_0, .slice A1_1 l1_1.length c1_1, .slice A1_2 l1_2.length c1_2]) (t := 24) ?_; intro gb553 hg w12 hbox hb; have BK553 := Aside0.mk (hbox); have GW553 := Aside0.mk (zge (zb1 HB) hg); have GE553 := GW553; have NB552_553 := Aside0.mk (zlt BK552 hg); have NB553_552 := Aside0.mk (zgt BK552 hg); replace BK552 := Aside0.mk (zbb BK552 hb); replace HB := Aside0.mk (below_step (zb1 HB) hb); clear hb hbox hg; have hnb13 := NB552_553.out; have hnc13 := NB553_552.out; have hcz14_0 : w12.cell? ⟨gb552, 0, none⟩ = some (.int .i64 a0_0) := zc BK552 0; have hcz14_1 : w12.cell? ⟨gb552, 1, none⟩ = some (.slice A0_1 l0_1.length c0_1) := zc BK552 1; have hcz14_2 : w12.cell? ⟨gb552, 2, none⟩ = some (.slice A0_2 l0_2.length c0_2) := zc BK552 2; have hfz14_0 := blk_frozen BK552.out 0; have hfz14_1 := blk_frozen BK552.out 1; have hfz14_2 := blk_frozen BK552.out 2) | ((with_reducible refine gate_callee (f := 14) rfl ?_); refine goesL_ (some 19) rfl rfl Try.func14 (by kernel_rfl) rfl #[.agg #[.int .i64 a0_0, .slice A0_1 l0_1.length c0_1, .slice A0_2 l0_2.length c0_2], .int .i64 1000000] rfl zq6 ?_; (with_reducible refine (laws_szBox.calls a0_0 _ _ l0_1 _ _ l0_2 1000000 t554 _ ?side1 ?side2 ?side3 ?side4 A3.out).mono ?_); (case side1 => exact zcs HR0_1 HB); (case side2 => exact HC0_1.out); (case side3 => exact zcs HR0_2 HB); (case side4 => exact HC0_2.out); rintro e w15 ⟨rfl, hb⟩; refine ⟨_, rfl, ?_⟩; replace BK553 := Aside0.mk (zbb BK553 hb); replace HB := Aside0.mk (below_step (zb1 HB) hb); (try clear hb); (try clear hb2); (try clear hk); (try clear hi); have hcz16_0 : w15.cell? ⟨gb553, 0, none⟩ = some (.int .i64 a1_0) := zc BK553 0; have hcz16_1 : w15.cell? ⟨gb553, 1, none⟩ = some (.slice A1_1 l1_1.length c1_1) := zc BK553 1; have hcz16_2 : w15.cell? ⟨gb553, 2, none⟩ = some (.slice A1_2 l1_2.length c1_2) := zc BK553 2; have hfz16_0 := blk_frozen BK553.out 0; have hfz16_1 := blk_frozen BK553.out 1; have hfz16_2 := blk_frozen BK553.out 2) | ((with_reducible refine gate_callee (f := 14) rfl ?_); refine goesL_ (some 24) rfl rfl Try.func14 (by kernel_rfl) rfl #[.agg #[.int .i64 a1_0, .slice A1_1 l1_1.length c1_1, .slice A1_2 l1_2.length c1_2], .int .i64 t554] rfl zq6 ?_; (with_reducible refine (laws_szBox.calls a1_0 _ _ l1_1 _ _ l1_2 t554 t555 _ ?side1 ?side2 ?side3 ?side4 A9.out).mono ?_); (case side1 => exact zcs HR1_1 HB); (case side2 => exact HC1_1.out); (case side3 => exact zcs HR1_2 HB); (case side4 => exact HC1_2.out); rintro e w17 ⟨rfl, hb⟩; refine ⟨_, rfl, ?_⟩; replace HB := Aside0.mk (below_step (zb0 HB) hb); (try clear hb); (try clear hb2); (try clear hk); (try clear hi)))
   go_ret
   exact ⟨by first | rfl | (simp [errW_none, errW_some] <;> rfl) | (simp [*, errW_none, errW_some] <;> rfl), (zb0 HB)⟩
  ·
   rw [if_neg c10] at H
   have c10b0 : decide (t555 < 0) = false := decide_eq_false c10
   clear c10
   replace H := Option.bind_eq_some_iff.mp H
   obtain ⟨⟨t556, t557, t560⟩, A180, H⟩ := H
   replace H : ((laws_toBox.f k a1_0 l1_1 l1_2 false).bind fun bt563 => ((spec_CommonBox.f k t556 t557 t560 bt563.1 bt563.2.1 bt563.2.2).bind fun bt570 => ((laws_toBox.f k a0_0 l0_1 l0_2 false).bind fun bt579 => ((laws_toBox.f k a1_0 l1_1 l1_2 false).bind fun bt587 => ((impl_CommonBox.f k bt579.1 bt579.2.1 bt579.2.2 bt587.1 bt587.2.1 bt587.2.2).bind fun bt595 => ((laws_eqBox.f k bt595.1 bt595.2.1 bt595.2.2.1 bt570.1 bt570.2.1 bt570.2.2.1).bind fun t604 => (if t604 = true then (if (bt595.2.2.2 != bt570.2.2.2) = true then (none) else ((laws_toBox.f k a0_0 l0_1 l0_2 false).bind fun bt605 => ((laws_intactBox.f bt579.1 bt579.2.1 bt579.2.2 bt605.1 bt605.2.1 bt605.2.2).bind fun t612 => (if t612 = true then ((laws_toBox.f k a1_0 l1_1 l1_2 false).bind fun bt613 => ((laws_intactBox.f bt587.1 bt587.2.1 bt587.2.2 bt613.1 bt613.2.1 bt613.2.2).bind fun t620 => (if t620 = true then ((laws_markBox.f k bt579.1 bt579.2.1 bt579.2.2 101).bind fun bt621 => ((laws_markBox.f k bt587.1 bt587.2.1 bt587.2.2 bt621.1).bind fun bt624 => (if bt624.1 < 0 then (none) else ((laws_eqBox.f k bt595.1 bt595.2.1 bt595.2.2.1 bt570.1 bt570.2.1 bt570.2.2.1).bind fun t627 => (if t627 = true then ((laws_markBox.f k bt595.1 bt595.2.1 bt595.2.2.1 101).bind fun bt628 => ((laws_heldBox.f k bt595.1 bt628.2.1 bt628.2.2 101).bind fun t631 => (if t631 < 0 then (none) else (if t631 = bt628.1 then ((laws_toBox.f k a0_0 l0_1 l0_2 true).bind fun bt632 => ((laws_toBox.f k a1_0 l1_1 l1_2 true).bind fun bt639 => ((impl_CommonBox.f k bt632.1 bt632.2.1 bt632.2.2 bt639.1 bt639.2.1 bt639.2.2).bind fun bt646 => ((laws_eqBox.f k bt646.1 bt646.2.1 bt646.2.2.1 bt570.1 bt570.2.1 bt570.2.2.1).bind fun t655 => (if t655 = true then (if (bt646.2.2.2 != bt570.2.2.2) = true then (none) else ((laws_heldBox.f k bt595.1 bt628.2.1 bt628.2.2 101).bind fun t656 => (if t656 < 0 then (none) else (if t656 = bt628.1 then (some true) else (none))))) else (none)))))) else (none))))) else (none)))))) else (none)))) else (none))))) else (none)))))))) = some r := H
   have A18 := Aside0.mk A180
   clear A180
   replace H := Option.bind_eq_some_iff.mp H
   obtain ⟨⟨t563, t564, t567⟩, A190, H⟩ := H
   replace H : ((spec_CommonBox.f k t556 t557 t560 t563 t564 t567).bind fun bt570 => ((laws_toBox.f k a0_0 l0_1 l0_2 false).bind fun bt579 => ((laws_toBox.f k a1_0 l1_1 l1_2 false).bind fun bt587 => ((impl_CommonBox.f k bt579.1 bt579.2.1 bt579.2.2 bt587.1 bt587.2.1 bt587.2.2).bind fun bt595 => ((laws_eqBox.f k bt595.1 bt595.2.1 bt595.2.2.1 bt570.1 bt570.2.1 bt570.2.2.1).bind fun t604 => (if t604 = true then (if (bt595.2.2.2 != bt570.2.2.2) = true then (none) else ((laws_toBox.f k a0_0 l0_1 l0_2 false).bind fun bt605 => ((laws_intactBox.f bt579.1 bt579.2.1 bt579.2.2 bt605.1 bt605.2.1 bt605.2.2).bind fun t612 => (if t612 = true then ((laws_toBox.f k a1_0 l1_1 l1_2 false).bind fun bt613 => ((laws_intactBox.f bt587.1 bt587.2.1 bt587.2.2 bt613.1 bt613.2.1 bt613.2.2).bind fun t620 => (if t620 = true then ((laws_markBox.f k bt579.1 bt579.2.1 bt579.2.2 101).bind fun bt621 => ((laws_markBox.f k bt587.1 bt587.2.1 bt587.2.2 bt621.1).bind fun bt624 => (if bt624.1 < 0 then (none) else ((laws_eqBox.f k bt595.1 bt595.2.1 bt595.2.2.1 bt570.1 bt570.2.1 bt570.2.2.1).bind fun t627 => (if t627 = true then ((laws_markBox.f k bt595.1 bt595.2.1 bt595.2.2.1 101).bind fun bt628 => ((laws_heldBox.f k bt595.1 bt628.2.1 bt628.2.2 101).bind fun t631 => (if t631 < 0 then (none) else (if t631 = bt628.1 then ((laws_toBox.f k a0_0 l0_1 l0_2 true).bind fun bt632 => ((laws_toBox.f k a1_0 l1_1 l1_2 true).bind fun bt639 => ((impl_CommonBox.f k bt632.1 bt632.2.1 bt632.2.2 bt639.1 bt639.2.1 bt639.2.2).bind fun bt646 => ((laws_eqBox.f k bt646.1 bt646.2.1 bt646.2.2.1 bt570.1 bt570.2.1 bt570.2.2.1).bind fun t655 => (if t655 = true then (if (bt646.2.2.2 != bt570.2.2.2) = true then (none) else ((laws_heldBox.f k bt595.1 bt628.2.1 bt628.2.2 101).bind fun t656 => (if t656 < 0 then (none) else (if t656 = bt628.1 then (some true) else (none))))) else (none)))))) else (none))))) else (none)))))) else (none)))) else (none))))) else (none))))))) = some r := H
   have A19 := Aside0.mk A190
   clear A190
   replace H := Option.bind_eq_some_iff.mp H
   obtain ⟨⟨t570, t571, t574, t577⟩, A200, H⟩ := H
   replace H : ((laws_toBox.f k a0_0 l0_1 l0_2 false).bind fun bt579 => ((laws_toBox.f k a1_0 l1_1 l1_2 false).bind fun bt587 => ((impl_CommonBox.f k bt579.1 bt579.2.1 bt579.2.2 bt587.1 bt587.2.1 bt587.2.2).bind fun bt595 => ((laws_eqBox.f k bt595.1 bt595.2.1 bt595.2.2.1 t570 t571 t574).bind fun t604 => (if t604 = true then (if (bt595.2.2.2 != t577) = true then (none) else ((laws_toBox.f k a0_0 l0_1 l0_2 false).bind fun bt605 => ((laws_intactBox.f bt579.1 bt579.2.1 bt579.2.2 bt605.1 bt605.2.1 bt605.2.2).bind fun t612 => (if t612 = true then ((laws_toBox.f k a1_0 l1_1 l1_2 false).bind fun bt613 => ((laws_intactBox.f bt587.1 bt587.2.1 bt587.2.2 bt613.1 bt613.2.1 bt613.2.2).bind fun t620 => (if t620 = true then ((laws_markBox.f k bt579.1 bt579.2.1 bt579.2.2 101).bind fun bt621 => ((laws_markBox.f k bt587.1 bt587.2.1 bt587.2.2 bt621.1).bind fun bt624 => (if bt624.1 < 0 then (none) else ((laws_eqBox.f k bt595.1 bt595.2.1 bt595.2.2.1 t570 t571 t574).bind fun t627 => (if t627 = true then ((laws_markBox.f k bt595.1 bt595.2.1 bt595.2.2.1 101).bind fun bt628 => ((laws_heldBox.f k bt595.1 bt628.2.1 bt628.2.2 101).bind fun t631 => (if t631 < 0 then (none) else (if t631 = bt628.1 then ((laws_toBox.f k a0_0 l0_1 l0_2 true).bind fun bt632 => ((laws_toBox.f k a1_0 l1_1 l1_2 true).bind fun bt639 => ((impl_CommonBox.f k bt632.1 bt632.2.1 bt632.2.2 bt639.1 bt639.2.1 bt639.2.2).bind fun bt646 => ((laws_eqBox.f k bt646.1 bt646.2.1 bt646.2.2.1 t570 t571 t574).bind fun t655 => (if t655 = true then (if (bt646.2.2.2 != t577) = true then (none) else ((laws_heldBox.f k bt595.1 bt628.2.1 bt628.2.2 101).bind fun t656 => (if t656 < 0 then (none) else (if t656 = bt628.1 then (some true) else (none))))) else (none)))))) else (none))))) else (none)))))) else (none)))) else (none))))) else (none)))))) = some r := H
   have A20 := Aside0.mk A200
   clear A200
   replace H := Option.bind_eq_some_iff.mp H
   obtain ⟨⟨t579, t580, t583⟩, A210, H⟩ := H
   replace H : ((laws_toBox.f k a1_0 l1_1 l1_2 false).bind fun bt587 => ((impl_CommonBox.f k t579 t580 t583 bt587.1 bt587.2.1 bt587.2.2).bind fun bt595 => ((laws_eqBox.f k bt595.1 bt595.2.1 bt595.2.2.1 t570 t571 t574).bind fun t604 => (if t604 = true then (if (bt595.2.2.2 != t577) = true then (none) else ((laws_toBox.f k a0_0 l0_1 l0_2 false).bind fun bt605 => ((laws_intactBox.f t579 t580 t583 bt605.1 bt605.2.1 bt605.2.2).bind fun t612 => (if t612 = true then ((laws_toBox.f k a1_0 l1_1 l1_2 false).bind fun bt613 => ((laws_intactBox.f bt587.1 bt587.2.1 bt587.2.2 bt613.1 bt613.2.1 bt613.2.2).bind fun t620 => (if t620 = true then ((laws_markBox.f k t579 t580 t583 101).bind fun bt621 => ((laws_markBox.f k bt587.1 bt587.2.1 bt587.2.2 bt621.1).bind fun bt624 => (if bt624.1 < 0 then (none) else ((laws_eqBox.f k bt595.1 bt595.2.1 bt595.2.2.1 t570 t571 t574).bind fun t627 => (if t627 = true then ((laws_markBox.f k bt595.1 bt595.2.1 bt595.2.2.1 101).bind fun bt628 => ((laws_heldBox.f k bt595.1 bt628.2.1 bt628.2.2 101).bind fun t631 => (if t631 < 0 then (none) else (if t631 = bt628.1 then ((laws_toBox.f k a0_0 l0_1 l0_2 true).bind fun bt632 => ((laws_toBox.f k a1_0 l1_1 l1_2 true).bind fun bt639 => ((impl_CommonBox.f k bt632.1 bt632.2.1 bt632.2.2 bt639.1 bt639.2.1 bt639.2.2).bind fun bt646 => ((laws_eqBox.f k bt646.1 bt646.2.1 bt646.2.2.1 t570 t571 t574).bind fun t655 => (if t655 = true then (if (bt646.2.2.2 != t577) = true then (none) else ((laws_heldBox.f k bt595.1 bt628.2.1 bt628.2.2 101).bind fun t656 => (if t656 < 0 then (none) else (if t656 = bt628.1 then (some true) else (none))))) else (none)))))) else (none))))) else (none)))))) else (none)))) else (none))))) else (none))))) = some r := H
   have A21 := Aside0.mk A210
   clear A210
   replace H := Option.bind_eq_some_iff.mp H
   obtain ⟨⟨t587, t588, t591⟩, A220, H⟩ := H
   replace H : ((impl_CommonBox.f k t579 t580 t583 t587 t588 t591).bind fun bt595 => ((laws_eqBox.f k bt595.1 bt595.2.1 bt595.2.2.1 t570 t571 t574).bind fun t604 => (if t604 = true then (if (bt595.2.2.2 != t577) = true then (none) else ((laws_toBox.f k a0_0 l0_1 l0_2 false).bind fun bt605 => ((laws_intactBox.f t579 t580 t583 bt605.1 bt605.2.1 bt605.2.2).bind fun t612 => (if t612 = true then ((laws_toBox.f k a1_0 l1_1 l1_2 false).bind fun bt613 => ((laws_intactBox.f t587 t588 t591 bt613.1 bt613.2.1 bt613.2.2).bind fun t620 => (if t620 = true then ((laws_markBox.f k t579 t580 t583 101).bind fun bt621 => ((laws_markBox.f k t587 t588 t591 bt621.1).bind fun bt624 => (if bt624.1 < 0 then (none) else ((laws_eqBox.f k bt595.1 bt595.2.1 bt595.2.2.1 t570 t571 t574).bind fun t627 => (if t627 = true then ((laws_markBox.f k bt595.1 bt595.2.1 bt595.2.2.1 101).bind fun bt628 => ((laws_heldBox.f k bt595.1 bt628.2.1 bt628.2.2 101).bind fun t631 => (if t631 < 0 then (none) else (if t631 = bt628.1 then ((laws_toBox.f k a0_0 l0_1 l0_2 true).bind fun bt632 => ((laws_toBox.f k a1_0 l1_1 l1_2 true).bind fun bt639 => ((impl_CommonBox.f k bt632.1 bt632.2.1 bt632.2.2 bt639.1 bt639.2.1 bt639.2.2).bind fun bt646 => ((laws_eqBox.f k bt646.1 bt646.2.1 bt646.2.2.1 t570 t571 t574).bind fun t655 => (if t655 = true then (if (bt646.2.2.2 != t577) = true then (none) else ((laws_heldBox.f k bt595.1 bt628.2.1 bt628.2.2 101).bind fun t656 => (if t656 < 0 then (none) else (if t656 = bt628.1 then (some true) else (none))))) else (none)))))) else (none))))) else (none)))))) else (none)))) else (none))))) else (none)))) = some r := H
   have A22 := Aside0.mk A220
   clear A220
   replace H := Option.bind_eq_some_iff.mp H
   obtain ⟨⟨t595, t596, t599, t602⟩, A230, H⟩ := H
   replace H : ((laws_eqBox.f k t595 t596 t599 t570 t571 t574).bind fun t604 => (if t604 = true then (if (t602 != t577) = true then (none) else ((laws_toBox.f k a0_0 l0_1 l0_2 false).bind fun bt605 => ((laws_intactBox.f t579 t580 t583 bt605.1 bt605.2.1 bt605.2.2).bind fun t612 => (if t612 = true then ((laws_toBox.f k a1_0 l1_1 l1_2 false).bind fun bt613 => ((laws_intactBox.f t587 t588 t591 bt613.1 bt613.2.1 bt613.2.2).bind fun t620 => (if t620 = true then ((laws_markBox.f k t579 t580 t583 101).bind fun bt621 => ((laws_markBox.f k t587 t588 t591 bt621.1).bind fun bt624 => (if bt624.1 < 0 then (none) else ((laws_eqBox.f k t595 t596 t599 t570 t571 t574).bind fun t627 => (if t627 = true then ((laws_markBox.f k t595 t596 t599 101).bind fun bt628 => ((laws_heldBox.f k t595 bt628.2.1 bt628.2.2 101).bind fun t631 => (if t631 < 0 then (none) else (if t631 = bt628.1 then ((laws_toBox.f k a0_0 l0_1 l0_2 true).bind fun bt632 => ((laws_toBox.f k a1_0 l1_1 l1_2 true).bind fun bt639 => ((impl_CommonBox.f k bt632.1 bt632.2.1 bt632.2.2 bt639.1 bt639.2.1 bt639.2.2).bind fun bt646 => ((laws_eqBox.f k bt646.1 bt646.2.1 bt646.2.2.1 t570 t571 t574).bind fun t655 => (if t655 = true then (if (bt646.2.2.2 != t577) = true then (none) else ((laws_heldBox.f k t595 bt628.2.1 bt628.2.2 101).bind fun t656 => (if t656 < 0 then (none) else (if t656 = bt628.1 then (some true) else (none))))) else (none)))))) else (none))))) else (none)))))) else (none)))) else (none))))) else (none))) = some r := H
   have A23 := Aside0.mk A230
   clear A230
   replace H := Option.bind_eq_some_iff.mp H
   obtain ⟨t604, A240, H⟩ := H
   replace H : (if t604 = true then (if (t602 != t577) = true then (none) else ((laws_toBox.f k a0_0 l0_1 l0_2 false).bind fun bt605 => ((laws_intactBox.f t579 t580 t583 bt605.1 bt605.2.1 bt605.2.2).bind fun t612 => (if t612 = true then ((laws_toBox.f k a1_0 l1_1 l1_2 false).bind fun bt613 => ((laws_intactBox.f t587 t588 t591 bt613.1 bt613.2.1 bt613.2.2).bind fun t620 => (if t620 = true then ((laws_markBox.f k t579 t580 t583 101).bind fun bt621 => ((laws_markBox.f k t587 t588 t591 bt621.1).bind fun bt624 => (if bt624.1 < 0 then (none) else ((laws_eqBox.f k t595 t596 t599 t570 t571 t574).bind fun t627 => (if t627 = true then ((laws_markBox.f k t595 t596 t599 101).bind fun bt628 => ((laws_heldBox.f k t595 bt628.2.1 bt628.2.2 101).bind fun t631 => (if t631 < 0 then (none) else (if t631 = bt628.1 then ((laws_toBox.f k a0_0 l0_1 l0_2 true).bind fun bt632 => ((laws_toBox.f k a1_0 l1_1 l1_2 true).bind fun bt639 => ((impl_CommonBox.f k bt632.1 bt632.2.1 bt632.2.2 bt639.1 bt639.2.1 bt639.2.2).bind fun bt646 => ((laws_eqBox.f k bt646.1 bt646.2.1 bt646.2.2.1 t570 t571 t574).bind fun t655 => (if t655 = true then (if (bt646.2.2.2 != t577) = true then (none) else ((laws_heldBox.f k t595 bt628.2.1 bt628.2.2 101).bind fun t656 => (if t656 < 0 then (none) else (if t656 = bt628.1 then (some true) else (none))))) else (none)))))) else (none))))) else (none)))))) else (none)))) else (none))))) else (none)) = some r := H
   have A24 := Aside0.mk A240
   clear A240
   by_cases c25 : t604 = true
   ·
    subst c25
    have H1 : (if (t602 != t577) = true then (none) else ((laws_toBox.f k a0_0 l0_1 l0_2 false).bind fun bt605 => ((laws_intactBox.f t579 t580 t583 bt605.1 bt605.2.1 bt605.2.2).bind fun t612 => (if t612 = true then ((laws_toBox.f k a1_0 l1_1 l1_2 false).bind fun bt613 => ((laws_intactBox.f t587 t588 t591 bt613.1 bt613.2.1 bt613.2.2).bind fun t620 => (if t620 = true then ((laws_markBox.f k t579 t580 t583 101).bind fun bt621 => ((laws_markBox.f k t587 t588 t591 bt621.1).bind fun bt624 => (if bt624.1 < 0 then (none) else ((laws_eqBox.f k t595 t596 t599 t570 t571 t574).bind fun t627 => (if t627 = true then ((laws_markBox.f k t595 t596 t599 101).bind fun bt628 => ((laws_heldBox.f k t595 bt628.2.1 bt628.2.2 101).bind fun t631 => (if t631 < 0 then (none) else (if t631 = bt628.1 then ((laws_toBox.f k a0_0 l0_1 l0_2 true).bind fun bt632 => ((laws_toBox.f k a1_0 l1_1 l1_2 true).bind fun bt639 => ((impl_CommonBox.f k bt632.1 bt632.2.1 bt632.2.2 bt639.1 bt639.2.1 bt639.2.2).bind fun bt646 => ((laws_eqBox.f k bt646.1 bt646.2.1 bt646.2.2.1 t570 t571 t574).bind fun t655 => (if t655 = true then (if (bt646.2.2.2 != t577) = true then (none) else ((laws_heldBox.f k t595 bt628.2.1 bt628.2.2 101).bind fun t656 => (if t656 < 0 then (none) else (if t656 = bt628.1 then (some true) else (none))))) else (none)))))) else (none))))) else (none)))))) else (none)))) else (none))))) = some r := by rw [if_pos rfl] at H; exact H
    clear H
    have H := H1
    clear H1
    by_cases c26 : (t602 != t577) = true
    ·
     rw [if_pos c26] at H
     exact absurd H (by simp)
    ·
     rw [if_neg c26] at H
     have c26b0 : (t602 != t577) = false := by simpa using c26
     (try (have c26b1 : decide (t602 = t577) = true := by simpa using c26))
     (try (have c26b2 : (t602 == t577) = true := by simpa using c26))
     clear c26
     replace H := Option.bind_eq_some_iff.mp H
     obtain ⟨⟨t605, t606, t609⟩, A270, H⟩ := H
     replace H : ((laws_intactBox.f t579 t580 t583 t605 t606 t609).bind fun t612 => (if t612 = true then ((laws_toBox.f k a1_0 l1_1 l1_2 false).bind fun bt613 => ((laws_intactBox.f t587 t588 t591 bt613.1 bt613.2.1 bt613.2.2).bind fun t620 => (if t620 = true then ((laws_markBox.f k t579 t580 t583 101).bind fun bt621 => ((laws_markBox.f k t587 t588 t591 bt621.1).bind fun bt624 => (if bt624.1 < 0 then (none) else ((laws_eqBox.f k t595 t596 t599 t570 t571 t574).bind fun t627 => (if t627 = true then ((laws_markBox.f k t595 t596 t599 101).bind fun bt628 => ((laws_heldBox.f k t595 bt628.2.1 bt628.2.2 101).bind fun t631 => (if t631 < 0 then (none) else (if t631 = bt628.1 then ((laws_toBox.f k a0_0 l0_1 l0_2 true).bind fun bt632 => ((laws_toBox.f k a1_0 l1_1 l1_2 true).bind fun bt639 => ((impl_CommonBox.f k bt632.1 bt632.2.1 bt632.2.2 bt639.1 bt639.2.1 bt639.2.2).bind fun bt646 => ((laws_eqBox.f k bt646.1 bt646.2.1 bt646.2.2.1 t570 t571 t574).bind fun t655 => (if t655 = true then (if (bt646.2.2.2 != t577) = true then (none) else ((laws_heldBox.f k t595 bt628.2.1 bt628.2.2 101).bind fun t656 => (if t656 < 0 then (none) else (if t656 = bt628.1 then (some true) else (none))))) else (none)))))) else (none))))) else (none)))))) else (none)))) else (none))) = some r := H
     have A27 := Aside0.mk A270
     clear A270
     replace H := Option.bind_eq_some_iff.mp H
     obtain ⟨t612, A280, H⟩ := H
     replace H : (if t612 = true then ((laws_toBox.f k a1_0 l1_1 l1_2 false).bind fun bt613 => ((laws_intactBox.f t587 t588 t591 bt613.1 bt613.2.1 bt613.2.2).bind fun t620 => (if t620 = true then ((laws_markBox.f k t579 t580 t583 101).bind fun bt621 => ((laws_markBox.f k t587 t588 t591 bt621.1).bind fun bt624 => (if bt624.1 < 0 then (none) else ((laws_eqBox.f k t595 t596 t599 t570 t571 t574).bind fun t627 => (if t627 = true then ((laws_markBox.f k t595 t596 t599 101).bind fun bt628 => ((laws_heldBox.f k t595 bt628.2.1 bt628.2.2 101).bind fun t631 => (if t631 < 0 then (none) else (if t631 = bt628.1 then ((laws_toBox.f k a0_0 l0_1 l0_2 true).bind fun bt632 => ((laws_toBox.f k a1_0 l1_1 l1_2 true).bind fun bt639 => ((impl_CommonBox.f k bt632.1 bt632.2.1 bt632.2.2 bt639.1 bt639.2.1 bt639.2.2).bind fun bt646 => ((laws_eqBox.f k bt646.1 bt646.2.1 bt646.2.2.1 t570 t571 t574).bind fun t655 => (if t655 = true then (if (bt646.2.2.2 != t577) = true then (none) else ((laws_heldBox.f k t595 bt628.2.1 bt628.2.2 101).bind fun t656 => (if t656 < 0 then (none) else (if t656 = bt628.1 then (some true) else (none))))) else (none)))))) else (none))))) else (none)))))) else (none)))) else (none)) = some r := H
     have A28 := Aside0.mk A280
     clear A280
     by_cases c29 : t612 = true
     ·
      subst c29
      have H1 : ((laws_toBox.f k a1_0 l1_1 l1_2 false).bind fun bt613 => ((laws_intactBox.f t587 t588 t591 bt613.1 bt613.2.1 bt613.2.2).bind fun t620 => (if t620 = true then ((laws_markBox.f k t579 t580 t583 101).bind fun bt621 => ((laws_markBox.f k t587 t588 t591 bt621.1).bind fun bt624 => (if bt624.1 < 0 then (none) else ((laws_eqBox.f k t595 t596 t599 t570 t571 t574).bind fun t627 => (if t627 = true then ((laws_markBox.f k t595 t596 t599 101).bind fun bt628 => ((laws_heldBox.f k t595 bt628.2.1 bt628.2.2 101).bind fun t631 => (if t631 < 0 then (none) else (if t631 = bt628.1 then ((laws_toBox.f k a0_0 l0_1 l0_2 true).bind fun bt632 => ((laws_toBox.f k a1_0 l1_1 l1_2 true).bind fun bt639 => ((impl_CommonBox.f k bt632.1 bt632.2.1 bt632.2.2 bt639.1 bt639.2.1 bt639.2.2).bind fun bt646 => ((laws_eqBox.f k bt646.1 bt646.2.1 bt646.2.2.1 t570 t571 t574).bind fun t655 => (if t655 = true then (if (bt646.2.2.2 != t577) = true then (none) else ((laws_heldBox.f k t595 bt628.2.1 bt628.2.2 101).bind fun t656 => (if t656 < 0 then (none) else (if t656 = bt628.1 then (some true) else (none))))) else (none)))))) else (none))))) else (none)))))) else (none)))) = some r := by rw [if_pos rfl] at H; exact H
      clear H
      have H := H1
      clear H1
      replace H := Option.bind_eq_some_iff.mp H
      obtain ⟨⟨t613, t614, t617⟩, A300, H⟩ := H
      replace H : ((laws_intactBox.f t587 t588 t591 t613 t614 t617).bind fun t620 => (if t620 = true then ((laws_markBox.f k t579 t580 t583 101).bind fun bt621 => ((laws_markBox.f k t587 t588 t591 bt621.1).bind fun bt624 => (if bt624.1 < 0 then (none) else ((laws_eqBox.f k t595 t596 t599 t570 t571 t574).bind fun t627 => (if t627 = true then ((laws_markBox.f k t595 t596 t599 101).bind fun bt628 => ((laws_heldBox.f k t595 bt628.2.1 bt628.2.2 101).bind fun t631 => (if t631 < 0 then (none) else (if t631 = bt628.1 then ((laws_toBox.f k a0_0 l0_1 l0_2 true).bind fun bt632 => ((laws_toBox.f k a1_0 l1_1 l1_2 true).bind fun bt639 => ((impl_CommonBox.f k bt632.1 bt632.2.1 bt632.2.2 bt639.1 bt639.2.1 bt639.2.2).bind fun bt646 => ((laws_eqBox.f k bt646.1 bt646.2.1 bt646.2.2.1 t570 t571 t574).bind fun t655 => (if t655 = true then (if (bt646.2.2.2 != t577) = true then (none) else ((laws_heldBox.f k t595 bt628.2.1 bt628.2.2 101).bind fun t656 => (if t656 < 0 then (none) else (if t656 = bt628.1 then (some true) else (none))))) else (none)))))) else (none))))) else (none)))))) else (none))) = some r := H
      have A30 := Aside0.mk A300
      clear A300
      replace H := Option.bind_eq_some_iff.mp H
      obtain ⟨t620, A310, H⟩ := H
      replace H : (if t620 = true then ((laws_markBox.f k t579 t580 t583 101).bind fun bt621 => ((laws_markBox.f k t587 t588 t591 bt621.1).bind fun bt624 => (if bt624.1 < 0 then (none) else ((laws_eqBox.f k t595 t596 t599 t570 t571 t574).bind fun t627 => (if t627 = true then ((laws_markBox.f k t595 t596 t599 101).bind fun bt628 => ((laws_heldBox.f k t595 bt628.2.1 bt628.2.2 101).bind fun t631 => (if t631 < 0 then (none) else (if t631 = bt628.1 then ((laws_toBox.f k a0_0 l0_1 l0_2 true).bind fun bt632 => ((laws_toBox.f k a1_0 l1_1 l1_2 true).bind fun bt639 => ((impl_CommonBox.f k bt632.1 bt632.2.1 bt632.2.2 bt639.1 bt639.2.1 bt639.2.2).bind fun bt646 => ((laws_eqBox.f k bt646.1 bt646.2.1 bt646.2.2.1 t570 t571 t574).bind fun t655 => (if t655 = true then (if (bt646.2.2.2 != t577) = true then (none) else ((laws_heldBox.f k t595 bt628.2.1 bt628.2.2 101).bind fun t656 => (if t656 < 0 then (none) else (if t656 = bt628.1 then (some true) else (none))))) else (none)))))) else (none))))) else (none)))))) else (none)) = some r := H
      have A31 := Aside0.mk A310
      clear A310
      by_cases c32 : t620 = true
      ·
       subst c32
       have H1 : ((laws_markBox.f k t579 t580 t583 101).bind fun bt621 => ((laws_markBox.f k t587 t588 t591 bt621.1).bind fun bt624 => (if bt624.1 < 0 then (none) else ((laws_eqBox.f k t595 t596 t599 t570 t571 t574).bind fun t627 => (if t627 = true then ((laws_markBox.f k t595 t596 t599 101).bind fun bt628 => ((laws_heldBox.f k t595 bt628.2.1 bt628.2.2 101).bind fun t631 => (if t631 < 0 then (none) else (if t631 = bt628.1 then ((laws_toBox.f k a0_0 l0_1 l0_2 true).bind fun bt632 => ((laws_toBox.f k a1_0 l1_1 l1_2 true).bind fun bt639 => ((impl_CommonBox.f k bt632.1 bt632.2.1 bt632.2.2 bt639.1 bt639.2.1 bt639.2.2).bind fun bt646 => ((laws_eqBox.f k bt646.1 bt646.2.1 bt646.2.2.1 t570 t571 t574).bind fun t655 => (if t655 = true then (if (bt646.2.2.2 != t577) = true then (none) else ((laws_heldBox.f k t595 bt628.2.1 bt628.2.2 101).bind fun t656 => (if t656 < 0 then (none) else (if t656 = bt628.1 then (some true) else (none))))) else (none)))))) else (none))))) else (none)))))) = some r := by rw [if_pos rfl] at H; exact H
       clear H
       have H := H1
       clear H1
       replace H := Option.bind_eq_some_iff.mp H
       obtain ⟨⟨t621, t622, t623⟩, A330, H⟩ := H
       replace H : ((laws_markBox.f k t587 t588 t591 t621).bind fun bt624 => (if bt624.1 < 0 then (none) else ((laws_eqBox.f k t595 t596 t599 t570 t571 t574).bind fun t627 => (if t627 = true then ((laws_markBox.f k t595 t596 t599 101).bind fun bt628 => ((laws_heldBox.f k t595 bt628.2.1 bt628.2.2 101).bind fun t631 => (if t631 < 0 then (none) else (if t631 = bt628.1 then ((laws_toBox.f k a0_0 l0_1 l0_2 true).bind fun bt632 => ((laws_toBox.f k a1_0 l1_1 l1_2 true).bind fun bt639 => ((impl_CommonBox.f k bt632.1 bt632.2.1 bt632.2.2 bt639.1 bt639.2.1 bt639.2.2).bind fun bt646 => ((laws_eqBox.f k bt646.1 bt646.2.1 bt646.2.2.1 t570 t571 t574).bind fun t655 => (if t655 = true then (if (bt646.2.2.2 != t577) = true then (none) else ((laws_heldBox.f k t595 bt628.2.1 bt628.2.2 101).bind fun t656 => (if t656 < 0 then (none) else (if t656 = bt628.1 then (some true) else (none))))) else (none)))))) else (none))))) else (none))))) = some r := H
       have A33 := Aside0.mk A330
       clear A330
       replace H := Option.bind_eq_some_iff.mp H
       obtain ⟨⟨t624, t625, t626⟩, A340, H⟩ := H
       replace H : (if t624 < 0 then (none) else ((laws_eqBox.f k t595 t596 t599 t570 t571 t574).bind fun t627 => (if t627 = true then ((laws_markBox.f k t595 t596 t599 101).bind fun bt628 => ((laws_heldBox.f k t595 bt628.2.1 bt628.2.2 101).bind fun t631 => (if t631 < 0 then (none) else (if t631 = bt628.1 then ((laws_toBox.f k a0_0 l0_1 l0_2 true).bind fun bt632 => ((laws_toBox.f k a1_0 l1_1 l1_2 true).bind fun bt639 => ((impl_CommonBox.f k bt632.1 bt632.2.1 bt632.2.2 bt639.1 bt639.2.1 bt639.2.2).bind fun bt646 => ((laws_eqBox.f k bt646.1 bt646.2.1 bt646.2.2.1 t570 t571 t574).bind fun t655 => (if t655 = true then (if (bt646.2.2.2 != t577) = true then (none) else ((laws_heldBox.f k t595 bt628.2.1 bt628.2.2 101).bind fun t656 => (if t656 < 0 then (none) else (if t656 = bt628.1 then (some true) else (none))))) else (none)))))) else (none))))) else (none)))) = some r := H
       have A34 := Aside0.mk A340
       clear A340
       by_cases c35 : t624 < 0
       ·
        rw [if_pos c35] at H
        exact absurd H (by simp)
       ·
        rw [if_neg c35] at H
        have c35b0 : decide (t624 < 0) = false := decide_eq_false c35
        clear c35
        replace H := Option.bind_eq_some_iff.mp H
        obtain ⟨t627, A360, H⟩ := H
        replace H : (if t627 = true then ((laws_markBox.f k t595 t596 t599 101).bind fun bt628 => ((laws_heldBox.f k t595 bt628.2.1 bt628.2.2 101).bind fun t631 => (if t631 < 0 then (none) else (if t631 = bt628.1 then ((laws_toBox.f k a0_0 l0_1 l0_2 true).bind fun bt632 => ((laws_toBox.f k a1_0 l1_1 l1_2 true).bind fun bt639 => ((impl_CommonBox.f k bt632.1 bt632.2.1 bt632.2.2 bt639.1 bt639.2.1 bt639.2.2).bind fun bt646 => ((laws_eqBox.f k bt646.1 bt646.2.1 bt646.2.2.1 t570 t571 t574).bind fun t655 => (if t655 = true then (if (bt646.2.2.2 != t577) = true then (none) else ((laws_heldBox.f k t595 bt628.2.1 bt628.2.2 101).bind fun t656 => (if t656 < 0 then (none) else (if t656 = bt628.1 then (some true) else (none))))) else (none)))))) else (none))))) else (none)) = some r := H
        have A36 := Aside0.mk A360
        clear A360
        by_cases c37 : t627 = true
        ·
         subst c37
         have H1 : ((laws_markBox.f k t595 t596 t599 101).bind fun bt628 => ((laws_heldBox.f k t595 bt628.2.1 bt628.2.2 101).bind fun t631 => (if t631 < 0 then (none) else (if t631 = bt628.1 then ((laws_toBox.f k a0_0 l0_1 l0_2 true).bind fun bt632 => ((laws_toBox.f k a1_0 l1_1 l1_2 true).bind fun bt639 => ((impl_CommonBox.f k bt632.1 bt632.2.1 bt632.2.2 bt639.1 bt639.2.1 bt639.2.2).bind fun bt646 => ((laws_eqBox.f k bt646.1 bt646.2.1 bt646.2.2.1 t570 t571 t574).bind fun t655 => (if t655 = true then (if (bt646.2.2.2 != t577) = true then (none) else ((laws_heldBox.f k t595 bt628.2.1 bt628.2.2 101).bind fun t656 => (if t656 < 0 then (none) else (if t656 = bt628.1 then (some true) else (none))))) else (none)))))) else (none))))) = some r := by rw [if_pos rfl] at H; exact H
         clear H
         have H := H1
         clear H1
         replace H := Option.bind_eq_some_iff.mp H
         obtain ⟨⟨t628, t629, t630⟩, A380, H⟩ := H
         replace H : ((laws_heldBox.f k t595 t629 t630 101).bind fun t631 => (if t631 < 0 then (none) else (if t631 = t628 then ((laws_toBox.f k a0_0 l0_1 l0_2 true).bind fun bt632 => ((laws_toBox.f k a1_0 l1_1 l1_2 true).bind fun bt639 => ((impl_CommonBox.f k bt632.1 bt632.2.1 bt632.2.2 bt639.1 bt639.2.1 bt639.2.2).bind fun bt646 => ((laws_eqBox.f k bt646.1 bt646.2.1 bt646.2.2.1 t570 t571 t574).bind fun t655 => (if t655 = true then (if (bt646.2.2.2 != t577) = true then (none) else ((laws_heldBox.f k t595 t629 t630 101).bind fun t656 => (if t656 < 0 then (none) else (if t656 = t628 then (some true) else (none))))) else (none)))))) else (none)))) = some r := H
         have A38 := Aside0.mk A380
         clear A380
         replace H := Option.bind_eq_some_iff.mp H
         obtain ⟨t631, A390, H⟩ := H
         replace H : (if t631 < 0 then (none) else (if t631 = t628 then ((laws_toBox.f k a0_0 l0_1 l0_2 true).bind fun bt632 => ((laws_toBox.f k a1_0 l1_1 l1_2 true).bind fun bt639 => ((impl_CommonBox.f k bt632.1 bt632.2.1 bt632.2.2 bt639.1 bt639.2.1 bt639.2.2).bind fun bt646 => ((laws_eqBox.f k bt646.1 bt646.2.1 bt646.2.2.1 t570 t571 t574).bind fun t655 => (if t655 = true then (if (bt646.2.2.2 != t577) = true then (none) else ((laws_heldBox.f k t595 t629 t630 101).bind fun t656 => (if t656 < 0 then (none) else (if t656 = t628 then (some true) else (none))))) else (none)))))) else (none))) = some r := H
         have A39 := Aside0.mk A390
         clear A390
         by_cases c40 : t631 < 0
         ·
          rw [if_pos c40] at H
          exact absurd H (by simp)
         ·
          rw [if_neg c40] at H
          have c40b0 : decide (t631 < 0) = false := decide_eq_false c40
          clear c40
          by_cases c41 : t631 = t628
          ·
           rw [if_pos c41] at H
           have c41b0 : (t631 == t628) = true := beq_iff_eq.mpr c41
           have c41b1 : (t631 != t628) = false := bne_eq_false_iff_eq.mpr c41
           clear c41
           replace H := Option.bind_eq_some_iff.mp H
           obtain ⟨⟨t632, t633, t636⟩, A420, H⟩ := H
           replace H : ((laws_toBox.f k a1_0 l1_1 l1_2 true).bind fun bt639 => ((impl_CommonBox.f k t632 t633 t636 bt639.1 bt639.2.1 bt639.2.2).bind fun bt646 => ((laws_eqBox.f k bt646.1 bt646.2.1 bt646.2.2.1 t570 t571 t574).bind fun t655 => (if t655 = true then (if (bt646.2.2.2 != t577) = true then (none) else ((laws_heldBox.f k t595 t629 t630 101).bind fun t656 => (if t656 < 0 then (none) else (if t656 = t628 then (some true) else (none))))) else (none))))) = some r := H
           have A42 := Aside0.mk A420
           clear A420
           replace H := Option.bind_eq_some_iff.mp H
           obtain ⟨⟨t639, t640, t643⟩, A430, H⟩ := H
           replace H : ((impl_CommonBox.f k t632 t633 t636 t639 t640 t643).bind fun bt646 => ((laws_eqBox.f k bt646.1 bt646.2.1 bt646.2.2.1 t570 t571 t574).bind fun t655 => (if t655 = true then (if (bt646.2.2.2 != t577) = true then (none) else ((laws_heldBox.f k t595 t629 t630 101).bind fun t656 => (if t656 < 0 then (none) else (if t656 = t628 then (some true) else (none))))) else (none)))) = some r := H
           have A43 := Aside0.mk A430
           clear A430
           replace H := Option.bind_eq_some_iff.mp H
           obtain ⟨⟨t646, t647, t650, t653⟩, A440, H⟩ := H
           replace H : ((laws_eqBox.f k t646 t647 t650 t570 t571 t574).bind fun t655 => (if t655 = true then (if (t653 != t577) = true then (none) else ((laws_heldBox.f k t595 t629 t630 101).bind fun t656 => (if t656 < 0 then (none) else (if t656 = t628 then (some true) else (none))))) else (none))) = some r := H
           have A44 := Aside0.mk A440
           clear A440
           replace H := Option.bind_eq_some_iff.mp H
           obtain ⟨t655, A450, H⟩ := H
           replace H : (if t655 = true then (if (t653 != t577) = true then (none) else ((laws_heldBox.f k t595 t629 t630 101).bind fun t656 => (if t656 < 0 then (none) else (if t656 = t628 then (some true) else (none))))) else (none)) = some r := H
           have A45 := Aside0.mk A450
           clear A450
           by_cases c46 : t655 = true
           ·
            subst c46
            have H1 : (if (t653 != t577) = true then (none) else ((laws_heldBox.f k t595 t629 t630 101).bind fun t656 => (if t656 < 0 then (none) else (if t656 = t628 then (some true) else (none))))) = some r := by rw [if_pos rfl] at H; exact H
            clear H
            have H := H1
            clear H1
            by_cases c47 : (t653 != t577) = true
            ·
             rw [if_pos c47] at H
             exact absurd H (by simp)
            ·
             rw [if_neg c47] at H
             have c47b0 : (t653 != t577) = false := by simpa using c47
             (try (have c47b1 : decide (t653 = t577) = true := by simpa using c47))
             (try (have c47b2 : (t653 == t577) = true := by simpa using c47))
             clear c47
             replace H := Option.bind_eq_some_iff.mp H
             obtain ⟨t656, A480, H⟩ := H
             replace H : (if t656 < 0 then (none) else (if t656 = t628 then (some true) else (none))) = some r := H
             have A48 := Aside0.mk A480
             clear A480
             by_cases c49 : t656 < 0
             ·
              rw [if_pos c49] at H
              exact absurd H (by simp)
             ·
              rw [if_neg c49] at H
              have c49b0 : decide (t656 < 0) = false := decide_eq_false c49
              clear c49
              by_cases c50 : t656 = t628
              ·
               rw [if_pos c50] at H
               have c50b0 : (t656 == t628) = true := beq_iff_eq.mpr c50
               have c50b1 : (t656 != t628) = false := bne_eq_false_iff_eq.mpr c50
               clear c50
               obtain rfl := Option.some.inj H
               go_enter Try.func12, Try.ntmps12
               try go_wp2_with (first | ((with_reducible refine gate_dst (N := 2) rfl ?_); refine zbe (N := 2) (cs := #[.int .i64 a0_0, .slice A0_1 l0_1.length c0_1, .slice A0_2 l0_2.length c0_2]) (t := 24) ?_; intro gb552 hg w51 hbox hb; have BK552 := Aside0.mk (hbox); have GW552 := Aside0.mk (zge (zb0 HB) hg); have GE552 := GW552; replace HB := Aside0.mk (below_step (zb0 HB) hb); clear hb hbox hg) | ((with_reducible refine gate_dst (N := 3) rfl ?_); refine zbe (N := 3) (cs := #[.int .i64 a1_0, .slice A1_1 l1_1.length c1_1, .slice A1_2 l1_2.length c1_2]) (t := 24) ?_; intro gb553 hg w52 hbox hb; have BK553 := Aside0.mk (hbox); have GW553 := Aside0.mk (zge (zb1 HB) hg); have GE553 := GW553; have NB552_553 := Aside0.mk (zlt BK552 hg); have NB553_552 := Aside0.mk (zgt BK552 hg); replace BK552 := Aside0.mk (zbb BK552 hb); replace HB := Aside0.mk (below_step (zb1 HB) hb); clear hb hbox hg; have hnb53 := NB552_553.out; have hnc53 := NB553_552.out; have hcz54_0 : w52.cell? ⟨gb552, 0, none⟩ = some (.int .i64 a0_0) := zc BK552 0; have hcz54_1 : w52.cell? ⟨gb552, 1, none⟩ = some (.slice A0_1 l0_1.length c0_1) := zc BK552 1; have hcz54_2 : w52.cell? ⟨gb552, 2, none⟩ = some (.slice A0_2 l0_2.length c0_2) := zc BK552 2; have hfz54_0 := blk_frozen BK552.out 0; have hfz54_1 := blk_frozen BK552.out 1; have hfz54_2 := blk_frozen BK552.out 2) | ((with_reducible refine gate_callee (f := 14) rfl ?_); refine goesL_ (some 19) rfl rfl Try.func14 (by kernel_rfl) rfl #[.agg #[.int .i64 a0_0, .slice A0_1 l0_1.length c0_1, .slice A0_2 l0_2.length c0_2], .int .i64 1000000] rfl zq6 ?_; (with_reducible refine (laws_szBox.calls a0_0 _ _ l0_1 _ _ l0_2 1000000 t554 _ ?side1 ?side2 ?side3 ?side4 A3.out).mono ?_); (case side1 => exact zcs HR0_1 HB); (case side2 => exact HC0_1.out); (case side3 => exact zcs HR0_2 HB); (case side4 => exact HC0_2.out); rintro e w55 ⟨rfl, hb⟩; refine ⟨_, rfl, ?_⟩; replace BK552 := Aside0.mk (zbb BK552 hb); replace BK553 := Aside0.mk (zbb BK553 hb); replace HB := Aside0.mk (below_step (zb1 HB) hb); (try clear hb); (try clear hb2); (try clear hk); (try clear hi); have hcz56_0 : w55.cell? ⟨gb553, 0, none⟩ = some (.int .i64 a1_0) := zc BK553 0; have hcz56_1 : w55.cell? ⟨gb553, 1, none⟩ = some (.slice A1_1 l1_1.length c1_1) := zc BK553 1; have hcz56_2 : w55.cell? ⟨gb553, 2, none⟩ = some (.slice A1_2 l1_2.length c1_2) := zc BK553 2; have hfz56_0 := blk_frozen BK553.out 0; have hfz56_1 := blk_frozen BK553.out 1; have hfz56_2 := blk_frozen BK553.out 2) | ((with_reducible refine gate_callee (f := 14) rfl ?_); refine goesL_ (some 24) rfl rfl Try.func14 (by kernel_rfl) rfl #[.agg #[.int .i64 a1_0, .slice A1_1 l1_1.length c1_1, .slice A1_2 l1_2.length c1_2], .int .i64 t554] rfl zq6 ?_; (with_reducible refine (laws_szBox.calls a1_0 _ _ l1_1 _ _ l1_2 t554 t555 _ ?side1 ?side2 ?side3 ?side4 A9.out).mono ?_); (case side1 => exact zcs HR1_1 HB); (case side2 => exact HC1_1.out); (case side3 => exact zcs HR1_2 HB); (case side4 => exact HC1_2.out); rintro e w57 ⟨rfl, hb⟩; refine ⟨_, rfl, ?_⟩; replace BK552 := Aside0.mk (zbb BK552 hb); replace BK553 := Aside0.mk (zbb BK553 hb); replace HB := Aside0.mk (below_step (zb1 HB) hb); (try clear hb); (try clear hb2); (try clear hk); (try clear hi)))
               replace BK552 := Aside0.mk (blk_drew BK552.out); replace BK553 := Aside0.mk (blk_drew BK553.out); replace HB := Aside0.mk (below_drew1 HB.out)
               refine start_ (n := 11) (S := fun w' => w'.cell? ⟨gb552, 0, none⟩ = some (.int .i64 a0_0) ∧ w'.cell? ⟨gb552, 1, none⟩ = some (.slice A0_1 l0_1.length c0_1) ∧ w'.cell? ⟨gb552, 2, none⟩ = some (.slice A0_2 l0_2.length c0_2) ∧ w'.cell? ⟨gb553, 0, none⟩ = some (.int .i64 a1_0) ∧ w'.cell? ⟨gb553, 1, none⟩ = some (.slice A1_1 l1_1.length c1_1) ∧ w'.cell? ⟨gb553, 2, none⟩ = some (.slice A1_2 l1_2.length c1_2)) (ds := []) #[false, false, false, false, false, false, false, false, false, false, false] (by kernel_rfl) rfl rfl ⟨zc BK552 0, zc BK552 1, zc BK552 2, zc BK553 0, zc BK553 1, zc BK553 2⟩ (fun hHeld => ?_); refine with_tabW laws_FnExactCommonBox.tab8 laws_FnExactCommonBox.bits8 (fun HT_ HW_ => ?_)
               generalize w57.drew = w58 at BK552 BK553 HB hHeld ⊢
               refine take_ (i := 0) (N := some 28) (v := ?_) (a' := ?_) #[true, false, false, false, false, false, false, false, false, false, false] rfl rfl (take_ofW HT_.out HW_.out (by kernel_rfl)) (fun _ _ _ h => h) (Or.inl ⟨by rfl, ?_⟩) hHeld ?_ ?_
               rotate_left
               ·
                rintro w' ⟨s0, s1, s2, s3, s4, s5⟩
                go_simp
                with_reducible rfl
               rotate_left
               ·
                simp only [Act.put, List.setIfInBounds_toArray, List.set_cons_zero, List.set_cons_succ, i64_w, i32_w]
                rfl
               refine take_ (i := 2) (N := some 30) (v := ?_) (a' := ?_) #[true, false, true, false, false, false, false, false, false, false, false] rfl rfl (take_ofW HT_.out HW_.out (by kernel_rfl)) (fun _ _ _ h => h) (Or.inl ⟨by rfl, ?_⟩) hHeld ?_ ?_
               rotate_left
               ·
                rintro w' ⟨s0, s1, s2, s3, s4, s5⟩
                go_simp
                with_reducible rfl
               rotate_left
               ·
                simp only [Act.put, List.setIfInBounds_toArray, List.set_cons_zero, List.set_cons_succ, i64_w, i32_w]
                rfl
               refine join_ (σ := Value × Value × Value × Value × Value × Value × Nat) 2 #[true, true, true, true, true, true, true, true, true, false, false] (fun s_ => [(29, .agg #[.int .i64 t556, s_.1, s_.2.1]), (31, .agg #[.int .i64 t563, s_.2.2.1, s_.2.2.2.1]), (32, .tuple #[.agg #[.int .i64 t570, s_.2.2.2.2.1, s_.2.2.2.2.2.1], .bool t577]), (6, .pointer (some ⟨s_.2.2.2.2.2.2, 0, none⟩)), (27, .tuple #[.agg #[.int .i64 t570, s_.2.2.2.2.1, s_.2.2.2.2.2.1], .bool t577]), (33, .agg #[.int .i64 t570, s_.2.2.2.2.1, s_.2.2.2.2.2.1]), (34, .bool t577)]) (fun s_ w' => (w'.cell? ⟨gb552, 0, none⟩ = some (.int .i64 a0_0) ∧ w'.cell? ⟨gb552, 1, none⟩ = some (.slice A0_1 l0_1.length c0_1) ∧ w'.cell? ⟨gb552, 2, none⟩ = some (.slice A0_2 l0_2.length c0_2) ∧ w'.cell? ⟨gb553, 0, none⟩ = some (.int .i64 a1_0) ∧ w'.cell? ⟨gb553, 1, none⟩ = some (.slice A1_1 l1_1.length c1_1) ∧ w'.cell? ⟨gb553, 2, none⟩ = some (.slice A1_2 l1_2.length c1_2)) ∧ (Kd.R (Kd.int .i64) 3 w' w.heap.size (fun k_ => some k_ ≠ (s_.2.1 : Value).ownBlock ∧ some k_ ≠ (s_.2.2.1 : Value).ownBlock ∧ some k_ ≠ (s_.2.2.2.1 : Value).ownBlock ∧ some k_ ≠ (s_.2.2.2.2.1 : Value).ownBlock ∧ some k_ ≠ (s_.2.2.2.2.2.1 : Value).ownBlock) s_.1 t557) ∧ (Kd.R (Kd.int .i64) 3 w' w.heap.size (fun k_ => some k_ ≠ (s_.1 : Value).ownBlock ∧ some k_ ≠ (s_.2.2.1 : Value).ownBlock ∧ some k_ ≠ (s_.2.2.2.1 : Value).ownBlock ∧ some k_ ≠ (s_.2.2.2.2.1 : Value).ownBlock ∧ some k_ ≠ (s_.2.2.2.2.2.1 : Value).ownBlock) s_.2.1 t560) ∧ (Kd.R (Kd.int .i64) 3 w' w.heap.size (fun k_ => some k_ ≠ (s_.1 : Value).ownBlock ∧ some k_ ≠ (s_.2.1 : Value).ownBlock ∧ some k_ ≠ (s_.2.2.2.1 : Value).ownBlock ∧ some k_ ≠ (s_.2.2.2.2.1 : Value).ownBlock ∧ some k_ ≠ (s_.2.2.2.2.2.1 : Value).ownBlock) s_.2.2.1 t564) ∧ (Kd.R (Kd.int .i64) 3 w' w.heap.size (fun k_ => some k_ ≠ (s_.1 : Value).ownBlock ∧ some k_ ≠ (s_.2.1 : Value).ownBlock ∧ some k_ ≠ (s_.2.2.1 : Value).ownBlock ∧ some k_ ≠ (s_.2.2.2.2.1 : Value).ownBlock ∧ some k_ ≠ (s_.2.2.2.2.2.1 : Value).ownBlock) s_.2.2.2.1 t567) ∧ (Kd.R (Kd.int .i64) 3 w' w.heap.size (fun k_ => some k_ ≠ (s_.1 : Value).ownBlock ∧ some k_ ≠ (s_.2.1 : Value).ownBlock ∧ some k_ ≠ (s_.2.2.1 : Value).ownBlock ∧ some k_ ≠ (s_.2.2.2.1 : Value).ownBlock ∧ some k_ ≠ (s_.2.2.2.2.2.1 : Value).ownBlock) s_.2.2.2.2.1 t571) ∧ (Kd.R (Kd.int .i64) 3 w' w.heap.size (fun k_ => some k_ ≠ (s_.1 : Value).ownBlock ∧ some k_ ≠ (s_.2.1 : Value).ownBlock ∧ some k_ ≠ (s_.2.2.1 : Value).ownBlock ∧ some k_ ≠ (s_.2.2.2.1 : Value).ownBlock ∧ some k_ ≠ (s_.2.2.2.2.1 : Value).ownBlock) s_.2.2.2.2.2.1 t574) ∧ (w'.heap[gb552]? = some (.cells #[.int .i64 a0_0, .slice A0_1 l0_1.length c0_1, .slice A0_2 l0_2.length c0_2] 24 (0, 0))) ∧ (w'.heap[gb553]? = some (.cells #[.int .i64 a1_0, .slice A1_1 l1_1.length c1_1, .slice A1_2 l1_2.length c1_2] 24 (0, 0))) ∧ (w'.heap[s_.2.2.2.2.2.2]? = some (.cells #[.int .i64 0, .slice none 0 0, .slice none 0 0] 27 (0, 0))) ∧ (w.heap.size ≤ s_.2.2.2.2.2.2) ∧ (w.heap.size ≤ s_.2.2.2.2.2.2) ∧ (gb552 ≠ s_.2.2.2.2.2.2) ∧ (s_.2.2.2.2.2.2 ≠ gb552) ∧ (gb553 ≠ s_.2.2.2.2.2.2) ∧ (s_.2.2.2.2.2.2 ≠ gb553) ∧ (Below w.heap.size w w')) ?_ ?_
               rotate_left
               ·
                intro hCont
                refine two_ (i := 1) (j := 8) (Ni := some 29) (Nj := some 6) #[true, true, true, false, false, false, false, false, false, false, false] #[true, false, true, false, false, false, false, false, true, false, false] rfl rfl rfl rfl (two_of HT_.out (by kernel_rfl)) (by decide) (by decide) (fun K hK => ?_) (fun K hK => ?_)
                ·
                 refine goes_ Try.func16 (by kernel_rfl) rfl #[.agg #[.int .i64 a0_0, .slice A0_1 l0_1.length c0_1, .slice A0_2 l0_2.length c0_2], .bool false] (by rfl) rfl rfl zq6 ?_
                 with_reducible refine (laws_toBox.calls k a0_0 _ _ l0_1 _ _ l0_2 false t556 t557 t560 _ ?side1 ?side2 ?side3 ?side4 A18.out).mono ?_
                 (case side1 => exact zcs HR0_1 HB)
                 (case side2 => exact HC0_1.out)
                 (case side3 => exact zcs HR0_2 HB)
                 (case side4 => exact HC0_2.out)
                 rintro e w59 ⟨v558, v561, rfl, ho0, ho1, hb, ho0F, ho1F⟩
                 refine ⟨_, rfl, ?_⟩
                 have n0_ := Aside0.mk (Kd.R_lower ho0 (below_size (zb1 HB)))
                 have n0F_ := Aside0.mk (Kd.R_lower ho0F (below_size (zb1 HB)))
                 have n1_ := Aside0.mk (Kd.R_lower ho1 (below_size (zb1 HB)))
                 have n1F_ := Aside0.mk (Kd.R_lower ho1F (below_size (zb1 HB)))
                 have n2_ := Aside0.mk (zbb BK552 hb)
                 have n3_ := Aside0.mk (zbb BK553 hb)
                 have n4_ := Aside0.mk (below_step (zb1 HB) hb)
                 clear BK552 BK553 HB
                 have HO559 := n0_; have HO559F := n0F_; have HO562 := n1_; have HO562F := n1F_; have BK552 := n2_; have BK553 := n3_; have HB := n4_
                 clear n0_ n1_ n2_ n3_ n4_ n0F_ n1F_
                 (try clear hb)
                 (try clear hb2)
                 (try clear hk)
                 (try clear hi)
                 (try clear ho0)
                 (try clear ho0F)
                 (try clear ho1)
                 (try clear ho1F)
                 refine hK.out _ _ ⟨zc BK552 0, zc BK552 1, zc BK552 2, zc BK553 0, zc BK553 1, zc BK553 2⟩ (fun hHeld => ?_)
                 clear hK K
                 refine norm_ (a' := ?_) ?_ ?_
                 rotate_left
                 ·
                  show Act.put _ (some 29) _ = _
                  simp only [Act.put, List.setIfInBounds_toArray, List.set_cons_zero, List.set_cons_succ, i64_w, i32_w]; rfl
                 refine two_ (i := 3) (j := 8) (Ni := some 31) (Nj := some 6) #[true, true, true, true, false, false, false, false, false, false, false] #[true, true, true, false, false, false, false, false, true, false, false] rfl rfl rfl rfl (two_of HT_.out (by kernel_rfl)) (by decide) (by decide) (fun K hK => ?_) (fun K hK => ?_)
                 ·
                  refine goes_ Try.func16 (by kernel_rfl) rfl #[.agg #[.int .i64 a1_0, .slice A1_1 l1_1.length c1_1, .slice A1_2 l1_2.length c1_2], .bool false] (by rfl) rfl rfl zq6 ?_
                  with_reducible refine (laws_toBox.calls k a1_0 _ _ l1_1 _ _ l1_2 false t563 t564 t567 _ ?side1 ?side2 ?side3 ?side4 A19.out).mono ?_
                  (case side1 => exact zcs HR1_1 HB)
                  (case side2 => exact HC1_1.out)
                  (case side3 => exact zcs HR1_2 HB)
                  (case side4 => exact HC1_2.out)
                  rintro e w60 ⟨v565, v568, rfl, ho0, ho1, hb, ho0F, ho1F⟩
                  refine ⟨_, rfl, ?_⟩
                  have n0_ := Aside0.mk (zt2 (zq3 HO559) hb ho0 ho1)
                  have n0F_ := Aside0.mk (zt2 (zq3 HO559F) hb ho0 ho1)
                  have n1_ := Aside0.mk (zt2 (zq3 HO562) hb ho0 ho1)
                  have n1F_ := Aside0.mk (zt2 (zq3 HO562F) hb ho0 ho1)
                  have n2_ := Aside0.mk (Kd.R_lower (zn (zn ho0 HO559) HO562) (below_size (zb1 HB)))
                  have n2F_ := Aside0.mk (Kd.R_lower (zn (zn ho0F HO559) HO562) (below_size (zb1 HB)))
                  have n3_ := Aside0.mk (Kd.R_lower (zn (zn ho1 HO559) HO562) (below_size (zb1 HB)))
                  have n3F_ := Aside0.mk (Kd.R_lower (zn (zn ho1F HO559) HO562) (below_size (zb1 HB)))
                  have n4_ := Aside0.mk (zbb BK552 hb)
                  have n5_ := Aside0.mk (zbb BK553 hb)
                  have n6_ := Aside0.mk (below_step (zb1 HB) hb)
                  clear HO559 HO559F HO562 HO562F BK552 BK553 HB
                  have HO559 := n0_; have HO559F := n0F_; have HO562 := n1_; have HO562F := n1F_; have HO566 := n2_; have HO566F := n2F_; have HO569 := n3_; have HO569F := n3F_; have BK552 := n4_; have BK553 := n5_; have HB := n6_
                  clear n0_ n1_ n2_ n3_ n4_ n5_ n6_ n0F_ n1F_ n2F_ n3F_
                  (try clear hb)
                  (try clear hb2)
                  (try clear hk)
                  (try clear hi)
                  (try clear ho0)
                  (try clear ho0F)
                  (try clear ho1)
                  (try clear ho1F)
                  obtain ⟨Ao61, co61, eo61⟩ := Kd.R_slice HO559.out
                  (first | subst eo61 | (injection eo61 with f1_ f2_ f3_; have f4_ := f1_.symm; have f5_ := f3_.symm; clear f1_ f2_ f3_; subst f4_; subst f5_))
                  obtain ⟨Ao62, co62, eo62⟩ := Kd.R_slice HO562.out
                  (first | subst eo62 | (injection eo62 with f1_ f2_ f3_; have f4_ := f1_.symm; have f5_ := f3_.symm; clear f1_ f2_ f3_; subst f4_; subst f5_))
                  obtain ⟨Ao63, co63, eo63⟩ := Kd.R_slice HO566.out
                  (first | subst eo63 | (injection eo63 with f1_ f2_ f3_; have f4_ := f1_.symm; have f5_ := f3_.symm; clear f1_ f2_ f3_; subst f4_; subst f5_))
                  obtain ⟨Ao64, co64, eo64⟩ := Kd.R_slice HO569.out
                  (first | subst eo64 | (injection eo64 with f1_ f2_ f3_; have f4_ := f1_.symm; have f5_ := f3_.symm; clear f1_ f2_ f3_; subst f4_; subst f5_))
                  refine hK.out _ _ ⟨zc BK552 0, zc BK552 1, zc BK552 2, zc BK553 0, zc BK553 1, zc BK553 2⟩ (fun hHeld => ?_)
                  clear hK K
                  refine norm_ (a' := ?_) ?_ ?_
                  rotate_left
                  ·
                   show Act.put _ (some 31) _ = _
                   simp only [Act.put, List.setIfInBounds_toArray, List.set_cons_zero, List.set_cons_succ, i64_w, i32_w]; rfl
                  refine two_ (i := 4) (j := 8) (Ni := some 32) (Nj := some 6) #[true, true, true, true, true, false, false, false, false, false, false] #[true, true, true, true, false, false, false, false, true, false, false] rfl rfl rfl rfl (two_of HT_.out (by kernel_rfl)) (by decide) (by decide) (fun K hK => ?_) (fun K hK => ?_)
                  ·
                   refine goes_ Try.func48 (by kernel_rfl) rfl #[.agg #[.int .i64 t556, .slice Ao61 t557.length co61, .slice Ao62 t560.length co62], .agg #[.int .i64 t563, .slice Ao63 t564.length co63, .slice Ao64 t567.length co64]] (by rfl) rfl rfl zq6 ?_
                   with_reducible refine (spec_CommonBox.calls k t556 _ _ t557 _ _ t560 t563 _ _ t564 _ _ t567 t570 t571 t574 t577 _ ?side1 ?side2 ?side3 ?side4 ?side5 ?side6 ?side7 ?side8 A20.out).mono ?_
                   (case side1 => exact zcr HO559)
                   (case side2 => exact (Kd.R_reads' HO559.out).2.1)
                   (case side3 => exact zcr HO562)
                   (case side4 => exact (Kd.R_reads' HO562.out).2.1)
                   (case side5 => exact zcr HO566)
                   (case side6 => exact (Kd.R_reads' HO566.out).2.1)
                   (case side7 => exact zcr HO569)
                   (case side8 => exact (Kd.R_reads' HO569.out).2.1)
                   rintro e w65 ⟨v572, v575, rfl, ho0, ho1, hb⟩
                   refine ⟨_, rfl, ?_⟩
                   have n0_ := Aside0.mk (zt2 (zq3 HO559) hb ho0 ho1)
                   have n0F_ := Aside0.mk (zt2 (zq3 HO559F) hb ho0 ho1)
                   have n1_ := Aside0.mk (zt2 (zq3 HO562) hb ho0 ho1)
                   have n1F_ := Aside0.mk (zt2 (zq3 HO562F) hb ho0 ho1)
                   have n2_ := Aside0.mk (zt2 (zq3 HO566) hb ho0 ho1)
                   have n2F_ := Aside0.mk (zt2 (zq3 HO566F) hb ho0 ho1)
                   have n3_ := Aside0.mk (zt2 (zq3 HO569) hb ho0 ho1)
                   have n3F_ := Aside0.mk (zt2 (zq3 HO569F) hb ho0 ho1)
                   have n4_ := Aside0.mk (Kd.R_lower (zn (zn (zn (zn ho0 HO559) HO562) HO566) HO569) (below_size (zb1 HB)))
                   have n5_ := Aside0.mk (Kd.R_lower (zn (zn (zn (zn ho1 HO559) HO562) HO566) HO569) (below_size (zb1 HB)))
                   have n6_ := Aside0.mk (zbb BK552 hb)
                   have n7_ := Aside0.mk (zbb BK553 hb)
                   have n8_ := Aside0.mk (below_step (zb1 HB) hb)
                   clear HO559 HO559F HO562 HO562F HO566 HO566F HO569 HO569F BK552 BK553 HB
                   have HO559 := n0_; have HO559F := n0F_; have HO562 := n1_; have HO562F := n1F_; have HO566 := n2_; have HO566F := n2F_; have HO569 := n3_; have HO569F := n3F_; have HO573 := n4_; have HO576 := n5_; have BK552 := n6_; have BK553 := n7_; have HB := n8_
                   clear n0_ n1_ n2_ n3_ n4_ n5_ n6_ n7_ n8_ n0F_ n1F_ n2F_ n3F_
                   (try clear hb)
                   (try clear hb2)
                   (try clear hk)
                   (try clear hi)
                   (try clear ho0)
                   (try clear ho1)
                   refine hK.out _ _ ⟨zc BK552 0, zc BK552 1, zc BK552 2, zc BK553 0, zc BK553 1, zc BK553 2⟩ (fun hHeld => ?_)
                   clear hK K
                   refine norm_ (a' := ?_) ?_ ?_
                   rotate_left
                   ·
                    show Act.put _ (some 32) _ = _
                    simp only [Act.put, List.setIfInBounds_toArray, List.set_cons_zero, List.set_cons_succ, i64_w, i32_w]; rfl
                   refine zp (i := 5) (N := some 27) #[true, true, true, true, true, true, false, false, false, false, false] (any_of HT_.out (by kernel_rfl)) ?_
                   refine zp (i := 6) (N := some 33) #[true, true, true, true, true, true, true, false, false, false, false] (any_of HT_.out (by kernel_rfl)) ?_
                   refine zp (i := 7) (N := some 34) #[true, true, true, true, true, true, true, true, false, false, false] (any_of HT_.out (by kernel_rfl)) ?_
                   refine one_ (i := 8) (N := some 6) #[true, true, true, true, true, true, true, true, true, false, false] rfl rfl (one_of HT_.out (by kernel_rfl)) (by decide) (fun K hK => ?_)
                   refine box_step ?hg (N := 6) ?hd (cs := #[.int .i64 0, .slice none 0 0, .slice none 0 0]) (t := 27) ?hr ?_; (case hd => rfl); (case hg => rfl); (case hr => first | (go_simp; done) | (go_simp; rfl))
                   intro gb578 hg w66 hbox hb
                   have n0_ := Aside0.mk (Kd.R_below (zq3 HO559) hb)
                   have n0F_ := Aside0.mk (Kd.R_below (zq3 HO559F) hb)
                   have n1_ := Aside0.mk (Kd.R_below (zq3 HO562) hb)
                   have n1F_ := Aside0.mk (Kd.R_below (zq3 HO562F) hb)
                   have n2_ := Aside0.mk (Kd.R_below (zq3 HO566) hb)
                   have n2F_ := Aside0.mk (Kd.R_below (zq3 HO566F) hb)
                   have n3_ := Aside0.mk (Kd.R_below (zq3 HO569) hb)
                   have n3F_ := Aside0.mk (Kd.R_below (zq3 HO569F) hb)
                   have n4_ := Aside0.mk (Kd.R_below (zq3 HO573) hb)
                   have n5_ := Aside0.mk (Kd.R_below (zq3 HO576) hb)
                   have n6_ := Aside0.mk (zbb BK552 hb)
                   have n7_ := Aside0.mk (zbb BK553 hb)
                   have n8_ := Aside0.mk (below_step (zb1 HB) hb)
                   have n9_ := Aside0.mk (hbox)
                   have n10_ := Aside0.mk (zge (zb1 HB) hg)
                   have n11_ := Aside0.mk (zge (zb1 HB) hg)
                   have n12_ := Aside0.mk (zlt BK552 hg)
                   have n13_ := Aside0.mk (zgt BK552 hg)
                   have n14_ := Aside0.mk (zlt BK553 hg)
                   have n15_ := Aside0.mk (zgt BK553 hg)
                   clear HO559 HO559F HO562 HO562F HO566 HO566F HO569 HO569F HO573 HO576 BK552 BK553 HB
                   have HO559 := n0_; have HO559F := n0F_; have HO562 := n1_; have HO562F := n1F_; have HO566 := n2_; have HO566F := n2F_; have HO569 := n3_; have HO569F := n3F_; have HO573 := n4_; have HO576 := n5_; have BK552 := n6_; have BK553 := n7_; have HB := n8_; have BK578 := n9_; have GW578 := n10_; have GE578 := n11_; have NB552_578 := n12_; have NB578_552 := n13_; have NB553_578 := n14_; have NB578_553 := n15_
                   clear n0_ n1_ n2_ n3_ n4_ n5_ n6_ n7_ n8_ n9_ n10_ n11_ n12_ n13_ n14_ n15_ n0F_ n1F_ n2F_ n3F_ hb hbox hg
                   refine hK.out _ _ ⟨zc BK552 0, zc BK552 1, zc BK552 2, zc BK553 0, zc BK553 1, zc BK553 2⟩ (fun hHeld => ?_)
                   clear hK K
                   refine norm_ (a' := ?_) ?_ ?_
                   rotate_left
                   ·
                    show Act.put _ (some 6) _ = _
                    simp only [Act.put, List.setIfInBounds_toArray, List.set_cons_zero, List.set_cons_succ, i64_w, i32_w]; rfl
                   exact norm_ (by simp only [putAll, Act.put, List.setIfInBounds_toArray, List.set_cons_zero, List.set_cons_succ]) (hCont (.slice Ao61 t557.length co61, .slice Ao62 t560.length co62, .slice Ao63 t564.length co63, .slice Ao64 t567.length co64, v572, v575, gb578) _ ⟨hHeld, (zqm HO559), (zqm HO562), (zqm HO566), (zqm HO569), (zqm HO573), (zqm HO576), (zq1 BK552), (zq1 BK553), (zq1 BK578), GW578.out, GE578.out, NB552_578.out, NB578_552.out, NB553_578.out, NB578_553.out, (zb1 HB)⟩)
                  ·
                   refine box_step ?hg (N := 6) ?hd (cs := #[.int .i64 0, .slice none 0 0, .slice none 0 0]) (t := 27) ?hr ?_; (case hd => rfl); (case hg => rfl); (case hr => first | (go_simp; done) | (go_simp; rfl))
                   intro gb578 hg w61 hbox hb
                   have n0_ := Aside0.mk (Kd.R_below (zq3 HO559) hb)
                   have n0F_ := Aside0.mk (Kd.R_below (zq3 HO559F) hb)
                   have n1_ := Aside0.mk (Kd.R_below (zq3 HO562) hb)
                   have n1F_ := Aside0.mk (Kd.R_below (zq3 HO562F) hb)
                   have n2_ := Aside0.mk (Kd.R_below (zq3 HO566) hb)
                   have n2F_ := Aside0.mk (Kd.R_below (zq3 HO566F) hb)
                   have n3_ := Aside0.mk (Kd.R_below (zq3 HO569) hb)
                   have n3F_ := Aside0.mk (Kd.R_below (zq3 HO569F) hb)
                   have n4_ := Aside0.mk (zbb BK552 hb)
                   have n5_ := Aside0.mk (zbb BK553 hb)
                   have n6_ := Aside0.mk (below_step (zb1 HB) hb)
                   have n7_ := Aside0.mk (hbox)
                   have n8_ := Aside0.mk (zge (zb1 HB) hg)
                   have n9_ := Aside0.mk (zge (zb1 HB) hg)
                   have n10_ := Aside0.mk (zlt BK552 hg)
                   have n11_ := Aside0.mk (zgt BK552 hg)
                   have n12_ := Aside0.mk (zlt BK553 hg)
                   have n13_ := Aside0.mk (zgt BK553 hg)
                   clear HO559 HO559F HO562 HO562F HO566 HO566F HO569 HO569F BK552 BK553 HB
                   have HO559 := n0_; have HO559F := n0F_; have HO562 := n1_; have HO562F := n1F_; have HO566 := n2_; have HO566F := n2F_; have HO569 := n3_; have HO569F := n3F_; have BK552 := n4_; have BK553 := n5_; have HB := n6_; have BK578 := n7_; have GW578 := n8_; have GE578 := n9_; have NB552_578 := n10_; have NB578_552 := n11_; have NB553_578 := n12_; have NB578_553 := n13_
                   clear n0_ n1_ n2_ n3_ n4_ n5_ n6_ n7_ n8_ n9_ n10_ n11_ n12_ n13_ n0F_ n1F_ n2F_ n3F_ hb hbox hg
                   obtain ⟨Ao62, co62, eo62⟩ := Kd.R_slice HO559.out
                   (first | subst eo62 | (injection eo62 with f1_ f2_ f3_; have f4_ := f1_.symm; have f5_ := f3_.symm; clear f1_ f2_ f3_; subst f4_; subst f5_))
                   obtain ⟨Ao63, co63, eo63⟩ := Kd.R_slice HO562.out
                   (first | subst eo63 | (injection eo63 with f1_ f2_ f3_; have f4_ := f1_.symm; have f5_ := f3_.symm; clear f1_ f2_ f3_; subst f4_; subst f5_))
                   obtain ⟨Ao64, co64, eo64⟩ := Kd.R_slice HO566.out
                   (first | subst eo64 | (injection eo64 with f1_ f2_ f3_; have f4_ := f1_.symm; have f5_ := f3_.symm; clear f1_ f2_ f3_; subst f4_; subst f5_))
                   obtain ⟨Ao65, co65, eo65⟩ := Kd.R_slice HO569.out
                   (first | subst eo65 | (injection eo65 with f1_ f2_ f3_; have f4_ := f1_.symm; have f5_ := f3_.symm; clear f1_ f2_ f3_; subst f4_; subst f5_))
                   refine hK.out _ _ ⟨zc BK552 0, zc BK552 1, zc BK552 2, zc BK553 0, zc BK553 1, zc BK553 2⟩ (fun hHeld => ?_)
                   clear hK K
                   refine norm_ (a' := ?_) ?_ ?_
                   rotate_left
                   ·
                    show Act.put _ (some 6) _ = _
                    simp only [Act.put, List.setIfInBounds_toArray, List.set_cons_zero, List.set_cons_succ, i64_w, i32_w]; rfl
                   refine one_ (i := 4) (N := some 32) #[true, true, true, true, true, false, false, false, true, false, false] rfl rfl (one_of HT_.out (by kernel_rfl)) (by decide) (fun K hK => ?_)
                   refine goes_ Try.func48 (by kernel_rfl) rfl #[.agg #[.int .i64 t556, .slice Ao62 t557.length co62, .slice Ao63 t560.length co63], .agg #[.int .i64 t563, .slice Ao64 t564.length co64, .slice Ao65 t567.length co65]] (by rfl) rfl rfl zq6 ?_
                   with_reducible refine (spec_CommonBox.calls k t556 _ _ t557 _ _ t560 t563 _ _ t564 _ _ t567 t570 t571 t574 t577 _ ?side1 ?side2 ?side3 ?side4 ?side5 ?side6 ?side7 ?side8 A20.out).mono ?_
                   (case side1 => exact zcr HO559)
                   (case side2 => exact (Kd.R_reads' HO559.out).2.1)
                   (case side3 => exact zcr HO562)
                   (case side4 => exact (Kd.R_reads' HO562.out).2.1)
                   (case side5 => exact zcr HO566)
                   (case side6 => exact (Kd.R_reads' HO566.out).2.1)
                   (case side7 => exact zcr HO569)
                   (case side8 => exact (Kd.R_reads' HO569.out).2.1)
                   rintro e w66 ⟨v572, v575, rfl, ho0, ho1, hb⟩
                   refine ⟨_, rfl, ?_⟩
                   have n0_ := Aside0.mk (zt2 (zq3 HO559) hb ho0 ho1)
                   have n0F_ := Aside0.mk (zt2 (zq3 HO559F) hb ho0 ho1)
                   have n1_ := Aside0.mk (zt2 (zq3 HO562) hb ho0 ho1)
                   have n1F_ := Aside0.mk (zt2 (zq3 HO562F) hb ho0 ho1)
                   have n2_ := Aside0.mk (zt2 (zq3 HO566) hb ho0 ho1)
                   have n2F_ := Aside0.mk (zt2 (zq3 HO566F) hb ho0 ho1)
                   have n3_ := Aside0.mk (zt2 (zq3 HO569) hb ho0 ho1)
                   have n3F_ := Aside0.mk (zt2 (zq3 HO569F) hb ho0 ho1)
                   have n4_ := Aside0.mk (Kd.R_lower (zn (zn (zn (zn ho0 HO559) HO562) HO566) HO569) (below_size (zb1 HB)))
                   have n5_ := Aside0.mk (Kd.R_lower (zn (zn (zn (zn ho1 HO559) HO562) HO566) HO569) (below_size (zb1 HB)))
                   have n6_ := Aside0.mk (zbb BK552 hb)
                   have n7_ := Aside0.mk (zbb BK553 hb)
                   have n8_ := Aside0.mk (zbb BK578 hb)
                   have n9_ := Aside0.mk (below_step (zb1 HB) hb)
                   clear HO559 HO559F HO562 HO562F HO566 HO566F HO569 HO569F BK552 BK553 BK578 HB
                   have HO559 := n0_; have HO559F := n0F_; have HO562 := n1_; have HO562F := n1F_; have HO566 := n2_; have HO566F := n2F_; have HO569 := n3_; have HO569F := n3F_; have HO573 := n4_; have HO576 := n5_; have BK552 := n6_; have BK553 := n7_; have BK578 := n8_; have HB := n9_
                   clear n0_ n1_ n2_ n3_ n4_ n5_ n6_ n7_ n8_ n9_ n0F_ n1F_ n2F_ n3F_
                   (try clear hb)
                   (try clear hb2)
                   (try clear hk)
                   (try clear hi)
                   (try clear ho0)
                   (try clear ho1)
                   refine hK.out _ _ ⟨zc BK552 0, zc BK552 1, zc BK552 2, zc BK553 0, zc BK553 1, zc BK553 2⟩ (fun hHeld => ?_)
                   clear hK K
                   refine norm_ (a' := ?_) ?_ ?_
                   rotate_left
                   ·
                    show Act.put _ (some 32) _ = _
                    simp only [Act.put, List.setIfInBounds_toArray, List.set_cons_zero, List.set_cons_succ, i64_w, i32_w]; rfl
                   refine zp (i := 5) (N := some 27) #[true, true, true, true, true, true, false, false, true, false, false] (any_of HT_.out (by kernel_rfl)) ?_
                   refine zp (i := 6) (N := some 33) #[true, true, true, true, true, true, true, false, true, false, false] (any_of HT_.out (by kernel_rfl)) ?_
                   refine zp (i := 7) (N := some 34) #[true, true, true, true, true, true, true, true, true, false, false] (any_of HT_.out (by kernel_rfl)) ?_
                   exact norm_ (by simp only [putAll, Act.put, List.setIfInBounds_toArray, List.set_cons_zero, List.set_cons_succ]) (hCont (.slice Ao62 t557.length co62, .slice Ao63 t560.length co63, .slice Ao64 t564.length co64, .slice Ao65 t567.length co65, v572, v575, gb578) _ ⟨hHeld, (zqm HO559), (zqm HO562), (zqm HO566), (zqm HO569), (zqm HO573), (zqm HO576), (zq1 BK552), (zq1 BK553), (zq1 BK578), GW578.out, GE578.out, NB552_578.out, NB578_552.out, NB553_578.out, NB578_553.out, (zb1 HB)⟩)
                 ·
                  refine box_step ?hg (N := 6) ?hd (cs := #[.int .i64 0, .slice none 0 0, .slice none 0 0]) (t := 27) ?hr ?_; (case hd => rfl); (case hg => rfl); (case hr => first | (go_simp; done) | (go_simp; rfl))
                  intro gb578 hg w60 hbox hb
                  have n0_ := Aside0.mk (Kd.R_below (zq3 HO559) hb)
                  have n0F_ := Aside0.mk (Kd.R_below (zq3 HO559F) hb)
                  have n1_ := Aside0.mk (Kd.R_below (zq3 HO562) hb)
                  have n1F_ := Aside0.mk (Kd.R_below (zq3 HO562F) hb)
                  have n2_ := Aside0.mk (zbb BK552 hb)
                  have n3_ := Aside0.mk (zbb BK553 hb)
                  have n4_ := Aside0.mk (below_step (zb1 HB) hb)
                  have n5_ := Aside0.mk (hbox)
                  have n6_ := Aside0.mk (zge (zb1 HB) hg)
                  have n7_ := Aside0.mk (zge (zb1 HB) hg)
                  have n8_ := Aside0.mk (zlt BK552 hg)
                  have n9_ := Aside0.mk (zgt BK552 hg)
                  have n10_ := Aside0.mk (zlt BK553 hg)
                  have n11_ := Aside0.mk (zgt BK553 hg)
                  clear HO559 HO559F HO562 HO562F BK552 BK553 HB
                  have HO559 := n0_; have HO559F := n0F_; have HO562 := n1_; have HO562F := n1F_; have BK552 := n2_; have BK553 := n3_; have HB := n4_; have BK578 := n5_; have GW578 := n6_; have GE578 := n7_; have NB552_578 := n8_; have NB578_552 := n9_; have NB553_578 := n10_; have NB578_553 := n11_
                  clear n0_ n1_ n2_ n3_ n4_ n5_ n6_ n7_ n8_ n9_ n10_ n11_ n0F_ n1F_ hb hbox hg
                  refine hK.out _ _ ⟨zc BK552 0, zc BK552 1, zc BK552 2, zc BK553 0, zc BK553 1, zc BK553 2⟩ (fun hHeld => ?_)
                  clear hK K
                  refine norm_ (a' := ?_) ?_ ?_
                  rotate_left
                  ·
                   show Act.put _ (some 6) _ = _
                   simp only [Act.put, List.setIfInBounds_toArray, List.set_cons_zero, List.set_cons_succ, i64_w, i32_w]; rfl
                  refine one_ (i := 3) (N := some 31) #[true, true, true, true, false, false, false, false, true, false, false] rfl rfl (one_of HT_.out (by kernel_rfl)) (by decide) (fun K hK => ?_)
                  refine goes_ Try.func16 (by kernel_rfl) rfl #[.agg #[.int .i64 a1_0, .slice A1_1 l1_1.length c1_1, .slice A1_2 l1_2.length c1_2], .bool false] (by rfl) rfl rfl zq6 ?_
                  with_reducible refine (laws_toBox.calls k a1_0 _ _ l1_1 _ _ l1_2 false t563 t564 t567 _ ?side1 ?side2 ?side3 ?side4 A19.out).mono ?_
                  (case side1 => exact zcs HR1_1 HB)
                  (case side2 => exact HC1_1.out)
                  (case side3 => exact zcs HR1_2 HB)
                  (case side4 => exact HC1_2.out)
                  rintro e w61 ⟨v565, v568, rfl, ho0, ho1, hb, ho0F, ho1F⟩
                  refine ⟨_, rfl, ?_⟩
                  have n0_ := Aside0.mk (zt2 (zq3 HO559) hb ho0 ho1)
                  have n0F_ := Aside0.mk (zt2 (zq3 HO559F) hb ho0 ho1)
                  have n1_ := Aside0.mk (zt2 (zq3 HO562) hb ho0 ho1)
                  have n1F_ := Aside0.mk (zt2 (zq3 HO562F) hb ho0 ho1)
                  have n2_ := Aside0.mk (Kd.R_lower (zn (zn ho0 HO559) HO562) (below_size (zb1 HB)))
                  have n2F_ := Aside0.mk (Kd.R_lower (zn (zn ho0F HO559) HO562) (below_size (zb1 HB)))
                  have n3_ := Aside0.mk (Kd.R_lower (zn (zn ho1 HO559) HO562) (below_size (zb1 HB)))
                  have n3F_ := Aside0.mk (Kd.R_lower (zn (zn ho1F HO559) HO562) (below_size (zb1 HB)))
                  have n4_ := Aside0.mk (zbb BK552 hb)
                  have n5_ := Aside0.mk (zbb BK553 hb)
                  have n6_ := Aside0.mk (zbb BK578 hb)
                  have n7_ := Aside0.mk (below_step (zb1 HB) hb)
                  clear HO559 HO559F HO562 HO562F BK552 BK553 BK578 HB
                  have HO559 := n0_; have HO559F := n0F_; have HO562 := n1_; have HO562F := n1F_; have HO566 := n2_; have HO566F := n2F_; have HO569 := n3_; have HO569F := n3F_; have BK552 := n4_; have BK553 := n5_; have BK578 := n6_; have HB := n7_
                  clear n0_ n1_ n2_ n3_ n4_ n5_ n6_ n7_ n0F_ n1F_ n2F_ n3F_
                  (try clear hb)
                  (try clear hb2)
                  (try clear hk)
                  (try clear hi)
                  (try clear ho0)
                  (try clear ho0F)
                  (try clear ho1)
                  (try clear ho1F)
                  obtain ⟨Ao62, co62, eo62⟩ := Kd.R_slice HO559.out
                  (first | subst eo62 | (injection eo62 with f1_ f2_ f3_; have f4_ := f1_.symm; have f5_ := f3_.symm; clear f1_ f2_ f3_; subst f4_; subst f5_))
                  obtain ⟨Ao63, co63, eo63⟩ := Kd.R_slice HO562.out
                  (first | subst eo63 | (injection eo63 with f1_ f2_ f3_; have f4_ := f1_.symm; have f5_ := f3_.symm; clear f1_ f2_ f3_; subst f4_; subst f5_))
                  obtain ⟨Ao64, co64, eo64⟩ := Kd.R_slice HO566.out
                  (first | subst eo64 | (injection eo64 with f1_ f2_ f3_; have f4_ := f1_.symm; have f5_ := f3_.symm; clear f1_ f2_ f3_; subst f4_; subst f5_))
                  obtain ⟨Ao65, co65, eo65⟩ := Kd.R_slice HO569.out
                  (first | subst eo65 | (injection eo65 with f1_ f2_ f3_; have f4_ := f1_.symm; have f5_ := f3_.symm; clear f1_ f2_ f3_; subst f4_; subst f5_))
                  refine hK.out _ _ ⟨zc BK552 0, zc BK552 1, zc BK552 2, zc BK553 0, zc BK553 1, zc BK553 2⟩ (fun hHeld => ?_)
                  clear hK K
                  refine norm_ (a' := ?_) ?_ ?_
                  rotate_left
                  ·
                   show Act.put _ (some 31) _ = _
                   simp only [Act.put, List.setIfInBounds_toArray, List.set_cons_zero, List.set_cons_succ, i64_w, i32_w]; rfl
                  refine one_ (i := 4) (N := some 32) #[true, true, true, true, true, false, false, false, true, false, false] rfl rfl (one_of HT_.out (by kernel_rfl)) (by decide) (fun K hK => ?_)
                  refine goes_ Try.func48 (by kernel_rfl) rfl #[.agg #[.int .i64 t556, .slice Ao62 t557.length co62, .slice Ao63 t560.length co63], .agg #[.int .i64 t563, .slice Ao64 t564.length co64, .slice Ao65 t567.length co65]] (by rfl) rfl rfl zq6 ?_
                  with_reducible refine (spec_CommonBox.calls k t556 _ _ t557 _ _ t560 t563 _ _ t564 _ _ t567 t570 t571 t574 t577 _ ?side1 ?side2 ?side3 ?side4 ?side5 ?side6 ?side7 ?side8 A20.out).mono ?_
                  (case side1 => exact zcr HO559)
                  (case side2 => exact (Kd.R_reads' HO559.out).2.1)
                  (case side3 => exact zcr HO562)
                  (case side4 => exact (Kd.R_reads' HO562.out).2.1)
                  (case side5 => exact zcr HO566)
                  (case side6 => exact (Kd.R_reads' HO566.out).2.1)
                  (case side7 => exact zcr HO569)
                  (case side8 => exact (Kd.R_reads' HO569.out).2.1)
                  rintro e w66 ⟨v572, v575, rfl, ho0, ho1, hb⟩
                  refine ⟨_, rfl, ?_⟩
                  have n0_ := Aside0.mk (zt2 (zq3 HO559) hb ho0 ho1)
                  have n0F_ := Aside0.mk (zt2 (zq3 HO559F) hb ho0 ho1)
                  have n1_ := Aside0.mk (zt2 (zq3 HO562) hb ho0 ho1)
                  have n1F_ := Aside0.mk (zt2 (zq3 HO562F) hb ho0 ho1)
                  have n2_ := Aside0.mk (zt2 (zq3 HO566) hb ho0 ho1)
                  have n2F_ := Aside0.mk (zt2 (zq3 HO566F) hb ho0 ho1)
                  have n3_ := Aside0.mk (zt2 (zq3 HO569) hb ho0 ho1)
                  have n3F_ := Aside0.mk (zt2 (zq3 HO569F) hb ho0 ho1)
                  have n4_ := Aside0.mk (Kd.R_lower (zn (zn (zn (zn ho0 HO559) HO562) HO566) HO569) (below_size (zb1 HB)))
                  have n5_ := Aside0.mk (Kd.R_lower (zn (zn (zn (zn ho1 HO559) HO562) HO566) HO569) (below_size (zb1 HB)))
                  have n6_ := Aside0.mk (zbb BK552 hb)
                  have n7_ := Aside0.mk (zbb BK553 hb)
                  have n8_ := Aside0.mk (zbb BK578 hb)
                  have n9_ := Aside0.mk (below_step (zb1 HB) hb)
                  clear HO559 HO559F HO562 HO562F HO566 HO566F HO569 HO569F BK552 BK553 BK578 HB
                  have HO559 := n0_; have HO559F := n0F_; have HO562 := n1_; have HO562F := n1F_; have HO566 := n2_; have HO566F := n2F_; have HO569 := n3_; have HO569F := n3F_; have HO573 := n4_; have HO576 := n5_; have BK552 := n6_; have BK553 := n7_; have BK578 := n8_; have HB := n9_
                  clear n0_ n1_ n2_ n3_ n4_ n5_ n6_ n7_ n8_ n9_ n0F_ n1F_ n2F_ n3F_
                  (try clear hb)
                  (try clear hb2)
                  (try clear hk)
                  (try clear hi)
                  (try clear ho0)
                  (try clear ho1)
                  refine hK.out _ _ ⟨zc BK552 0, zc BK552 1, zc BK552 2, zc BK553 0, zc BK553 1, zc BK553 2⟩ (fun hHeld => ?_)
                  clear hK K
                  refine norm_ (a' := ?_) ?_ ?_
                  rotate_left
                  ·
                   show Act.put _ (some 32) _ = _
                   simp only [Act.put, List.setIfInBounds_toArray, List.set_cons_zero, List.set_cons_succ, i64_w, i32_w]; rfl
                  refine zp (i := 5) (N := some 27) #[true, true, true, true, true, true, false, false, true, false, false] (any_of HT_.out (by kernel_rfl)) ?_
                  refine zp (i := 6) (N := some 33) #[true, true, true, true, true, true, true, false, true, false, false] (any_of HT_.out (by kernel_rfl)) ?_
                  refine zp (i := 7) (N := some 34) #[true, true, true, true, true, true, true, true, true, false, false] (any_of HT_.out (by kernel_rfl)) ?_
                  exact norm_ (by simp only [putAll, Act.put, List.setIfInBounds_toArray, List.set_cons_zero, List.set_cons_succ]) (hCont (.slice Ao62 t557.length co62, .slice Ao63 t560.length co63, .slice Ao64 t564.length co64, .slice Ao65 t567.length co65, v572, v575, gb578) _ ⟨hHeld, (zqm HO559), (zqm HO562), (zqm HO566), (zqm HO569), (zqm HO573), (zqm HO576), (zq1 BK552), (zq1 BK553), (zq1 BK578), GW578.out, GE578.out, NB552_578.out, NB578_552.out, NB553_578.out, NB578_553.out, (zb1 HB)⟩)
                ·
                 refine box_step ?hg (N := 6) ?hd (cs := #[.int .i64 0, .slice none 0 0, .slice none 0 0]) (t := 27) ?hr ?_; (case hd => rfl); (case hg => rfl); (case hr => first | (go_simp; done) | (go_simp; rfl))
                 intro gb578 hg w59 hbox hb
                 have n0_ := Aside0.mk (zbb BK552 hb)
                 have n1_ := Aside0.mk (zbb BK553 hb)
                 have n2_ := Aside0.mk (below_step (zb1 HB) hb)
                 have BK578 := Aside0.mk (hbox)
                 have GW578 := Aside0.mk (zge (zb1 HB) hg)
                 have GE578 := Aside0.mk (zge (zb1 HB) hg)
                 have NB552_578 := Aside0.mk (zlt BK552 hg)
                 have NB578_552 := Aside0.mk (zgt BK552 hg)
                 have NB553_578 := Aside0.mk (zlt BK553 hg)
                 have NB578_553 := Aside0.mk (zgt BK553 hg)
                 clear BK552 BK553 HB
                 have BK552 := n0_; have BK553 := n1_; have HB := n2_
                 clear n0_ n1_ n2_ hb hbox hg
                 refine hK.out _ _ ⟨zc BK552 0, zc BK552 1, zc BK552 2, zc BK553 0, zc BK553 1, zc BK553 2⟩ (fun hHeld => ?_)
                 clear hK K
                 refine norm_ (a' := ?_) ?_ ?_
                 rotate_left
                 ·
                  show Act.put _ (some 6) _ = _
                  simp only [Act.put, List.setIfInBounds_toArray, List.set_cons_zero, List.set_cons_succ, i64_w, i32_w]; rfl
                 refine one_ (i := 1) (N := some 29) #[true, true, true, false, false, false, false, false, true, false, false] rfl rfl (one_of HT_.out (by kernel_rfl)) (by decide) (fun K hK => ?_)
                 refine goes_ Try.func16 (by kernel_rfl) rfl #[.agg #[.int .i64 a0_0, .slice A0_1 l0_1.length c0_1, .slice A0_2 l0_2.length c0_2], .bool false] (by rfl) rfl rfl zq6 ?_
                 with_reducible refine (laws_toBox.calls k a0_0 _ _ l0_1 _ _ l0_2 false t556 t557 t560 _ ?side1 ?side2 ?side3 ?side4 A18.out).mono ?_
                 (case side1 => exact zcs HR0_1 HB)
                 (case side2 => exact HC0_1.out)
                 (case side3 => exact zcs HR0_2 HB)
                 (case side4 => exact HC0_2.out)
                 rintro e w60 ⟨v558, v561, rfl, ho0, ho1, hb, ho0F, ho1F⟩
                 refine ⟨_, rfl, ?_⟩
                 have n0_ := Aside0.mk (Kd.R_lower ho0 (below_size (zb1 HB)))
                 have n0F_ := Aside0.mk (Kd.R_lower ho0F (below_size (zb1 HB)))
                 have n1_ := Aside0.mk (Kd.R_lower ho1 (below_size (zb1 HB)))
                 have n1F_ := Aside0.mk (Kd.R_lower ho1F (below_size (zb1 HB)))
                 have n2_ := Aside0.mk (zbb BK552 hb)
                 have n3_ := Aside0.mk (zbb BK553 hb)
                 have n4_ := Aside0.mk (zbb BK578 hb)
                 have n5_ := Aside0.mk (below_step (zb1 HB) hb)
                 clear BK552 BK553 BK578 HB
                 have HO559 := n0_; have HO559F := n0F_; have HO562 := n1_; have HO562F := n1F_; have BK552 := n2_; have BK553 := n3_; have BK578 := n4_; have HB := n5_
                 clear n0_ n1_ n2_ n3_ n4_ n5_ n0F_ n1F_
                 (try clear hb)
                 (try clear hb2)
                 (try clear hk)
                 (try clear hi)
                 (try clear ho0)
                 (try clear ho0F)
                 (try clear ho1)
                 (try clear ho1F)
                 refine hK.out _ _ ⟨zc BK552 0, zc BK552 1, zc BK552 2, zc BK553 0, zc BK553 1, zc BK553 2⟩ (fun hHeld => ?_)
                 clear hK K
                 refine norm_ (a' := ?_) ?_ ?_
                 rotate_left
                 ·
                  show Act.put _ (some 29) _ = _
                  simp only [Act.put, List.setIfInBounds_toArray, List.set_cons_zero, List.set_cons_succ, i64_w, i32_w]; rfl
                 refine one_ (i := 3) (N := some 31) #[true, true, true, true, false, false, false, false, true, false, false] rfl rfl (one_of HT_.out (by kernel_rfl)) (by decide) (fun K hK => ?_)
                 refine goes_ Try.func16 (by kernel_rfl) rfl #[.agg #[.int .i64 a1_0, .slice A1_1 l1_1.length c1_1, .slice A1_2 l1_2.length c1_2], .bool false] (by rfl) rfl rfl zq6 ?_
                 with_reducible refine (laws_toBox.calls k a1_0 _ _ l1_1 _ _ l1_2 false t563 t564 t567 _ ?side1 ?side2 ?side3 ?side4 A19.out).mono ?_
                 (case side1 => exact zcs HR1_1 HB)
                 (case side2 => exact HC1_1.out)
                 (case side3 => exact zcs HR1_2 HB)
                 (case side4 => exact HC1_2.out)
                 rintro e w61 ⟨v565, v568, rfl, ho0, ho1, hb, ho0F, ho1F⟩
                 refine ⟨_, rfl, ?_⟩
                 have n0_ := Aside0.mk (zt2 (zq3 HO559) hb ho0 ho1)
                 have n0F_ := Aside0.mk (zt2 (zq3 HO559F) hb ho0 ho1)
                 have n1_ := Aside0.mk (zt2 (zq3 HO562) hb ho0 ho1)
                 have n1F_ := Aside0.mk (zt2 (zq3 HO562F) hb ho0 ho1)
                 have n2_ := Aside0.mk (Kd.R_lower (zn (zn ho0 HO559) HO562) (below_size (zb1 HB)))
                 have n2F_ := Aside0.mk (Kd.R_lower (zn (zn ho0F HO559) HO562) (below_size (zb1 HB)))
                 have n3_ := Aside0.mk (Kd.R_lower (zn (zn ho1 HO559) HO562) (below_size (zb1 HB)))
                 have n3F_ := Aside0.mk (Kd.R_lower (zn (zn ho1F HO559) HO562) (below_size (zb1 HB)))
                 have n4_ := Aside0.mk (zbb BK552 hb)
                 have n5_ := Aside0.mk (zbb BK553 hb)
                 have n6_ := Aside0.mk (zbb BK578 hb)
                 have n7_ := Aside0.mk (below_step (zb1 HB) hb)
                 clear HO559 HO559F HO562 HO562F BK552 BK553 BK578 HB
                 have HO559 := n0_; have HO559F := n0F_; have HO562 := n1_; have HO562F := n1F_; have HO566 := n2_; have HO566F := n2F_; have HO569 := n3_; have HO569F := n3F_; have BK552 := n4_; have BK553 := n5_; have BK578 := n6_; have HB := n7_
                 clear n0_ n1_ n2_ n3_ n4_ n5_ n6_ n7_ n0F_ n1F_ n2F_ n3F_
                 (try clear hb)
                 (try clear hb2)
                 (try clear hk)
                 (try clear hi)
                 (try clear ho0)
                 (try clear ho0F)
                 (try clear ho1)
                 (try clear ho1F)
                 obtain ⟨Ao62, co62, eo62⟩ := Kd.R_slice HO559.out
                 (first | subst eo62 | (injection eo62 with f1_ f2_ f3_; have f4_ := f1_.symm; have f5_ := f3_.symm; clear f1_ f2_ f3_; subst f4_; subst f5_))
                 obtain ⟨Ao63, co63, eo63⟩ := Kd.R_slice HO562.out
                 (first | subst eo63 | (injection eo63 with f1_ f2_ f3_; have f4_ := f1_.symm; have f5_ := f3_.symm; clear f1_ f2_ f3_; subst f4_; subst f5_))
                 obtain ⟨Ao64, co64, eo64⟩ := Kd.R_slice HO566.out
                 (first | subst eo64 | (injection eo64 with f1_ f2_ f3_; have f4_ := f1_.symm; have f5_ := f3_.symm; clear f1_ f2_ f3_; subst f4_; subst f5_))
                 obtain ⟨Ao65, co65, eo65⟩ := Kd.R_slice HO569.out
                 (first | subst eo65 | (injection eo65 with f1_ f2_ f3_; have f4_ := f1_.symm; have f5_ := f3_.symm; clear f1_ f2_ f3_; subst f4_; subst f5_))
                 refine hK.out _ _ ⟨zc BK552 0, zc BK552 1, zc BK552 2, zc BK553 0, zc BK553 1, zc BK553 2⟩ (fun hHeld => ?_)
                 clear hK K
                 refine norm_ (a' := ?_) ?_ ?_
                 rotate_left
                 ·
                  show Act.put _ (some 31) _ = _
                  simp only [Act.put, List.setIfInBounds_toArray, List.set_cons_zero, List.set_cons_succ, i64_w, i32_w]; rfl
                 refine one_ (i := 4) (N := some 32) #[true, true, true, true, true, false, false, false, true, false, false] rfl rfl (one_of HT_.out (by kernel_rfl)) (by decide) (fun K hK => ?_)
                 refine goes_ Try.func48 (by kernel_rfl) rfl #[.agg #[.int .i64 t556, .slice Ao62 t557.length co62, .slice Ao63 t560.length co63], .agg #[.int .i64 t563, .slice Ao64 t564.length co64, .slice Ao65 t567.length co65]] (by rfl) rfl rfl zq6 ?_
                 with_reducible refine (spec_CommonBox.calls k t556 _ _ t557 _ _ t560 t563 _ _ t564 _ _ t567 t570 t571 t574 t577 _ ?side1 ?side2 ?side3 ?side4 ?side5 ?side6 ?side7 ?side8 A20.out).mono ?_
                 (case side1 => exact zcr HO559)
                 (case side2 => exact (Kd.R_reads' HO559.out).2.1)
                 (case side3 => exact zcr HO562)
                 (case side4 => exact (Kd.R_reads' HO562.out).2.1)
                 (case side5 => exact zcr HO566)
                 (case side6 => exact (Kd.R_reads' HO566.out).2.1)
                 (case side7 => exact zcr HO569)
                 (case side8 => exact (Kd.R_reads' HO569.out).2.1)
                 rintro e w66 ⟨v572, v575, rfl, ho0, ho1, hb⟩
                 refine ⟨_, rfl, ?_⟩
                 have n0_ := Aside0.mk (zt2 (zq3 HO559) hb ho0 ho1)
                 have n0F_ := Aside0.mk (zt2 (zq3 HO559F) hb ho0 ho1)
                 have n1_ := Aside0.mk (zt2 (zq3 HO562) hb ho0 ho1)
                 have n1F_ := Aside0.mk (zt2 (zq3 HO562F) hb ho0 ho1)
                 have n2_ := Aside0.mk (zt2 (zq3 HO566) hb ho0 ho1)
                 have n2F_ := Aside0.mk (zt2 (zq3 HO566F) hb ho0 ho1)
                 have n3_ := Aside0.mk (zt2 (zq3 HO569) hb ho0 ho1)
                 have n3F_ := Aside0.mk (zt2 (zq3 HO569F) hb ho0 ho1)
                 have n4_ := Aside0.mk (Kd.R_lower (zn (zn (zn (zn ho0 HO559) HO562) HO566) HO569) (below_size (zb1 HB)))
                 have n5_ := Aside0.mk (Kd.R_lower (zn (zn (zn (zn ho1 HO559) HO562) HO566) HO569) (below_size (zb1 HB)))
                 have n6_ := Aside0.mk (zbb BK552 hb)
                 have n7_ := Aside0.mk (zbb BK553 hb)
                 have n8_ := Aside0.mk (zbb BK578 hb)
                 have n9_ := Aside0.mk (below_step (zb1 HB) hb)
                 clear HO559 HO559F HO562 HO562F HO566 HO566F HO569 HO569F BK552 BK553 BK578 HB
                 have HO559 := n0_; have HO559F := n0F_; have HO562 := n1_; have HO562F := n1F_; have HO566 := n2_; have HO566F := n2F_; have HO569 := n3_; have HO569F := n3F_; have HO573 := n4_; have HO576 := n5_; have BK552 := n6_; have BK553 := n7_; have BK578 := n8_; have HB := n9_
                 clear n0_ n1_ n2_ n3_ n4_ n5_ n6_ n7_ n8_ n9_ n0F_ n1F_ n2F_ n3F_
                 (try clear hb)
                 (try clear hb2)
                 (try clear hk)
                 (try clear hi)
                 (try clear ho0)
                 (try clear ho1)
                 refine hK.out _ _ ⟨zc BK552 0, zc BK552 1, zc BK552 2, zc BK553 0, zc BK553 1, zc BK553 2⟩ (fun hHeld => ?_)
                 clear hK K
                 refine norm_ (a' := ?_) ?_ ?_
                 rotate_left
                 ·
                  show Act.put _ (some 32) _ = _
                  simp only [Act.put, List.setIfInBounds_toArray, List.set_cons_zero, List.set_cons_succ, i64_w, i32_w]; rfl
                 refine zp (i := 5) (N := some 27) #[true, true, true, true, true, true, false, false, true, false, false] (any_of HT_.out (by kernel_rfl)) ?_
                 refine zp (i := 6) (N := some 33) #[true, true, true, true, true, true, true, false, true, false, false] (any_of HT_.out (by kernel_rfl)) ?_
                 refine zp (i := 7) (N := some 34) #[true, true, true, true, true, true, true, true, true, false, false] (any_of HT_.out (by kernel_rfl)) ?_
                 exact norm_ (by simp only [putAll, Act.put, List.setIfInBounds_toArray, List.set_cons_zero, List.set_cons_succ]) (hCont (.slice Ao62 t557.length co62, .slice Ao63 t560.length co63, .slice Ao64 t564.length co64, .slice Ao65 t567.length co65, v572, v575, gb578) _ ⟨hHeld, (zqm HO559), (zqm HO562), (zqm HO566), (zqm HO569), (zqm HO573), (zqm HO576), (zq1 BK552), (zq1 BK553), (zq1 BK578), GW578.out, GE578.out, NB552_578.out, NB578_552.out, NB553_578.out, NB578_553.out, (zb1 HB)⟩)
               rintro ⟨v558, v561, v565, v568, v572, v575, gb578⟩ w67 ⟨hS_, h0_, h1_, h2_, h3_, h4_, h5_, h6_, h7_, h8_, h9_, h10_, h11_, h12_, h13_, h14_, h15_⟩
               have HO559 : Aside0 (Kd.R (Kd.int .i64) 3 w67 w.heap.size (fun k_ => some k_ ≠ (v561 : Value).ownBlock ∧ some k_ ≠ (v565 : Value).ownBlock ∧ some k_ ≠ (v568 : Value).ownBlock ∧ some k_ ≠ (v572 : Value).ownBlock ∧ some k_ ≠ (v575 : Value).ownBlock) v558 t557) := ⟨h0_⟩
               have HO562 : Aside0 (Kd.R (Kd.int .i64) 3 w67 w.heap.size (fun k_ => some k_ ≠ (v558 : Value).ownBlock ∧ some k_ ≠ (v565 : Value).ownBlock ∧ some k_ ≠ (v568 : Value).ownBlock ∧ some k_ ≠ (v572 : Value).ownBlock ∧ some k_ ≠ (v575 : Value).ownBlock) v561 t560) := ⟨h1_⟩
               have HO566 : Aside0 (Kd.R (Kd.int .i64) 3 w67 w.heap.size (fun k_ => some k_ ≠ (v558 : Value).ownBlock ∧ some k_ ≠ (v561 : Value).ownBlock ∧ some k_ ≠ (v568 : Value).ownBlock ∧ some k_ ≠ (v572 : Value).ownBlock ∧ some k_ ≠ (v575 : Value).ownBlock) v565 t564) := ⟨h2_⟩
               have HO569 : Aside0 (Kd.R (Kd.int .i64) 3 w67 w.heap.size (fun k_ => some k_ ≠ (v558 : Value).ownBlock ∧ some k_ ≠ (v561 : Value).ownBlock ∧ some k_ ≠ (v565 : Value).ownBlock ∧ some k_ ≠ (v572 : Value).ownBlock ∧ some k_ ≠ (v575 : Value).ownBlock) v568 t567) := ⟨h3_⟩
               have HO573 : Aside0 (Kd.R (Kd.int .i64) 3 w67 w.heap.size (fun k_ => some k_ ≠ (v558 : Value).ownBlock ∧ some k_ ≠ (v561 : Value).ownBlock ∧ some k_ ≠ (v565 : Value).ownBlock ∧ some k_ ≠ (v568 : Value).ownBlock ∧ some k_ ≠ (v575 : Value).ownBlock) v572 t571) := ⟨h4_⟩
               have HO576 : Aside0 (Kd.R (Kd.int .i64) 3 w67 w.heap.size (fun k_ => some k_ ≠ (v558 : Value).ownBlock ∧ some k_ ≠ (v561 : Value).ownBlock ∧ some k_ ≠ (v565 : Value).ownBlock ∧ some k_ ≠ (v568 : Value).ownBlock ∧ some k_ ≠ (v572 : Value).ownBlock) v575 t574) := ⟨h5_⟩
               have BK578 : Aside0 (w67.heap[gb578]? = some (.cells #[.int .i64 0, .slice none 0 0, .slice none 0 0] 27 (0, 0))) := ⟨h8_⟩
               have GW578 : Aside0 (w.heap.size ≤ gb578) := ⟨h9_⟩
               have GE578 : Aside0 (w.heap.size ≤ gb578) := ⟨h10_⟩
               have NB552_578 : Aside0 (gb552 ≠ gb578) := ⟨h11_⟩
               have NB578_552 : Aside0 (gb578 ≠ gb552) := ⟨h12_⟩
               have NB553_578 : Aside0 (gb553 ≠ gb578) := ⟨h13_⟩
               have NB578_553 : Aside0 (gb578 ≠ gb553) := ⟨h14_⟩
               replace BK552 : Aside0 (w67.heap[gb552]? = some (.cells #[.int .i64 a0_0, .slice A0_1 l0_1.length c0_1, .slice A0_2 l0_2.length c0_2] 24 (0, 0))) := ⟨h6_⟩; replace BK553 : Aside0 (w67.heap[gb553]? = some (.cells #[.int .i64 a1_0, .slice A1_1 l1_1.length c1_1, .slice A1_2 l1_2.length c1_2] 24 (0, 0))) := ⟨h7_⟩; replace HB : Aside0 (Below w.heap.size w w67) := ⟨h15_⟩
               clear h0_ h10_ h11_ h12_ h13_ h14_ h15_ h1_ h2_ h3_ h4_ h5_ h6_ h7_ h8_ h9_
               have hHeld : w67.cell? ⟨gb552, 0, none⟩ = some (.int .i64 a0_0) ∧ w67.cell? ⟨gb552, 1, none⟩ = some (.slice A0_1 l0_1.length c0_1) ∧ w67.cell? ⟨gb552, 2, none⟩ = some (.slice A0_2 l0_2.length c0_2) ∧ w67.cell? ⟨gb553, 0, none⟩ = some (.int .i64 a1_0) ∧ w67.cell? ⟨gb553, 1, none⟩ = some (.slice A1_1 l1_1.length c1_1) ∧ w67.cell? ⟨gb553, 2, none⟩ = some (.slice A1_2 l1_2.length c1_2) := hS_
               obtain ⟨Ao69, co69, eo69⟩ := Kd.R_slice HO573.out
               (first | subst eo69 | (injection eo69 with f1_ f2_ f3_; have f4_ := f1_.symm; have f5_ := f3_.symm; clear f1_ f2_ f3_; subst f4_; subst f5_))
               obtain ⟨Ao71, co71, eo71⟩ := Kd.R_slice HO576.out
               (first | subst eo71 | (injection eo71 with f1_ f2_ f3_; have f4_ := f1_.symm; have f5_ := f3_.symm; clear f1_ f2_ f3_; subst f4_; subst f5_))
               refine norm_ (a' := ?_) ?_ ?_
               rotate_left
               ·
                simp only [putAll, Act.put, List.setIfInBounds_toArray, List.set_cons_zero, List.set_cons_succ]
                rfl
               refine one_ (i := 9) (N := none) #[true, true, true, true, true, true, true, true, true, true, false] rfl rfl (one_of HT_.out (by kernel_rfl)) (by decide) (fun K hK => ?_)
               have hs68 : w67.cell? ⟨gb578, 0, none⟩ = some (.int .i64 0) := zc BK578 0
               have hfs68 := blk_frozen BK578.out 0
               have hns68_0 := NB552_578.out
               have hns68_1 := NB553_578.out
               have hms68_0 := NB578_552.out
               have hms68_1 := NB578_553.out
               have hs70 : w67.cell? ⟨gb578, 1, none⟩ = some (.slice none 0 0) := zc BK578 1
               have hfs70 := blk_frozen BK578.out 1
               have hns70_0 := NB552_578.out
               have hns70_1 := NB553_578.out
               have hms70_0 := NB578_552.out
               have hms70_1 := NB578_553.out
               have hs72 : w67.cell? ⟨gb578, 2, none⟩ = some (.slice none 0 0) := zc BK578 2
               have hfs72 := blk_frozen BK578.out 2
               have hns72_0 := NB552_578.out
               have hns72_1 := NB553_578.out
               have hms72_0 := NB578_552.out
               have hms72_1 := NB578_553.out
               refine skip_ (w1 := ?_) (by rfl) rfl ?_ ?_
               rotate_left
               ·
                go_simp
                rfl
               refine hK.out _ _ ⟨((cell_far (p := ⟨gb578, _, none⟩) NB552_578.out _).trans (((cell_far (p := ⟨gb578, _, none⟩) NB552_578.out _).trans (((cell_far (p := ⟨gb578, _, none⟩) NB552_578.out _).trans (hHeld.1)))))), ((cell_far (p := ⟨gb578, _, none⟩) NB552_578.out _).trans (((cell_far (p := ⟨gb578, _, none⟩) NB552_578.out _).trans (((cell_far (p := ⟨gb578, _, none⟩) NB552_578.out _).trans (hHeld.2.1)))))), ((cell_far (p := ⟨gb578, _, none⟩) NB552_578.out _).trans (((cell_far (p := ⟨gb578, _, none⟩) NB552_578.out _).trans (((cell_far (p := ⟨gb578, _, none⟩) NB552_578.out _).trans (hHeld.2.2.1)))))), ((cell_far (p := ⟨gb578, _, none⟩) NB553_578.out _).trans (((cell_far (p := ⟨gb578, _, none⟩) NB553_578.out _).trans (((cell_far (p := ⟨gb578, _, none⟩) NB553_578.out _).trans (hHeld.2.2.2.1)))))), ((cell_far (p := ⟨gb578, _, none⟩) NB553_578.out _).trans (((cell_far (p := ⟨gb578, _, none⟩) NB553_578.out _).trans (((cell_far (p := ⟨gb578, _, none⟩) NB553_578.out _).trans (hHeld.2.2.2.2.1)))))), ((cell_far (p := ⟨gb578, _, none⟩) NB553_578.out _).trans (((cell_far (p := ⟨gb578, _, none⟩) NB553_578.out _).trans (((cell_far (p := ⟨gb578, _, none⟩) NB553_578.out _).trans (hHeld.2.2.2.2.2))))))⟩ (fun hHeld => ?_)
               clear hK K
               refine zp (i := 10) (N := some 7) #[true, true, true, true, true, true, true, true, true, true, true] (any_of HT_.out (by kernel_rfl)) ?_
               refine done_ (done_of HT_.out (by kernel_rfl)) ?_
               have hnb73 := NB552_578.out
               have hnc73 := NB578_552.out
               have hcz74_0 : w67.cell? ⟨gb552, 0, none⟩ = some (.int .i64 a0_0) := zc BK552 0
               have hcz74_1 : w67.cell? ⟨gb552, 1, none⟩ = some (.slice A0_1 l0_1.length c0_1) := zc BK552 1
               have hcz74_2 : w67.cell? ⟨gb552, 2, none⟩ = some (.slice A0_2 l0_2.length c0_2) := zc BK552 2
               have hfz74_0 := blk_frozen BK552.out 0
               have hfz74_1 := blk_frozen BK552.out 1
               have hfz74_2 := blk_frozen BK552.out 2
               try go_wp2_with (first | ((with_reducible refine gate_callee (f := 16) rfl ?_); refine goesL_ (some 36) rfl rfl Try.func16 (by kernel_rfl) rfl #[.agg #[.int .i64 a0_0, .slice A0_1 l0_1.length c0_1, .slice A0_2 l0_2.length c0_2], .bool false] rfl zq6 ?_; (with_reducible refine (laws_toBox.calls k a0_0 _ _ l0_1 _ _ l0_2 false t579 t580 t583 _ ?side1 ?side2 ?side3 ?side4 A21.out).mono ?_); (case side1 => exact Kd.C_below HR0_1.out (zb1 HB)); (case side2 => exact HC0_1.out); (case side3 => exact Kd.C_below HR0_2.out (zb1 HB)); (case side4 => exact HC0_2.out); rintro e w75 ⟨v581, v584, rfl, ho0, ho1, hb, ho0F, ho1F⟩; refine ⟨_, rfl, ?_⟩; have n0_ := Aside0.mk (zt2 (z3f HO559 BK578 (.int .i64 t570) (.slice Ao69 t571.length co69) (.slice Ao71 t574.length co71)) hb ho0 ho1); have n1_ := Aside0.mk (zt2 (z3f HO562 BK578 (.int .i64 t570) (.slice Ao69 t571.length co69) (.slice Ao71 t574.length co71)) hb ho0 ho1); have n2_ := Aside0.mk (zt2 (z3f HO566 BK578 (.int .i64 t570) (.slice Ao69 t571.length co69) (.slice Ao71 t574.length co71)) hb ho0 ho1); have n3_ := Aside0.mk (zt2 (z3f HO569 BK578 (.int .i64 t570) (.slice Ao69 t571.length co69) (.slice Ao71 t574.length co71)) hb ho0 ho1); have n4_ := Aside0.mk (zt2 (z3f HO573 BK578 (.int .i64 t570) (.slice Ao69 t571.length co69) (.slice Ao71 t574.length co71)) hb ho0 ho1); have n5_ := Aside0.mk (zt2 (z3f HO576 BK578 (.int .i64 t570) (.slice Ao69 t571.length co69) (.slice Ao71 t574.length co71)) hb ho0 ho1); have n6_ := Aside0.mk (Kd.R_lower (Kd.R_new' (Kd.R_new' (Kd.R_new' (Kd.R_new' (Kd.R_new' (Kd.R_new' ho0 (Kd.R_lt (z3f HO559 BK578 (.int .i64 t570) (.slice Ao69 t571.length co69) (.slice Ao71 t574.length co71)))) (Kd.R_lt (z3f HO562 BK578 (.int .i64 t570) (.slice Ao69 t571.length co69) (.slice Ao71 t574.length co71)))) (Kd.R_lt (z3f HO566 BK578 (.int .i64 t570) (.slice Ao69 t571.length co69) (.slice Ao71 t574.length co71)))) (Kd.R_lt (z3f HO569 BK578 (.int .i64 t570) (.slice Ao69 t571.length co69) (.slice Ao71 t574.length co71)))) (Kd.R_lt (z3f HO573 BK578 (.int .i64 t570) (.slice Ao69 t571.length co69) (.slice Ao71 t574.length co71)))) (Kd.R_lt (z3f HO576 BK578 (.int .i64 t570) (.slice Ao69 t571.length co69) (.slice Ao71 t574.length co71)))) (below_size (zb1 HB))); have n6F_ := Aside0.mk (Kd.R_lower (Kd.R_new' (Kd.R_new' (Kd.R_new' (Kd.R_new' (Kd.R_new' (Kd.R_new' ho0F (Kd.R_lt (z3f HO559 BK578 (.int .i64 t570) (.slice Ao69 t571.length co69) (.slice Ao71 t574.length co71)))) (Kd.R_lt (z3f HO562 BK578 (.int .i64 t570) (.slice Ao69 t571.length co69) (.slice Ao71 t574.length co71)))) (Kd.R_lt (z3f HO566 BK578 (.int .i64 t570) (.slice Ao69 t571.length co69) (.slice Ao71 t574.length co71)))) (Kd.R_lt (z3f HO569 BK578 (.int .i64 t570) (.slice Ao69 t571.length co69) (.slice Ao71 t574.length co71)))) (Kd.R_lt (z3f HO573 BK578 (.int .i64 t570) (.slice Ao69 t571.length co69) (.slice Ao71 t574.length co71)))) (Kd.R_lt (z3f HO576 BK578 (.int .i64 t570) (.slice Ao69 t571.length co69) (.slice Ao71 t574.length co71)))) (below_size (zb1 HB))); have n7_ := Aside0.mk (Kd.R_lower (Kd.R_new' (Kd.R_new' (Kd.R_new' (Kd.R_new' (Kd.R_new' (Kd.R_new' ho1 (Kd.R_lt (z3f HO559 BK578 (.int .i64 t570) (.slice Ao69 t571.length co69) (.slice Ao71 t574.length co71)))) (Kd.R_lt (z3f HO562 BK578 (.int .i64 t570) (.slice Ao69 t571.length co69) (.slice Ao71 t574.length co71)))) (Kd.R_lt (z3f HO566 BK578 (.int .i64 t570) (.slice Ao69 t571.length co69) (.slice Ao71 t574.length co71)))) (Kd.R_lt (z3f HO569 BK578 (.int .i64 t570) (.slice Ao69 t571.length co69) (.slice Ao71 t574.length co71)))) (Kd.R_lt (z3f HO573 BK578 (.int .i64 t570) (.slice Ao69 t571.length co69) (.slice Ao71 t574.length co71)))) (Kd.R_lt (z3f HO576 BK578 (.int .i64 t570) (.slice Ao69 t571.length co69) (.slice Ao71 t574.length co71)))) (below_size (zb1 HB))); have n7F_ := Aside0.mk (Kd.R_lower (Kd.R_new' (Kd.R_new' (Kd.R_new' (Kd.R_new' (Kd.R_new' (Kd.R_new' ho1F (Kd.R_lt (z3f HO559 BK578 (.int .i64 t570) (.slice Ao69 t571.length co69) (.slice Ao71 t574.length co71)))) (Kd.R_lt (z3f HO562 BK578 (.int .i64 t570) (.slice Ao69 t571.length co69) (.slice Ao71 t574.length co71)))) (Kd.R_lt (z3f HO566 BK578 (.int .i64 t570) (.slice Ao69 t571.length co69) (.slice Ao71 t574.length co71)))) (Kd.R_lt (z3f HO569 BK578 (.int .i64 t570) (.slice Ao69 t571.length co69) (.slice Ao71 t574.length co71)))) (Kd.R_lt (z3f HO573 BK578 (.int .i64 t570) (.slice Ao69 t571.length co69) (.slice Ao71 t574.length co71)))) (Kd.R_lt (z3f HO576 BK578 (.int .i64 t570) (.slice Ao69 t571.length co69) (.slice Ao71 t574.length co71)))) (below_size (zb1 HB))); have n8_ := Aside0.mk (blk_below (g := gb552) (o := .cells #[.int .i64 a0_0, .slice A0_1 l0_1.length c0_1, .slice A0_2 l0_2.length c0_2] 24 (0, 0)) (zq5 BK552) hb); have n9_ := Aside0.mk (blk_below (g := gb553) (o := .cells #[.int .i64 a1_0, .slice A1_1 l1_1.length c1_1, .slice A1_2 l1_2.length c1_2] 24 (0, 0)) (zq5 BK553) hb); have n10_ := Aside0.mk (blk_below (g := gb578) (o := .cells #[.int .i64 t570, .slice Ao69 t571.length co69, .slice Ao71 t574.length co71] 27 (0, 0)) (by (with_reducible repeat (first | refine blk_drewN ?_ _ | refine blk_drew ?_ | refine blk_alloc ?_ _)); refine blk_put (cs := #[.int .i64 t570, .slice Ao69 t571.length co69, .slice none 0 0]) ?_ 2 _ rfl; (with_reducible repeat (first | refine blk_drewN ?_ _ | refine blk_drew ?_ | refine blk_alloc ?_ _)); refine blk_put (cs := #[.int .i64 t570, .slice none 0 0, .slice none 0 0]) ?_ 1 _ rfl; (with_reducible repeat (first | refine blk_drewN ?_ _ | refine blk_drew ?_ | refine blk_alloc ?_ _)); refine blk_put (cs := #[.int .i64 0, .slice none 0 0, .slice none 0 0]) ?_ 0 _ rfl; (with_reducible repeat (first | refine blk_drewN ?_ _ | refine blk_drew ?_ | refine blk_alloc ?_ _)); exact BK578.out) hb); have n11_ := Aside0.mk (below_step (zb1 HB) hb); clear HO559; clear HO562; clear HO566; clear HO569; clear HO573; clear HO576; clear BK552; clear BK553; clear BK578; clear HB; have HO559 := n0_; have HO562 := n1_; have HO566 := n2_; have HO569 := n3_; have HO573 := n4_; have HO576 := n5_; have HO582 := n6_; have HO582F := n6F_; have HO585 := n7_; have HO585F := n7F_; have BK552 := n8_; have BK553 := n9_; have BK578 := n10_; have HB := n11_; clear n0_ n1_ n2_ n3_ n4_ n5_ n6_ n7_ n8_ n9_ n10_ n11_ n6F_ n7F_; (try clear hb); (try clear hb2); (try clear hk); (try clear hi); (try clear ho0); (try clear ho0F); (try clear ho1); (try clear ho1F)) | ((with_reducible refine gate_dst (N := 8) rfl ?_); refine zbe (N := 8) (cs := #[.int .i64 0, .slice none 0 0, .slice none 0 0]) (t := 27) ?_; intro gb586 hg w76 hbox hb; have n0_ := Aside0.mk (Kd.R_below (zq3 HO573) hb); have n1_ := Aside0.mk (Kd.R_below (zq3 HO576) hb); have n2_ := Aside0.mk (Kd.R_below (zq3 HO582) hb); have n2F_ := Aside0.mk (Kd.R_below (zq3 HO582F) hb); have n3_ := Aside0.mk (Kd.R_below (zq3 HO585) hb); have n3F_ := Aside0.mk (Kd.R_below (zq3 HO585F) hb); have n4_ := Aside0.mk (zbb BK552 hb); have n5_ := Aside0.mk (zbb BK553 hb); have n6_ := Aside0.mk (zbb BK578 hb); have n7_ := Aside0.mk (below_step (zb1 HB) hb); have n8_ := Aside0.mk (hbox); have n9_ := Aside0.mk (zge (zb1 HB) hg); have n10_ := Aside0.mk (zge (zb1 HB) hg); have n11_ := Aside0.mk (zlt BK552 hg); have n12_ := Aside0.mk (zgt BK552 hg); have n13_ := Aside0.mk (zlt BK553 hg); have n14_ := Aside0.mk (zgt BK553 hg); have n15_ := Aside0.mk (zlt BK578 hg); have n16_ := Aside0.mk (zgt BK578 hg); clear HO573; clear HO576; clear HO582 HO582F; clear HO585 HO585F; clear BK552; clear BK553; clear BK578; clear HB; have HO573 := n0_; have HO576 := n1_; have HO582 := n2_; have HO582F := n2F_; have HO585 := n3_; have HO585F := n3F_; have BK552 := n4_; have BK553 := n5_; have BK578 := n6_; have HB := n7_; have BK586 := n8_; have GW586 := n9_; have GE586 := n10_; have NB552_586 := n11_; have NB586_552 := n12_; have NB553_586 := n13_; have NB586_553 := n14_; have NB578_586 := n15_; have NB586_578 := n16_; clear n0_ n1_ n2_ n3_ n4_ n5_ n6_ n7_ n8_ n9_ n10_ n11_ n12_ n13_ n14_ n15_ n16_ n2F_ n3F_; clear hb hbox hg; have hnb77 := NB586_552.out; have hnc77 := NB552_586.out; have hnb78 := NB586_553.out; have hnc78 := NB553_586.out; have hnb79 := NB586_578.out; have hnc79 := NB578_586.out; have hcz80_0 : w76.cell? ⟨gb586, 0, none⟩ = some (.int .i64 0) := zc BK586 0; have hcz80_1 : w76.cell? ⟨gb586, 1, none⟩ = some (.slice none 0 0) := zc BK586 1; have hcz80_2 : w76.cell? ⟨gb586, 2, none⟩ = some (.slice none 0 0) := zc BK586 2; have hfz80_0 := blk_frozen BK586.out 0; have hfz80_1 := blk_frozen BK586.out 1; have hfz80_2 := blk_frozen BK586.out 2; obtain ⟨Ao81, co81, eo81⟩ := Kd.R_slice HO582.out; subst eo81; obtain ⟨Ao82, co82, eo82⟩ := Kd.R_slice HO585.out; subst eo82; have hnb83 := NB553_578.out; have hnc83 := NB578_553.out; have hcz84_0 : w76.cell? ⟨gb553, 0, none⟩ = some (.int .i64 a1_0) := zc BK553 0; have hcz84_1 : w76.cell? ⟨gb553, 1, none⟩ = some (.slice A1_1 l1_1.length c1_1) := zc BK553 1; have hcz84_2 : w76.cell? ⟨gb553, 2, none⟩ = some (.slice A1_2 l1_2.length c1_2) := zc BK553 2; have hfz84_0 := blk_frozen BK553.out 0; have hfz84_1 := blk_frozen BK553.out 1; have hfz84_2 := blk_frozen BK553.out 2) | ((with_reducible refine gate_callee (f := 16) rfl ?_); refine goesL_ (some 38) rfl rfl Try.func16 (by kernel_rfl) rfl #[.agg #[.int .i64 a1_0, .slice A1_1 l1_1.length c1_1, .slice A1_2 l1_2.length c1_2], .bool false] rfl zq6 ?_; (with_reducible refine (laws_toBox.calls k a1_0 _ _ l1_1 _ _ l1_2 false t587 t588 t591 _ ?side1 ?side2 ?side3 ?side4 A22.out).mono ?_); (case side1 => exact Kd.C_below HR1_1.out (zb1 HB)); (case side2 => exact HC1_1.out); (case side3 => exact Kd.C_below HR1_2.out (zb1 HB)); (case side4 => exact HC1_2.out); rintro e w85 ⟨v589, v592, rfl, ho0, ho1, hb, ho0F, ho1F⟩; refine ⟨_, rfl, ?_⟩; have n0_ := Aside0.mk (zt2 (z3f HO573 BK586 (.int .i64 t579) (.slice Ao81 t580.length co81) (.slice Ao82 t583.length co82)) hb ho0 ho1); have n1_ := Aside0.mk (zt2 (z3f HO576 BK586 (.int .i64 t579) (.slice Ao81 t580.length co81) (.slice Ao82 t583.length co82)) hb ho0 ho1); have n2_ := Aside0.mk (zt2 (z3f HO582 BK586 (.int .i64 t579) (.slice Ao81 t580.length co81) (.slice Ao82 t583.length co82)) hb ho0 ho1); have n2F_ := Aside0.mk (zt2 (z3f HO582F BK586 (.int .i64 t579) (.slice Ao81 t580.length co81) (.slice Ao82 t583.length co82)) hb ho0 ho1); have n3_ := Aside0.mk (zt2 (z3f HO585 BK586 (.int .i64 t579) (.slice Ao81 t580.length co81) (.slice Ao82 t583.length co82)) hb ho0 ho1); have n3F_ := Aside0.mk (zt2 (z3f HO585F BK586 (.int .i64 t579) (.slice Ao81 t580.length co81) (.slice Ao82 t583.length co82)) hb ho0 ho1); have n4_ := Aside0.mk (Kd.R_lower (Kd.R_new' (Kd.R_new' (Kd.R_new' (Kd.R_new' ho0 (Kd.R_lt (z3f HO573 BK586 (.int .i64 t579) (.slice Ao81 t580.length co81) (.slice Ao82 t583.length co82)))) (Kd.R_lt (z3f HO576 BK586 (.int .i64 t579) (.slice Ao81 t580.length co81) (.slice Ao82 t583.length co82)))) (Kd.R_lt (z3f HO582 BK586 (.int .i64 t579) (.slice Ao81 t580.length co81) (.slice Ao82 t583.length co82)))) (Kd.R_lt (z3f HO585 BK586 (.int .i64 t579) (.slice Ao81 t580.length co81) (.slice Ao82 t583.length co82)))) (below_size (zb1 HB))); have n4F_ := Aside0.mk (Kd.R_lower (Kd.R_new' (Kd.R_new' (Kd.R_new' (Kd.R_new' ho0F (Kd.R_lt (z3f HO573 BK586 (.int .i64 t579) (.slice Ao81 t580.length co81) (.slice Ao82 t583.length co82)))) (Kd.R_lt (z3f HO576 BK586 (.int .i64 t579) (.slice Ao81 t580.length co81) (.slice Ao82 t583.length co82)))) (Kd.R_lt (z3f HO582 BK586 (.int .i64 t579) (.slice Ao81 t580.length co81) (.slice Ao82 t583.length co82)))) (Kd.R_lt (z3f HO585 BK586 (.int .i64 t579) (.slice Ao81 t580.length co81) (.slice Ao82 t583.length co82)))) (below_size (zb1 HB))); have n5_ := Aside0.mk (Kd.R_lower (Kd.R_new' (Kd.R_new' (Kd.R_new' (Kd.R_new' ho1 (Kd.R_lt (z3f HO573 BK586 (.int .i64 t579) (.slice Ao81 t580.length co81) (.slice Ao82 t583.length co82)))) (Kd.R_lt (z3f HO576 BK586 (.int .i64 t579) (.slice Ao81 t580.length co81) (.slice Ao82 t583.length co82)))) (Kd.R_lt (z3f HO582 BK586 (.int .i64 t579) (.slice Ao81 t580.length co81) (.slice Ao82 t583.length co82)))) (Kd.R_lt (z3f HO585 BK586 (.int .i64 t579) (.slice Ao81 t580.length co81) (.slice Ao82 t583.length co82)))) (below_size (zb1 HB))); have n5F_ := Aside0.mk (Kd.R_lower (Kd.R_new' (Kd.R_new' (Kd.R_new' (Kd.R_new' ho1F (Kd.R_lt (z3f HO573 BK586 (.int .i64 t579) (.slice Ao81 t580.length co81) (.slice Ao82 t583.length co82)))) (Kd.R_lt (z3f HO576 BK586 (.int .i64 t579) (.slice Ao81 t580.length co81) (.slice Ao82 t583.length co82)))) (Kd.R_lt (z3f HO582 BK586 (.int .i64 t579) (.slice Ao81 t580.length co81) (.slice Ao82 t583.length co82)))) (Kd.R_lt (z3f HO585 BK586 (.int .i64 t579) (.slice Ao81 t580.length co81) (.slice Ao82 t583.length co82)))) (below_size (zb1 HB))); have n6_ := Aside0.mk (blk_below (g := gb552) (o := .cells #[.int .i64 a0_0, .slice A0_1 l0_1.length c0_1, .slice A0_2 l0_2.length c0_2] 24 (0, 0)) (zq5 BK552) hb); have n7_ := Aside0.mk (blk_below (g := gb553) (o := .cells #[.int .i64 a1_0, .slice A1_1 l1_1.length c1_1, .slice A1_2 l1_2.length c1_2] 24 (0, 0)) (zq5 BK553) hb); have n8_ := Aside0.mk (blk_below (g := gb578) (o := .cells #[.int .i64 t570, .slice Ao69 t571.length co69, .slice Ao71 t574.length co71] 27 (0, 0)) (zq5 BK578) hb); have n9_ := Aside0.mk (blk_below (g := gb586) (o := .cells #[.int .i64 t579, .slice Ao81 t580.length co81, .slice Ao82 t583.length co82] 27 (0, 0)) (by (with_reducible repeat (first | refine blk_drewN ?_ _ | refine blk_drew ?_ | refine blk_alloc ?_ _)); refine blk_put (cs := #[.int .i64 t579, .slice Ao81 t580.length co81, .slice none 0 0]) ?_ 2 _ rfl; (with_reducible repeat (first | refine blk_drewN ?_ _ | refine blk_drew ?_ | refine blk_alloc ?_ _)); refine blk_put (cs := #[.int .i64 t579, .slice none 0 0, .slice none 0 0]) ?_ 1 _ rfl; (with_reducible repeat (first | refine blk_drewN ?_ _ | refine blk_drew ?_ | refine blk_alloc ?_ _)); refine blk_put (cs := #[.int .i64 0, .slice none 0 0, .slice none 0 0]) ?_ 0 _ rfl; (with_reducible repeat (first | refine blk_drewN ?_ _ | refine blk_drew ?_ | refine blk_alloc ?_ _)); exact BK586.out) hb); have n10_ := Aside0.mk (below_step (zb1 HB) hb); clear HO573; clear HO576; clear HO582 HO582F; clear HO585 HO585F; clear BK552; clear BK553; clear BK578; clear BK586; clear HB; have HO573 := n0_; have HO576 := n1_; have HO582 := n2_; have HO582F := n2F_; have HO585 := n3_; have HO585F := n3F_; have HO590 := n4_; have HO590F := n4F_; have HO593 := n5_; have HO593F := n5F_; have BK552 := n6_; have BK553 := n7_; have BK578 := n8_; have BK586 := n9_; have HB := n10_; clear n0_ n1_ n2_ n3_ n4_ n5_ n6_ n7_ n8_ n9_ n10_ n2F_ n3F_ n4F_ n5F_; (try clear hb); (try clear hb2); (try clear hk); (try clear hi); (try clear ho0); (try clear ho0F); (try clear ho1); (try clear ho1F)) | ((with_reducible refine gate_dst (N := 9) rfl ?_); refine zbe (N := 9) (cs := #[.int .i64 0, .slice none 0 0, .slice none 0 0]) (t := 27) ?_; intro gb594 hg w86 hbox hb; have n0_ := Aside0.mk (Kd.R_below (zq3 HO573) hb); have n1_ := Aside0.mk (Kd.R_below (zq3 HO576) hb); have n2_ := Aside0.mk (Kd.R_below (zq3 HO582) hb); have n2F_ := Aside0.mk (Kd.R_below (zq3 HO582F) hb); have n3_ := Aside0.mk (Kd.R_below (zq3 HO585) hb); have n3F_ := Aside0.mk (Kd.R_below (zq3 HO585F) hb); have n4_ := Aside0.mk (Kd.R_below (zq3 HO590) hb); have n4F_ := Aside0.mk (Kd.R_below (zq3 HO590F) hb); have n5_ := Aside0.mk (Kd.R_below (zq3 HO593) hb); have n5F_ := Aside0.mk (Kd.R_below (zq3 HO593F) hb); have n6_ := Aside0.mk (zbb BK552 hb); have n7_ := Aside0.mk (zbb BK553 hb); have n8_ := Aside0.mk (zbb BK578 hb); have n9_ := Aside0.mk (zbb BK586 hb); have n10_ := Aside0.mk (below_step (zb1 HB) hb); have n11_ := Aside0.mk (hbox); have n12_ := Aside0.mk (zge (zb1 HB) hg); have n13_ := Aside0.mk (zge (zb1 HB) hg); have n14_ := Aside0.mk (zlt BK552 hg); have n15_ := Aside0.mk (zgt BK552 hg); have n16_ := Aside0.mk (zlt BK553 hg); have n17_ := Aside0.mk (zgt BK553 hg); have n18_ := Aside0.mk (zlt BK578 hg); have n19_ := Aside0.mk (zgt BK578 hg); have n20_ := Aside0.mk (zlt BK586 hg); have n21_ := Aside0.mk (zgt BK586 hg); clear HO573; clear HO576; clear HO582 HO582F; clear HO585 HO585F; clear HO590 HO590F; clear HO593 HO593F; clear BK552; clear BK553; clear BK578; clear BK586; clear HB; have HO573 := n0_; have HO576 := n1_; have HO582 := n2_; have HO582F := n2F_; have HO585 := n3_; have HO585F := n3F_; have HO590 := n4_; have HO590F := n4F_; have HO593 := n5_; have HO593F := n5F_; have BK552 := n6_; have BK553 := n7_; have BK578 := n8_; have BK586 := n9_; have HB := n10_; have BK594 := n11_; have GW594 := n12_; have GE594 := n13_; have NB552_594 := n14_; have NB594_552 := n15_; have NB553_594 := n16_; have NB594_553 := n17_; have NB578_594 := n18_; have NB594_578 := n19_; have NB586_594 := n20_; have NB594_586 := n21_; clear n0_ n1_ n2_ n3_ n4_ n5_ n6_ n7_ n8_ n9_ n10_ n11_ n12_ n13_ n14_ n15_ n16_ n17_ n18_ n19_ n20_ n21_ n2F_ n3F_ n4F_ n5F_; clear hb hbox hg; have hnb87 := NB594_552.out; have hnc87 := NB552_594.out; have hnb88 := NB594_553.out; have hnc88 := NB553_594.out; have hnb89 := NB594_578.out; have hnc89 := NB578_594.out; have hnb90 := NB594_586.out; have hnc90 := NB586_594.out; have hcz91_0 : w86.cell? ⟨gb594, 0, none⟩ = some (.int .i64 0) := zc BK594 0; have hcz91_1 : w86.cell? ⟨gb594, 1, none⟩ = some (.slice none 0 0) := zc BK594 1; have hcz91_2 : w86.cell? ⟨gb594, 2, none⟩ = some (.slice none 0 0) := zc BK594 2; have hfz91_0 := blk_frozen BK594.out 0; have hfz91_1 := blk_frozen BK594.out 1; have hfz91_2 := blk_frozen BK594.out 2; obtain ⟨Ao92, co92, eo92⟩ := Kd.R_slice HO590.out; subst eo92; obtain ⟨Ao93, co93, eo93⟩ := Kd.R_slice HO593.out; subst eo93; have hcz94_0 : w86.cell? ⟨gb586, 0, none⟩ = some (.int .i64 t579) := zc BK586 0; have hcz94_1 : w86.cell? ⟨gb586, 1, none⟩ = some (.slice Ao81 t580.length co81) := zc BK586 1; have hcz94_2 : w86.cell? ⟨gb586, 2, none⟩ = some (.slice Ao82 t583.length co82) := zc BK586 2; have hfz94_0 := blk_frozen BK586.out 0; have hfz94_1 := blk_frozen BK586.out 1; have hfz94_2 := blk_frozen BK586.out 2) | ((with_reducible refine gate_callee (f := 49) rfl ?_); refine goesL_ (some 42) rfl rfl Try.func49 (by kernel_rfl) rfl #[.agg #[.int .i64 t579, .slice Ao81 t580.length co81, .slice Ao82 t583.length co82], .agg #[.int .i64 t587, .slice Ao92 t588.length co92, .slice Ao93 t591.length co93]] rfl zq6 ?_; (with_reducible refine (impl_CommonBox.calls k t579 _ _ t580 _ _ t583 t587 _ _ t588 _ _ t591 t595 t596 t599 t602 _ ?side1 ?side2 ?side3 ?side4 ?side5 ?side6 ?side7 ?side8 A23.out).mono ?_); (case side1 => refine (Kd.R_reads' (e := 3) (base := w.heap.size) (ok := fun k_ => ((((((((some k_ ≠ (.slice Ao82 t583.length co82 : Value).ownBlock ∧ some k_ ≠ (v558 : Value).ownBlock) ∧ some k_ ≠ (v561 : Value).ownBlock) ∧ some k_ ≠ (v565 : Value).ownBlock) ∧ some k_ ≠ (v568 : Value).ownBlock) ∧ some k_ ≠ (.slice Ao69 t571.length co69 : Value).ownBlock) ∧ some k_ ≠ (.slice Ao71 t574.length co71 : Value).ownBlock) ∧ some k_ ≠ (.slice Ao92 t588.length co92 : Value).ownBlock) ∧ some k_ ≠ (.slice Ao93 t591.length co93 : Value).ownBlock)) (n := t580.length) (c := co81) ?_).2.2; exact (z3f HO582 BK594 (.int .i64 t587) (.slice Ao92 t588.length co92) (.slice Ao93 t591.length co93))); (case side2 => exact (Kd.R_reads' HO582.out).2.1); (case side3 => refine (Kd.R_reads' (e := 3) (base := w.heap.size) (ok := fun k_ => ((((((((some k_ ≠ (.slice Ao81 t580.length co81 : Value).ownBlock ∧ some k_ ≠ (v558 : Value).ownBlock) ∧ some k_ ≠ (v561 : Value).ownBlock) ∧ some k_ ≠ (v565 : Value).ownBlock) ∧ some k_ ≠ (v568 : Value).ownBlock) ∧ some k_ ≠ (.slice Ao69 t571.length co69 : Value).ownBlock) ∧ some k_ ≠ (.slice Ao71 t574.length co71 : Value).ownBlock) ∧ some k_ ≠ (.slice Ao92 t588.length co92 : Value).ownBlock) ∧ some k_ ≠ (.slice Ao93 t591.length co93 : Value).ownBlock)) (n := t583.length) (c := co82) ?_).2.2; exact (z3f HO585 BK594 (.int .i64 t587) (.slice Ao92 t588.length co92) (.slice Ao93 t591.length co93))); (case side4 => exact (Kd.R_reads' HO585.out).2.1); (case side5 => refine (Kd.R_reads' (e := 3) (base := w.heap.size) (ok := fun k_ => ((((some k_ ≠ (.slice Ao93 t591.length co93 : Value).ownBlock ∧ some k_ ≠ (.slice Ao69 t571.length co69 : Value).ownBlock) ∧ some k_ ≠ (.slice Ao71 t574.length co71 : Value).ownBlock) ∧ some k_ ≠ (.slice Ao81 t580.length co81 : Value).ownBlock) ∧ some k_ ≠ (.slice Ao82 t583.length co82 : Value).ownBlock)) (n := t588.length) (c := co92) ?_).2.2; exact (z3f HO590 BK594 (.int .i64 t587) (.slice Ao92 t588.length co92) (.slice Ao93 t591.length co93))); (case side6 => exact (Kd.R_reads' HO590.out).2.1); (case side7 => refine (Kd.R_reads' (e := 3) (base := w.heap.size) (ok := fun k_ => ((((some k_ ≠ (.slice Ao92 t588.length co92 : Value).ownBlock ∧ some k_ ≠ (.slice Ao69 t571.length co69 : Value).ownBlock) ∧ some k_ ≠ (.slice Ao71 t574.length co71 : Value).ownBlock) ∧ some k_ ≠ (.slice Ao81 t580.length co81 : Value).ownBlock) ∧ some k_ ≠ (.slice Ao82 t583.length co82 : Value).ownBlock)) (n := t591.length) (c := co93) ?_).2.2; exact (z3f HO593 BK594 (.int .i64 t587) (.slice Ao92 t588.length co92) (.slice Ao93 t591.length co93))); (case side8 => exact (Kd.R_reads' HO593.out).2.1); rintro e w95 ⟨v597, v600, rfl, ho0, ho1, hb⟩; refine ⟨_, rfl, ?_⟩; have n0_ := Aside0.mk (zt2 (z3f HO573 BK594 (.int .i64 t587) (.slice Ao92 t588.length co92) (.slice Ao93 t591.length co93)) hb ho0 ho1); have n1_ := Aside0.mk (zt2 (z3f HO576 BK594 (.int .i64 t587) (.slice Ao92 t588.length co92) (.slice Ao93 t591.length co93)) hb ho0 ho1); have n2_ := Aside0.mk (zt2 (z3f HO582 BK594 (.int .i64 t587) (.slice Ao92 t588.length co92) (.slice Ao93 t591.length co93)) hb ho0 ho1); have n2F_ := Aside0.mk (zt2 (z3f HO582F BK594 (.int .i64 t587) (.slice Ao92 t588.length co92) (.slice Ao93 t591.length co93)) hb ho0 ho1); have n3_ := Aside0.mk (zt2 (z3f HO585 BK594 (.int .i64 t587) (.slice Ao92 t588.length co92) (.slice Ao93 t591.length co93)) hb ho0 ho1); have n3F_ := Aside0.mk (zt2 (z3f HO585F BK594 (.int .i64 t587) (.slice Ao92 t588.length co92) (.slice Ao93 t591.length co93)) hb ho0 ho1); have n4_ := Aside0.mk (zt2 (z3f HO590 BK594 (.int .i64 t587) (.slice Ao92 t588.length co92) (.slice Ao93 t591.length co93)) hb ho0 ho1); have n4F_ := Aside0.mk (zt2 (z3f HO590F BK594 (.int .i64 t587) (.slice Ao92 t588.length co92) (.slice Ao93 t591.length co93)) hb ho0 ho1); have n5_ := Aside0.mk (zt2 (z3f HO593 BK594 (.int .i64 t587) (.slice Ao92 t588.length co92) (.slice Ao93 t591.length co93)) hb ho0 ho1); have n5F_ := Aside0.mk (zt2 (z3f HO593F BK594 (.int .i64 t587) (.slice Ao92 t588.length co92) (.slice Ao93 t591.length co93)) hb ho0 ho1); have n6_ := Aside0.mk (Kd.R_lower (Kd.R_new' (Kd.R_new' (Kd.R_new' (Kd.R_new' (Kd.R_new' (Kd.R_new' ho0 (Kd.R_lt (z3f HO573 BK594 (.int .i64 t587) (.slice Ao92 t588.length co92) (.slice Ao93 t591.length co93)))) (Kd.R_lt (z3f HO576 BK594 (.int .i64 t587) (.slice Ao92 t588.length co92) (.slice Ao93 t591.length co93)))) (Kd.R_lt (z3f HO582 BK594 (.int .i64 t587) (.slice Ao92 t588.length co92) (.slice Ao93 t591.length co93)))) (Kd.R_lt (z3f HO585 BK594 (.int .i64 t587) (.slice Ao92 t588.length co92) (.slice Ao93 t591.length co93)))) (Kd.R_lt (z3f HO590 BK594 (.int .i64 t587) (.slice Ao92 t588.length co92) (.slice Ao93 t591.length co93)))) (Kd.R_lt (z3f HO593 BK594 (.int .i64 t587) (.slice Ao92 t588.length co92) (.slice Ao93 t591.length co93)))) (below_size (zb1 HB))); have n7_ := Aside0.mk (Kd.R_lower (Kd.R_new' (Kd.R_new' (Kd.R_new' (Kd.R_new' (Kd.R_new' (Kd.R_new' ho1 (Kd.R_lt (z3f HO573 BK594 (.int .i64 t587) (.slice Ao92 t588.length co92) (.slice Ao93 t591.length co93)))) (Kd.R_lt (z3f HO576 BK594 (.int .i64 t587) (.slice Ao92 t588.length co92) (.slice Ao93 t591.length co93)))) (Kd.R_lt (z3f HO582 BK594 (.int .i64 t587) (.slice Ao92 t588.length co92) (.slice Ao93 t591.length co93)))) (Kd.R_lt (z3f HO585 BK594 (.int .i64 t587) (.slice Ao92 t588.length co92) (.slice Ao93 t591.length co93)))) (Kd.R_lt (z3f HO590 BK594 (.int .i64 t587) (.slice Ao92 t588.length co92) (.slice Ao93 t591.length co93)))) (Kd.R_lt (z3f HO593 BK594 (.int .i64 t587) (.slice Ao92 t588.length co92) (.slice Ao93 t591.length co93)))) (below_size (zb1 HB))); have n8_ := Aside0.mk (blk_below (g := gb552) (o := .cells #[.int .i64 a0_0, .slice A0_1 l0_1.length c0_1, .slice A0_2 l0_2.length c0_2] 24 (0, 0)) (zq5 BK552) hb); have n9_ := Aside0.mk (blk_below (g := gb553) (o := .cells #[.int .i64 a1_0, .slice A1_1 l1_1.length c1_1, .slice A1_2 l1_2.length c1_2] 24 (0, 0)) (zq5 BK553) hb); have n10_ := Aside0.mk (blk_below (g := gb578) (o := .cells #[.int .i64 t570, .slice Ao69 t571.length co69, .slice Ao71 t574.length co71] 27 (0, 0)) (zq5 BK578) hb); have n11_ := Aside0.mk (blk_below (g := gb586) (o := .cells #[.int .i64 t579, .slice Ao81 t580.length co81, .slice Ao82 t583.length co82] 27 (0, 0)) (zq5 BK586) hb); have n12_ := Aside0.mk (blk_below (g := gb594) (o := .cells #[.int .i64 t587, .slice Ao92 t588.length co92, .slice Ao93 t591.length co93] 27 (0, 0)) (by (with_reducible repeat (first | refine blk_drewN ?_ _ | refine blk_drew ?_ | refine blk_alloc ?_ _)); refine blk_put (cs := #[.int .i64 t587, .slice Ao92 t588.length co92, .slice none 0 0]) ?_ 2 _ rfl; (with_reducible repeat (first | refine blk_drewN ?_ _ | refine blk_drew ?_ | refine blk_alloc ?_ _)); refine blk_put (cs := #[.int .i64 t587, .slice none 0 0, .slice none 0 0]) ?_ 1 _ rfl; (with_reducible repeat (first | refine blk_drewN ?_ _ | refine blk_drew ?_ | refine blk_alloc ?_ _)); refine blk_put (cs := #[.int .i64 0, .slice none 0 0, .slice none 0 0]) ?_ 0 _ rfl; (with_reducible repeat (first | refine blk_drewN ?_ _ | refine blk_drew ?_ | refine blk_alloc ?_ _)); exact BK594.out) hb); have n13_ := Aside0.mk (below_step (zb1 HB) hb); clear HO573; clear HO576; clear HO582 HO582F; clear HO585 HO585F; clear HO590 HO590F; clear HO593 HO593F; clear BK552; clear BK553; clear BK578; clear BK586; clear BK594; clear HB; have HO573 := n0_; have HO576 := n1_; have HO582 := n2_; have HO582F := n2F_; have HO585 := n3_; have HO585F := n3F_; have HO590 := n4_; have HO590F := n4F_; have HO593 := n5_; have HO593F := n5F_; have HO598 := n6_; have HO601 := n7_; have BK552 := n8_; have BK553 := n9_; have BK578 := n10_; have BK586 := n11_; have BK594 := n12_; have HB := n13_; clear n0_ n1_ n2_ n3_ n4_ n5_ n6_ n7_ n8_ n9_ n10_ n11_ n12_ n13_ n2F_ n3F_ n4F_ n5F_; (try clear hb); (try clear hb2); (try clear hk); (try clear hi); (try clear ho0); (try clear ho1)) | ((with_reducible refine gate_dst (N := 10) rfl ?_); refine zbe (N := 10) (cs := #[.int .i64 0, .slice none 0 0, .slice none 0 0]) (t := 27) ?_; intro gb603 hg w96 hbox hb; have n0_ := Aside0.mk (Kd.R_below (zq3 HO573) hb); have n1_ := Aside0.mk (Kd.R_below (zq3 HO576) hb); have n2_ := Aside0.mk (Kd.R_below (zq3 HO582) hb); have n2F_ := Aside0.mk (Kd.R_below (zq3 HO582F) hb); have n3_ := Aside0.mk (Kd.R_below (zq3 HO585) hb); have n3F_ := Aside0.mk (Kd.R_below (zq3 HO585F) hb); have n4_ := Aside0.mk (Kd.R_below (zq3 HO590) hb); have n4F_ := Aside0.mk (Kd.R_below (zq3 HO590F) hb); have n5_ := Aside0.mk (Kd.R_below (zq3 HO593) hb); have n5F_ := Aside0.mk (Kd.R_below (zq3 HO593F) hb); have n6_ := Aside0.mk (Kd.R_below (zq3 HO598) hb); have n7_ := Aside0.mk (Kd.R_below (zq3 HO601) hb); have n8_ := Aside0.mk (zbb BK552 hb); have n9_ := Aside0.mk (zbb BK553 hb); have n10_ := Aside0.mk (zbb BK578 hb); have n11_ := Aside0.mk (zbb BK586 hb); have n12_ := Aside0.mk (zbb BK594 hb); have n13_ := Aside0.mk (below_step (zb1 HB) hb); have n14_ := Aside0.mk (hbox); have n15_ := Aside0.mk (zge (zb1 HB) hg); have n16_ := Aside0.mk (zge (zb1 HB) hg); have n17_ := Aside0.mk (zlt BK552 hg); have n18_ := Aside0.mk (zgt BK552 hg); have n19_ := Aside0.mk (zlt BK553 hg); have n20_ := Aside0.mk (zgt BK553 hg); have n21_ := Aside0.mk (zlt BK578 hg); have n22_ := Aside0.mk (zgt BK578 hg); have n23_ := Aside0.mk (zlt BK586 hg); have n24_ := Aside0.mk (zgt BK586 hg); have n25_ := Aside0.mk (zlt BK594 hg); have n26_ := Aside0.mk (zgt BK594 hg); clear HO573; clear HO576; clear HO582 HO582F; clear HO585 HO585F; clear HO590 HO590F; clear HO593 HO593F; clear HO598; clear HO601; clear BK552; clear BK553; clear BK578; clear BK586; clear BK594; clear HB; have HO573 := n0_; have HO576 := n1_; have HO582 := n2_; have HO582F := n2F_; have HO585 := n3_; have HO585F := n3F_; have HO590 := n4_; have HO590F := n4F_; have HO593 := n5_; have HO593F := n5F_; have HO598 := n6_; have HO601 := n7_; have BK552 := n8_; have BK553 := n9_; have BK578 := n10_; have BK586 := n11_; have BK594 := n12_; have HB := n13_; have BK603 := n14_; have GW603 := n15_; have GE603 := n16_; have NB552_603 := n17_; have NB603_552 := n18_; have NB553_603 := n19_; have NB603_553 := n20_; have NB578_603 := n21_; have NB603_578 := n22_; have NB586_603 := n23_; have NB603_586 := n24_; have NB594_603 := n25_; have NB603_594 := n26_; clear n0_ n1_ n2_ n3_ n4_ n5_ n6_ n7_ n8_ n9_ n10_ n11_ n12_ n13_ n14_ n15_ n16_ n17_ n18_ n19_ n20_ n21_ n22_ n23_ n24_ n25_ n26_ n2F_ n3F_ n4F_ n5F_; clear hb hbox hg; have hnb97 := NB603_552.out; have hnc97 := NB552_603.out; have hnb98 := NB603_553.out; have hnc98 := NB553_603.out; have hnb99 := NB603_578.out; have hnc99 := NB578_603.out; have hnb100 := NB603_586.out; have hnc100 := NB586_603.out; have hnb101 := NB603_594.out; have hnc101 := NB594_603.out; have hcz102_0 : w96.cell? ⟨gb603, 0, none⟩ = some (.int .i64 0) := zc BK603 0; have hcz102_1 : w96.cell? ⟨gb603, 1, none⟩ = some (.slice none 0 0) := zc BK603 1; have hcz102_2 : w96.cell? ⟨gb603, 2, none⟩ = some (.slice none 0 0) := zc BK603 2; have hfz102_0 := blk_frozen BK603.out 0; have hfz102_1 := blk_frozen BK603.out 1; have hfz102_2 := blk_frozen BK603.out 2; obtain ⟨Ao103, co103, eo103⟩ := Kd.R_slice HO598.out; subst eo103; obtain ⟨Ao104, co104, eo104⟩ := Kd.R_slice HO601.out; subst eo104; have hcz105_0 : w96.cell? ⟨gb578, 0, none⟩ = some (.int .i64 t570) := zc BK578 0; have hcz105_1 : w96.cell? ⟨gb578, 1, none⟩ = some (.slice Ao69 t571.length co69) := zc BK578 1; have hcz105_2 : w96.cell? ⟨gb578, 2, none⟩ = some (.slice Ao71 t574.length co71) := zc BK578 2; have hfz105_0 := blk_frozen BK578.out 0; have hfz105_1 := blk_frozen BK578.out 1; have hfz105_2 := blk_frozen BK578.out 2) | ((with_reducible refine gate_callee (f := 31) rfl ?_); refine goesL_ (some 47) rfl rfl Try.func31 (by kernel_rfl) rfl #[.agg #[.int .i64 t595, .slice Ao103 t596.length co103, .slice Ao104 t599.length co104], .agg #[.int .i64 t570, .slice Ao69 t571.length co69, .slice Ao71 t574.length co71]] rfl zq6 ?_; (with_reducible refine (laws_eqBox.calls k t595 _ _ t596 _ _ t599 t570 _ _ t571 _ _ t574 true _ ?side1 ?side2 ?side3 ?side4 ?side5 ?side6 ?side7 ?side8 A24.out).mono ?_); (case side1 => refine (Kd.R_reads' (e := 3) (base := w.heap.size) (ok := fun k_ => ((((((some k_ ≠ (.slice Ao104 t599.length co104 : Value).ownBlock ∧ some k_ ≠ (.slice Ao69 t571.length co69 : Value).ownBlock) ∧ some k_ ≠ (.slice Ao71 t574.length co71 : Value).ownBlock) ∧ some k_ ≠ (.slice Ao81 t580.length co81 : Value).ownBlock) ∧ some k_ ≠ (.slice Ao82 t583.length co82 : Value).ownBlock) ∧ some k_ ≠ (.slice Ao92 t588.length co92 : Value).ownBlock) ∧ some k_ ≠ (.slice Ao93 t591.length co93 : Value).ownBlock)) (n := t596.length) (c := co103) ?_).2.2; exact (z3f HO598 BK603 (.int .i64 t595) (.slice Ao103 t596.length co103) (.slice Ao104 t599.length co104))); (case side2 => exact (Kd.R_reads' HO598.out).2.1); (case side3 => refine (Kd.R_reads' (e := 3) (base := w.heap.size) (ok := fun k_ => ((((((some k_ ≠ (.slice Ao103 t596.length co103 : Value).ownBlock ∧ some k_ ≠ (.slice Ao69 t571.length co69 : Value).ownBlock) ∧ some k_ ≠ (.slice Ao71 t574.length co71 : Value).ownBlock) ∧ some k_ ≠ (.slice Ao81 t580.length co81 : Value).ownBlock) ∧ some k_ ≠ (.slice Ao82 t583.length co82 : Value).ownBlock) ∧ some k_ ≠ (.slice Ao92 t588.length co92 : Value).ownBlock) ∧ some k_ ≠ (.slice Ao93 t591.length co93 : Value).ownBlock)) (n := t599.length) (c := co104) ?_).2.2; exact (z3f HO601 BK603 (.int .i64 t595) (.slice Ao103 t596.length co103) (.slice Ao104 t599.length co104))); (case side4 => exact (Kd.R_reads' HO601.out).2.1); (case side5 => refine (Kd.R_reads' (e := 3) (base := w.heap.size) (ok := fun k_ => (((((((some k_ ≠ (v558 : Value).ownBlock ∧ (some k_ ≠ (v561 : Value).ownBlock ∧ (some k_ ≠ (v565 : Value).ownBlock ∧ (some k_ ≠ (v568 : Value).ownBlock ∧ some k_ ≠ (.slice Ao71 t574.length co71 : Value).ownBlock)))) ∧ some k_ ≠ (.slice Ao81 t580.length co81 : Value).ownBlock) ∧ some k_ ≠ (.slice Ao82 t583.length co82 : Value).ownBlock) ∧ some k_ ≠ (.slice Ao92 t588.length co92 : Value).ownBlock) ∧ some k_ ≠ (.slice Ao93 t591.length co93 : Value).ownBlock) ∧ some k_ ≠ (.slice Ao103 t596.length co103 : Value).ownBlock) ∧ some k_ ≠ (.slice Ao104 t599.length co104 : Value).ownBlock)) (n := t571.length) (c := co69) ?_).2.2; exact (z3f HO573 BK603 (.int .i64 t595) (.slice Ao103 t596.length co103) (.slice Ao104 t599.length co104))); (case side6 => exact (Kd.R_reads' HO573.out).2.1); (case side7 => refine (Kd.R_reads' (e := 3) (base := w.heap.size) (ok := fun k_ => (((((((some k_ ≠ (v558 : Value).ownBlock ∧ (some k_ ≠ (v561 : Value).ownBlock ∧ (some k_ ≠ (v565 : Value).ownBlock ∧ (some k_ ≠ (v568 : Value).ownBlock ∧ some k_ ≠ (.slice Ao69 t571.length co69 : Value).ownBlock)))) ∧ some k_ ≠ (.slice Ao81 t580.length co81 : Value).ownBlock) ∧ some k_ ≠ (.slice Ao82 t583.length co82 : Value).ownBlock) ∧ some k_ ≠ (.slice Ao92 t588.length co92 : Value).ownBlock) ∧ some k_ ≠ (.slice Ao93 t591.length co93 : Value).ownBlock) ∧ some k_ ≠ (.slice Ao103 t596.length co103 : Value).ownBlock) ∧ some k_ ≠ (.slice Ao104 t599.length co104 : Value).ownBlock)) (n := t574.length) (c := co71) ?_).2.2; exact (z3f HO576 BK603 (.int .i64 t595) (.slice Ao103 t596.length co103) (.slice Ao104 t599.length co104))); (case side8 => exact (Kd.R_reads' HO576.out).2.1); rintro e w106 ⟨rfl, hb⟩; refine ⟨_, rfl, ?_⟩; have n0_ := Aside0.mk (Kd.R_below (z3f HO573 BK603 (.int .i64 t595) (.slice Ao103 t596.length co103) (.slice Ao104 t599.length co104)) hb); have n1_ := Aside0.mk (Kd.R_below (z3f HO576 BK603 (.int .i64 t595) (.slice Ao103 t596.length co103) (.slice Ao104 t599.length co104)) hb); have n2_ := Aside0.mk (Kd.R_below (z3f HO582 BK603 (.int .i64 t595) (.slice Ao103 t596.length co103) (.slice Ao104 t599.length co104)) hb); have n2F_ := Aside0.mk (Kd.R_below (z3f HO582F BK603 (.int .i64 t595) (.slice Ao103 t596.length co103) (.slice Ao104 t599.length co104)) hb); have n3_ := Aside0.mk (Kd.R_below (z3f HO585 BK603 (.int .i64 t595) (.slice Ao103 t596.length co103) (.slice Ao104 t599.length co104)) hb); have n3F_ := Aside0.mk (Kd.R_below (z3f HO585F BK603 (.int .i64 t595) (.slice Ao103 t596.length co103) (.slice Ao104 t599.length co104)) hb); have n4_ := Aside0.mk (Kd.R_below (z3f HO590 BK603 (.int .i64 t595) (.slice Ao103 t596.length co103) (.slice Ao104 t599.length co104)) hb); have n4F_ := Aside0.mk (Kd.R_below (z3f HO590F BK603 (.int .i64 t595) (.slice Ao103 t596.length co103) (.slice Ao104 t599.length co104)) hb); have n5_ := Aside0.mk (Kd.R_below (z3f HO593 BK603 (.int .i64 t595) (.slice Ao103 t596.length co103) (.slice Ao104 t599.length co104)) hb); have n5F_ := Aside0.mk (Kd.R_below (z3f HO593F BK603 (.int .i64 t595) (.slice Ao103 t596.length co103) (.slice Ao104 t599.length co104)) hb); have n6_ := Aside0.mk (Kd.R_below (z3f HO598 BK603 (.int .i64 t595) (.slice Ao103 t596.length co103) (.slice Ao104 t599.length co104)) hb); have n7_ := Aside0.mk (Kd.R_below (z3f HO601 BK603 (.int .i64 t595) (.slice Ao103 t596.length co103) (.slice Ao104 t599.length co104)) hb); have n8_ := Aside0.mk (blk_below (g := gb552) (o := .cells #[.int .i64 a0_0, .slice A0_1 l0_1.length c0_1, .slice A0_2 l0_2.length c0_2] 24 (0, 0)) (zq5 BK552) hb); have n9_ := Aside0.mk (blk_below (g := gb553) (o := .cells #[.int .i64 a1_0, .slice A1_1 l1_1.length c1_1, .slice A1_2 l1_2.length c1_2] 24 (0, 0)) (zq5 BK553) hb); have n10_ := Aside0.mk (blk_below (g := gb578) (o := .cells #[.int .i64 t570, .slice Ao69 t571.length co69, .slice Ao71 t574.length co71] 27 (0, 0)) (zq5 BK578) hb); have n11_ := Aside0.mk (blk_below (g := gb586) (o := .cells #[.int .i64 t579, .slice Ao81 t580.length co81, .slice Ao82 t583.length co82] 27 (0, 0)) (zq5 BK586) hb); have n12_ := Aside0.mk (blk_below (g := gb594) (o := .cells #[.int .i64 t587, .slice Ao92 t588.length co92, .slice Ao93 t591.length co93] 27 (0, 0)) (zq5 BK594) hb); have n13_ := Aside0.mk (blk_below (g := gb603) (o := .cells #[.int .i64 t595, .slice Ao103 t596.length co103, .slice Ao104 t599.length co104] 27 (0, 0)) (by (with_reducible repeat (first | refine blk_drewN ?_ _ | refine blk_drew ?_ | refine blk_alloc ?_ _)); refine blk_put (cs := #[.int .i64 t595, .slice Ao103 t596.length co103, .slice none 0 0]) ?_ 2 _ rfl; (with_reducible repeat (first | refine blk_drewN ?_ _ | refine blk_drew ?_ | refine blk_alloc ?_ _)); refine blk_put (cs := #[.int .i64 t595, .slice none 0 0, .slice none 0 0]) ?_ 1 _ rfl; (with_reducible repeat (first | refine blk_drewN ?_ _ | refine blk_drew ?_ | refine blk_alloc ?_ _)); refine blk_put (cs := #[.int .i64 0, .slice none 0 0, .slice none 0 0]) ?_ 0 _ rfl; (with_reducible repeat (first | refine blk_drewN ?_ _ | refine blk_drew ?_ | refine blk_alloc ?_ _)); exact BK603.out) hb); have n14_ := Aside0.mk (below_step (zb1 HB) hb); clear HO573; clear HO576; clear HO582 HO582F; clear HO585 HO585F; clear HO590 HO590F; clear HO593 HO593F; clear HO598; clear HO601; clear BK552; clear BK553; clear BK578; clear BK586; clear BK594; clear BK603; clear HB; have HO573 := n0_; have HO576 := n1_; have HO582 := n2_; have HO582F := n2F_; have HO585 := n3_; have HO585F := n3F_; have HO590 := n4_; have HO590F := n4F_; have HO593 := n5_; have HO593F := n5F_; have HO598 := n6_; have HO601 := n7_; have BK552 := n8_; have BK553 := n9_; have BK578 := n10_; have BK586 := n11_; have BK594 := n12_; have BK603 := n13_; have HB := n14_; clear n0_ n1_ n2_ n3_ n4_ n5_ n6_ n7_ n8_ n9_ n10_ n11_ n12_ n13_ n14_ n2F_ n3F_ n4F_ n5F_; (try clear hb); (try clear hb2); (try clear hk); (try clear hi)))
               have n0_ := Aside0.mk (Kd.R_drew HO573.out)
               have n1_ := Aside0.mk (Kd.R_drew HO576.out)
               have n2_ := Aside0.mk (Kd.R_drew HO582.out)
               have n2F_ := Aside0.mk (Kd.R_drew HO582F.out)
               have n3_ := Aside0.mk (Kd.R_drew HO585.out)
               have n3F_ := Aside0.mk (Kd.R_drew HO585F.out)
               have n4_ := Aside0.mk (Kd.R_drew HO590.out)
               have n4F_ := Aside0.mk (Kd.R_drew HO590F.out)
               have n5_ := Aside0.mk (Kd.R_drew HO593.out)
               have n5F_ := Aside0.mk (Kd.R_drew HO593F.out)
               have n6_ := Aside0.mk (Kd.R_drew HO598.out)
               have n7_ := Aside0.mk (Kd.R_drew HO601.out)
               have n8_ := Aside0.mk (blk_drew BK552.out)
               have n9_ := Aside0.mk (blk_drew BK553.out)
               have n10_ := Aside0.mk (blk_drew BK578.out)
               have n11_ := Aside0.mk (blk_drew BK586.out)
               have n12_ := Aside0.mk (blk_drew BK594.out)
               have n13_ := Aside0.mk (blk_drew BK603.out)
               have n14_ := Aside0.mk (below_drew1 HB.out)
               clear HO573 HO576 HO582 HO582F HO585 HO585F HO590 HO590F HO593 HO593F HO598 HO601 BK552 BK553 BK578 BK586 BK594 BK603 HB
               have HO573 := n0_; have HO576 := n1_; have HO582 := n2_; have HO582F := n2F_; have HO585 := n3_; have HO585F := n3F_; have HO590 := n4_; have HO590F := n4F_; have HO593 := n5_; have HO593F := n5F_; have HO598 := n6_; have HO601 := n7_; have BK552 := n8_; have BK553 := n9_; have BK578 := n10_; have BK586 := n11_; have BK594 := n12_; have BK603 := n13_; have HB := n14_
               clear n0_ n1_ n2_ n3_ n4_ n5_ n6_ n7_ n8_ n9_ n10_ n11_ n12_ n13_ n14_ n2F_ n3F_ n4F_ n5F_
               refine start_ (n := 5) (S := fun w' => w'.cell? ⟨gb586, 0, none⟩ = some (.int .i64 t579) ∧ w'.cell? ⟨gb586, 1, none⟩ = some (.slice Ao81 t580.length co81) ∧ w'.cell? ⟨gb586, 2, none⟩ = some (.slice Ao82 t583.length co82) ∧ w'.cell? ⟨gb552, 0, none⟩ = some (.int .i64 a0_0) ∧ w'.cell? ⟨gb552, 1, none⟩ = some (.slice A0_1 l0_1.length c0_1) ∧ w'.cell? ⟨gb552, 2, none⟩ = some (.slice A0_2 l0_2.length c0_2)) (ds := []) #[false, false, false, false, false] (by kernel_rfl) rfl rfl ⟨zc BK586 0, zc BK586 1, zc BK586 2, zc BK552 0, zc BK552 1, zc BK552 2⟩ (fun hHeld => ?_)
               generalize w106.drew = w107 at HO573 HO576 HO582 HO585 HO590 HO593 HO598 HO601 BK552 BK553 BK578 BK586 BK594 BK603 HB hHeld HO582F HO585F HO590F HO593F ⊢
               refine take_ (i := 0) (N := some 54) (v := ?_) (a' := ?_) #[true, false, false, false, false] rfl rfl (by kernel_rfl) (fun _ _ _ h => h) (Or.inl ⟨by rfl, ?_⟩) hHeld ?_ ?_
               rotate_left
               ·
                rintro w' ⟨s0, s1, s2, s3, s4, s5⟩
                go_simp
                with_reducible rfl
               rotate_left
               ·
                simp only [Act.put, List.setIfInBounds_toArray, List.set_cons_zero, List.set_cons_succ, i64_w, i32_w]
                rfl
               refine take_ (i := 1) (N := some 55) (v := ?_) (a' := ?_) #[true, true, false, false, false] rfl rfl (by kernel_rfl) (fun _ _ _ h => h) (Or.inl ⟨by rfl, ?_⟩) hHeld ?_ ?_
               rotate_left
               ·
                rintro w' ⟨s0, s1, s2, s3, s4, s5⟩
                go_simp
                with_reducible rfl
               rotate_left
               ·
                simp only [Act.put, List.setIfInBounds_toArray, List.set_cons_zero, List.set_cons_succ, i64_w, i32_w]
                rfl
               refine one_ (i := 2) (N := some 56) #[true, true, true, false, false] rfl rfl (by kernel_rfl) (by decide) (fun K hK => ?_)
               refine goes_ Try.func16 (by kernel_rfl) rfl #[.agg #[.int .i64 a0_0, .slice A0_1 l0_1.length c0_1, .slice A0_2 l0_2.length c0_2], .bool false] (by rfl) rfl rfl zq6 ?_
               with_reducible refine (laws_toBox.calls k a0_0 _ _ l0_1 _ _ l0_2 false t605 t606 t609 _ ?side1 ?side2 ?side3 ?side4 A27.out).mono ?_
               (case side1 => exact zcs HR0_1 HB)
               (case side2 => exact HC0_1.out)
               (case side3 => exact zcs HR0_2 HB)
               (case side4 => exact HC0_2.out)
               rintro e w108 ⟨v607, v610, rfl, ho0, ho1, hb, ho0F, ho1F⟩
               refine ⟨_, rfl, ?_⟩
               have n0_ := Aside0.mk (zt2 (zq3 HO573) hb ho0 ho1)
               have n1_ := Aside0.mk (zt2 (zq3 HO576) hb ho0 ho1)
               have n2_ := Aside0.mk (zt2 (zq3 HO582) hb ho0 ho1)
               have n2F_ := Aside0.mk (zt2 (zq3 HO582F) hb ho0 ho1)
               have n3_ := Aside0.mk (zt2 (zq3 HO585) hb ho0 ho1)
               have n3F_ := Aside0.mk (zt2 (zq3 HO585F) hb ho0 ho1)
               have n4_ := Aside0.mk (zt2 (zq3 HO590) hb ho0 ho1)
               have n4F_ := Aside0.mk (zt2 (zq3 HO590F) hb ho0 ho1)
               have n5_ := Aside0.mk (zt2 (zq3 HO593) hb ho0 ho1)
               have n5F_ := Aside0.mk (zt2 (zq3 HO593F) hb ho0 ho1)
               have n6_ := Aside0.mk (zt2 (zq3 HO598) hb ho0 ho1)
               have n7_ := Aside0.mk (zt2 (zq3 HO601) hb ho0 ho1)
               have n8_ := Aside0.mk (Kd.R_lower (zn (zn (zn (zn (zn (zn (zn (zn ho0 HO573) HO576) HO582) HO585) HO590) HO593) HO598) HO601) (below_size (zb1 HB)))
               have n8F_ := Aside0.mk (Kd.R_lower (zn (zn (zn (zn (zn (zn (zn (zn ho0F HO573) HO576) HO582) HO585) HO590) HO593) HO598) HO601) (below_size (zb1 HB)))
               have n9_ := Aside0.mk (Kd.R_lower (zn (zn (zn (zn (zn (zn (zn (zn ho1 HO573) HO576) HO582) HO585) HO590) HO593) HO598) HO601) (below_size (zb1 HB)))
               have n9F_ := Aside0.mk (Kd.R_lower (zn (zn (zn (zn (zn (zn (zn (zn ho1F HO573) HO576) HO582) HO585) HO590) HO593) HO598) HO601) (below_size (zb1 HB)))
               have n10_ := Aside0.mk (zbb BK552 hb)
               have n11_ := Aside0.mk (zbb BK553 hb)
               have n12_ := Aside0.mk (zbb BK578 hb)
               have n13_ := Aside0.mk (zbb BK586 hb)
               have n14_ := Aside0.mk (zbb BK594 hb)
               have n15_ := Aside0.mk (zbb BK603 hb)
               have n16_ := Aside0.mk (below_step (zb1 HB) hb)
               clear HO573 HO576 HO582 HO582F HO585 HO585F HO590 HO590F HO593 HO593F HO598 HO601 BK552 BK553 BK578 BK586 BK594 BK603 HB
               have HO573 := n0_; have HO576 := n1_; have HO582 := n2_; have HO582F := n2F_; have HO585 := n3_; have HO585F := n3F_; have HO590 := n4_; have HO590F := n4F_; have HO593 := n5_; have HO593F := n5F_; have HO598 := n6_; have HO601 := n7_; have HO608 := n8_; have HO608F := n8F_; have HO611 := n9_; have HO611F := n9F_; have BK552 := n10_; have BK553 := n11_; have BK578 := n12_; have BK586 := n13_; have BK594 := n14_; have BK603 := n15_; have HB := n16_
               clear n0_ n1_ n2_ n3_ n4_ n5_ n6_ n7_ n8_ n9_ n10_ n11_ n12_ n13_ n14_ n15_ n16_ n2F_ n3F_ n4F_ n5F_ n8F_ n9F_
               (try clear hb)
               (try clear hb2)
               (try clear hk)
               (try clear hi)
               (try clear ho0)
               (try clear ho0F)
               (try clear ho1)
               (try clear ho1F)
               obtain ⟨Ao109, co109, eo109⟩ := Kd.R_slice HO608.out
               (first | subst eo109 | (injection eo109 with f1_ f2_ f3_; have f4_ := f1_.symm; have f5_ := f3_.symm; clear f1_ f2_ f3_; subst f4_; subst f5_))
               obtain ⟨Ao110, co110, eo110⟩ := Kd.R_slice HO611.out
               (first | subst eo110 | (injection eo110 with f1_ f2_ f3_; have f4_ := f1_.symm; have f5_ := f3_.symm; clear f1_ f2_ f3_; subst f4_; subst f5_))
               refine hK.out _ _ ⟨zc BK586 0, zc BK586 1, zc BK586 2, zc BK552 0, zc BK552 1, zc BK552 2⟩ (fun hHeld => ?_)
               clear hK K
               refine norm_ (a' := ?_) ?_ ?_
               rotate_left
               ·
                show Act.put _ (some 56) _ = _
                simp only [Act.put, List.setIfInBounds_toArray, List.set_cons_zero, List.set_cons_succ, i64_w, i32_w]; rfl
               refine one_ (i := 3) (N := some 57) #[true, true, true, true, false] rfl rfl (by kernel_rfl) (by decide) (fun K hK => ?_)
               refine goes_ Try.func18 (by kernel_rfl) rfl #[.agg #[.int .i64 t579, .slice Ao81 t580.length co81, .slice Ao82 t583.length co82], .agg #[.int .i64 t605, .slice Ao109 t606.length co109, .slice Ao110 t609.length co110]] (by rfl) rfl rfl zq6 ?_
               with_reducible refine (laws_intactBox.calls t579 _ _ t580 _ _ t583 t605 _ _ t606 _ _ t609 true _ ?side1 ?side2 ?side3 ?side4 ?side5 ?side6 ?side7 ?side8 A28.out ?sideF1 ?sideF2 ?sideF3 ?sideF4 ?sideF5 ?sideF6 ?sideF7 ?sideF8).mono ?_
               (case side1 => exact zcr HO582)
               (case side2 => exact (Kd.R_reads' HO582.out).2.1)
               (case side3 => exact zcr HO585)
               (case side4 => exact (Kd.R_reads' HO585.out).2.1)
               (case side5 => exact zcr HO608)
               (case side6 => exact (Kd.R_reads' HO608.out).2.1)
               (case side7 => exact zcr HO611)
               (case side8 => exact (Kd.R_reads' HO611.out).2.1)
               (case sideF1 => exact zcr HO582F)
               (case sideF2 => exact (Kd.R_reads' HO582F.out).2.1)
               (case sideF3 => exact zcr HO585F)
               (case sideF4 => exact (Kd.R_reads' HO585F.out).2.1)
               (case sideF5 => exact zcr HO608F)
               (case sideF6 => exact (Kd.R_reads' HO608F.out).2.1)
               (case sideF7 => exact zcr HO611F)
               (case sideF8 => exact (Kd.R_reads' HO611F.out).2.1)
               rintro e w111 ⟨rfl, hb⟩
               refine ⟨_, rfl, ?_⟩
               have n0_ := Aside0.mk (Kd.R_below (zq3 HO573) hb)
               have n1_ := Aside0.mk (Kd.R_below (zq3 HO576) hb)
               have n2_ := Aside0.mk (Kd.R_below (zq3 HO582) hb)
               have n2F_ := Aside0.mk (Kd.R_below (zq3 HO582F) hb)
               have n3_ := Aside0.mk (Kd.R_below (zq3 HO585) hb)
               have n3F_ := Aside0.mk (Kd.R_below (zq3 HO585F) hb)
               have n4_ := Aside0.mk (Kd.R_below (zq3 HO590) hb)
               have n4F_ := Aside0.mk (Kd.R_below (zq3 HO590F) hb)
               have n5_ := Aside0.mk (Kd.R_below (zq3 HO593) hb)
               have n5F_ := Aside0.mk (Kd.R_below (zq3 HO593F) hb)
               have n6_ := Aside0.mk (Kd.R_below (zq3 HO598) hb)
               have n7_ := Aside0.mk (Kd.R_below (zq3 HO601) hb)
               have n8_ := Aside0.mk (Kd.R_below (zq3 HO608) hb)
               have n8F_ := Aside0.mk (Kd.R_below (zq3 HO608F) hb)
               have n9_ := Aside0.mk (Kd.R_below (zq3 HO611) hb)
               have n9F_ := Aside0.mk (Kd.R_below (zq3 HO611F) hb)
               have n10_ := Aside0.mk (zbb BK552 hb)
               have n11_ := Aside0.mk (zbb BK553 hb)
               have n12_ := Aside0.mk (zbb BK578 hb)
               have n13_ := Aside0.mk (zbb BK586 hb)
               have n14_ := Aside0.mk (zbb BK594 hb)
               have n15_ := Aside0.mk (zbb BK603 hb)
               have n16_ := Aside0.mk (below_step (zb1 HB) hb)
               clear HO573 HO576 HO582 HO582F HO585 HO585F HO590 HO590F HO593 HO593F HO598 HO601 HO608 HO608F HO611 HO611F BK552 BK553 BK578 BK586 BK594 BK603 HB
               have HO573 := n0_; have HO576 := n1_; have HO582 := n2_; have HO582F := n2F_; have HO585 := n3_; have HO585F := n3F_; have HO590 := n4_; have HO590F := n4F_; have HO593 := n5_; have HO593F := n5F_; have HO598 := n6_; have HO601 := n7_; have HO608 := n8_; have HO608F := n8F_; have HO611 := n9_; have HO611F := n9F_; have BK552 := n10_; have BK553 := n11_; have BK578 := n12_; have BK586 := n13_; have BK594 := n14_; have BK603 := n15_; have HB := n16_
               clear n0_ n1_ n2_ n3_ n4_ n5_ n6_ n7_ n8_ n9_ n10_ n11_ n12_ n13_ n14_ n15_ n16_ n2F_ n3F_ n4F_ n5F_ n8F_ n9F_
               (try clear hb)
               (try clear hb2)
               (try clear hk)
               (try clear hi)
               refine hK.out _ _ ⟨zc BK586 0, zc BK586 1, zc BK586 2, zc BK552 0, zc BK552 1, zc BK552 2⟩ (fun hHeld => ?_)
               clear hK K
               refine norm_ (a' := ?_) ?_ ?_
               rotate_left
               ·
                show Act.put _ (some 57) _ = _
                simp only [Act.put, List.setIfInBounds_toArray, List.set_cons_zero, List.set_cons_succ, i64_w, i32_w]; rfl
               refine pure_ (i := 4) (N := some 58) (v := ?_) (a' := ?_) #[true, true, true, true, true] rfl rfl (by kernel_rfl) (fun _ _ _ h => h) (Or.inl ⟨by rfl, ?_⟩) ?_ ?_
               rotate_left
               ·
                intro w'
                go_simp
                with_reducible rfl
               rotate_left
               ·
                simp only [Act.put, List.setIfInBounds_toArray, List.set_cons_zero, List.set_cons_succ, i64_w, i32_w]
                rfl
               refine done_ (by kernel_rfl) ?_
               try go_wp2
               have n0_ := Aside0.mk (Kd.R_drew HO573.out)
               have n1_ := Aside0.mk (Kd.R_drew HO576.out)
               have n2_ := Aside0.mk (Kd.R_drew HO582.out)
               have n2F_ := Aside0.mk (Kd.R_drew HO582F.out)
               have n3_ := Aside0.mk (Kd.R_drew HO585.out)
               have n3F_ := Aside0.mk (Kd.R_drew HO585F.out)
               have n4_ := Aside0.mk (Kd.R_drew HO590.out)
               have n4F_ := Aside0.mk (Kd.R_drew HO590F.out)
               have n5_ := Aside0.mk (Kd.R_drew HO593.out)
               have n5F_ := Aside0.mk (Kd.R_drew HO593F.out)
               have n6_ := Aside0.mk (Kd.R_drew HO598.out)
               have n7_ := Aside0.mk (Kd.R_drew HO601.out)
               have n8_ := Aside0.mk (blk_drew BK552.out)
               have n9_ := Aside0.mk (blk_drew BK553.out)
               have n10_ := Aside0.mk (blk_drew BK578.out)
               have n11_ := Aside0.mk (blk_drew BK586.out)
               have n12_ := Aside0.mk (blk_drew BK594.out)
               have n13_ := Aside0.mk (blk_drew BK603.out)
               have n14_ := Aside0.mk (below_drew1 HB.out)
               clear HO573 HO576 HO582 HO582F HO585 HO585F HO590 HO590F HO593 HO593F HO598 HO601 BK552 BK553 BK578 BK586 BK594 BK603 HB
               have HO573 := n0_; have HO576 := n1_; have HO582 := n2_; have HO582F := n2F_; have HO585 := n3_; have HO585F := n3F_; have HO590 := n4_; have HO590F := n4F_; have HO593 := n5_; have HO593F := n5F_; have HO598 := n6_; have HO601 := n7_; have BK552 := n8_; have BK553 := n9_; have BK578 := n10_; have BK586 := n11_; have BK594 := n12_; have BK603 := n13_; have HB := n14_
               clear n0_ n1_ n2_ n3_ n4_ n5_ n6_ n7_ n8_ n9_ n10_ n11_ n12_ n13_ n14_ n2F_ n3F_ n4F_ n5F_
               refine start_ (n := 5) (S := fun w' => w'.cell? ⟨gb594, 0, none⟩ = some (.int .i64 t587) ∧ w'.cell? ⟨gb594, 1, none⟩ = some (.slice Ao92 t588.length co92) ∧ w'.cell? ⟨gb594, 2, none⟩ = some (.slice Ao93 t591.length co93) ∧ w'.cell? ⟨gb553, 0, none⟩ = some (.int .i64 a1_0) ∧ w'.cell? ⟨gb553, 1, none⟩ = some (.slice A1_1 l1_1.length c1_1) ∧ w'.cell? ⟨gb553, 2, none⟩ = some (.slice A1_2 l1_2.length c1_2)) (ds := []) #[false, false, false, false, false] (by kernel_rfl) rfl rfl ⟨zc BK594 0, zc BK594 1, zc BK594 2, zc BK553 0, zc BK553 1, zc BK553 2⟩ (fun hHeld => ?_)
               generalize w111.drew = w112 at HO573 HO576 HO582 HO585 HO590 HO593 HO598 HO601 BK552 BK553 BK578 BK586 BK594 BK603 HB hHeld HO582F HO585F HO590F HO593F ⊢
               refine take_ (i := 0) (N := some 59) (v := ?_) (a' := ?_) #[true, false, false, false, false] rfl rfl (by kernel_rfl) (fun _ _ _ h => h) (Or.inl ⟨by rfl, ?_⟩) hHeld ?_ ?_
               rotate_left
               ·
                rintro w' ⟨s0, s1, s2, s3, s4, s5⟩
                go_simp
                with_reducible rfl
               rotate_left
               ·
                simp only [Act.put, List.setIfInBounds_toArray, List.set_cons_zero, List.set_cons_succ, i64_w, i32_w]
                rfl
               refine take_ (i := 1) (N := some 60) (v := ?_) (a' := ?_) #[true, true, false, false, false] rfl rfl (by kernel_rfl) (fun _ _ _ h => h) (Or.inl ⟨by rfl, ?_⟩) hHeld ?_ ?_
               rotate_left
               ·
                rintro w' ⟨s0, s1, s2, s3, s4, s5⟩
                go_simp
                with_reducible rfl
               rotate_left
               ·
                simp only [Act.put, List.setIfInBounds_toArray, List.set_cons_zero, List.set_cons_succ, i64_w, i32_w]
                rfl
               refine one_ (i := 2) (N := some 61) #[true, true, true, false, false] rfl rfl (by kernel_rfl) (by decide) (fun K hK => ?_)
               refine goes_ Try.func16 (by kernel_rfl) rfl #[.agg #[.int .i64 a1_0, .slice A1_1 l1_1.length c1_1, .slice A1_2 l1_2.length c1_2], .bool false] (by rfl) rfl rfl zq6 ?_
               with_reducible refine (laws_toBox.calls k a1_0 _ _ l1_1 _ _ l1_2 false t613 t614 t617 _ ?side1 ?side2 ?side3 ?side4 A30.out).mono ?_
               (case side1 => exact zcs HR1_1 HB)
               (case side2 => exact HC1_1.out)
               (case side3 => exact zcs HR1_2 HB)
               (case side4 => exact HC1_2.out)
               rintro e w113 ⟨v615, v618, rfl, ho0, ho1, hb, ho0F, ho1F⟩
               refine ⟨_, rfl, ?_⟩
               have n0_ := Aside0.mk (zt2 (zq3 HO573) hb ho0 ho1)
               have n1_ := Aside0.mk (zt2 (zq3 HO576) hb ho0 ho1)
               have n2_ := Aside0.mk (zt2 (zq3 HO582) hb ho0 ho1)
               have n2F_ := Aside0.mk (zt2 (zq3 HO582F) hb ho0 ho1)
               have n3_ := Aside0.mk (zt2 (zq3 HO585) hb ho0 ho1)
               have n3F_ := Aside0.mk (zt2 (zq3 HO585F) hb ho0 ho1)
               have n4_ := Aside0.mk (zt2 (zq3 HO590) hb ho0 ho1)
               have n4F_ := Aside0.mk (zt2 (zq3 HO590F) hb ho0 ho1)
               have n5_ := Aside0.mk (zt2 (zq3 HO593) hb ho0 ho1)
               have n5F_ := Aside0.mk (zt2 (zq3 HO593F) hb ho0 ho1)
               have n6_ := Aside0.mk (zt2 (zq3 HO598) hb ho0 ho1)
               have n7_ := Aside0.mk (zt2 (zq3 HO601) hb ho0 ho1)
               have n8_ := Aside0.mk (Kd.R_lower (zn (zn (zn (zn (zn (zn (zn (zn ho0 HO573) HO576) HO582) HO585) HO590) HO593) HO598) HO601) (below_size (zb1 HB)))
               have n8F_ := Aside0.mk (Kd.R_lower (zn (zn (zn (zn (zn (zn (zn (zn ho0F HO573) HO576) HO582) HO585) HO590) HO593) HO598) HO601) (below_size (zb1 HB)))
               have n9_ := Aside0.mk (Kd.R_lower (zn (zn (zn (zn (zn (zn (zn (zn ho1 HO573) HO576) HO582) HO585) HO590) HO593) HO598) HO601) (below_size (zb1 HB)))
               have n9F_ := Aside0.mk (Kd.R_lower (zn (zn (zn (zn (zn (zn (zn (zn ho1F HO573) HO576) HO582) HO585) HO590) HO593) HO598) HO601) (below_size (zb1 HB)))
               have n10_ := Aside0.mk (zbb BK552 hb)
               have n11_ := Aside0.mk (zbb BK553 hb)
               have n12_ := Aside0.mk (zbb BK578 hb)
               have n13_ := Aside0.mk (zbb BK586 hb)
               have n14_ := Aside0.mk (zbb BK594 hb)
               have n15_ := Aside0.mk (zbb BK603 hb)
               have n16_ := Aside0.mk (below_step (zb1 HB) hb)
               clear HO573 HO576 HO582 HO582F HO585 HO585F HO590 HO590F HO593 HO593F HO598 HO601 BK552 BK553 BK578 BK586 BK594 BK603 HB
               have HO573 := n0_; have HO576 := n1_; have HO582 := n2_; have HO582F := n2F_; have HO585 := n3_; have HO585F := n3F_; have HO590 := n4_; have HO590F := n4F_; have HO593 := n5_; have HO593F := n5F_; have HO598 := n6_; have HO601 := n7_; have HO616 := n8_; have HO616F := n8F_; have HO619 := n9_; have HO619F := n9F_; have BK552 := n10_; have BK553 := n11_; have BK578 := n12_; have BK586 := n13_; have BK594 := n14_; have BK603 := n15_; have HB := n16_
               clear n0_ n1_ n2_ n3_ n4_ n5_ n6_ n7_ n8_ n9_ n10_ n11_ n12_ n13_ n14_ n15_ n16_ n2F_ n3F_ n4F_ n5F_ n8F_ n9F_
               (try clear hb)
               (try clear hb2)
               (try clear hk)
               (try clear hi)
               (try clear ho0)
               (try clear ho0F)
               (try clear ho1)
               (try clear ho1F)
               obtain ⟨Ao114, co114, eo114⟩ := Kd.R_slice HO616.out
               (first | subst eo114 | (injection eo114 with f1_ f2_ f3_; have f4_ := f1_.symm; have f5_ := f3_.symm; clear f1_ f2_ f3_; subst f4_; subst f5_))
               obtain ⟨Ao115, co115, eo115⟩ := Kd.R_slice HO619.out
               (first | subst eo115 | (injection eo115 with f1_ f2_ f3_; have f4_ := f1_.symm; have f5_ := f3_.symm; clear f1_ f2_ f3_; subst f4_; subst f5_))
               refine hK.out _ _ ⟨zc BK594 0, zc BK594 1, zc BK594 2, zc BK553 0, zc BK553 1, zc BK553 2⟩ (fun hHeld => ?_)
               clear hK K
               refine norm_ (a' := ?_) ?_ ?_
               rotate_left
               ·
                show Act.put _ (some 61) _ = _
                simp only [Act.put, List.setIfInBounds_toArray, List.set_cons_zero, List.set_cons_succ, i64_w, i32_w]; rfl
               refine one_ (i := 3) (N := some 62) #[true, true, true, true, false] rfl rfl (by kernel_rfl) (by decide) (fun K hK => ?_)
               refine goes_ Try.func18 (by kernel_rfl) rfl #[.agg #[.int .i64 t587, .slice Ao92 t588.length co92, .slice Ao93 t591.length co93], .agg #[.int .i64 t613, .slice Ao114 t614.length co114, .slice Ao115 t617.length co115]] (by rfl) rfl rfl zq6 ?_
               with_reducible refine (laws_intactBox.calls t587 _ _ t588 _ _ t591 t613 _ _ t614 _ _ t617 true _ ?side1 ?side2 ?side3 ?side4 ?side5 ?side6 ?side7 ?side8 A31.out ?sideF1 ?sideF2 ?sideF3 ?sideF4 ?sideF5 ?sideF6 ?sideF7 ?sideF8).mono ?_
               (case side1 => exact zcr HO590)
               (case side2 => exact (Kd.R_reads' HO590.out).2.1)
               (case side3 => exact zcr HO593)
               (case side4 => exact (Kd.R_reads' HO593.out).2.1)
               (case side5 => exact zcr HO616)
               (case side6 => exact (Kd.R_reads' HO616.out).2.1)
               (case side7 => exact zcr HO619)
               (case side8 => exact (Kd.R_reads' HO619.out).2.1)
               (case sideF1 => exact zcr HO590F)
               (case sideF2 => exact (Kd.R_reads' HO590F.out).2.1)
               (case sideF3 => exact zcr HO593F)
               (case sideF4 => exact (Kd.R_reads' HO593F.out).2.1)
               (case sideF5 => exact zcr HO616F)
               (case sideF6 => exact (Kd.R_reads' HO616F.out).2.1)
               (case sideF7 => exact zcr HO619F)
               (case sideF8 => exact (Kd.R_reads' HO619F.out).2.1)
               rintro e w116 ⟨rfl, hb⟩
               refine ⟨_, rfl, ?_⟩
               have n0_ := Aside0.mk (Kd.R_below (zq3 HO573) hb)
               have n1_ := Aside0.mk (Kd.R_below (zq3 HO576) hb)
               have n2_ := Aside0.mk (Kd.R_below (zq3 HO582) hb)
               have n2F_ := Aside0.mk (Kd.R_below (zq3 HO582F) hb)
               have n3_ := Aside0.mk (Kd.R_below (zq3 HO585) hb)
               have n3F_ := Aside0.mk (Kd.R_below (zq3 HO585F) hb)
               have n4_ := Aside0.mk (Kd.R_below (zq3 HO590) hb)
               have n4F_ := Aside0.mk (Kd.R_below (zq3 HO590F) hb)
               have n5_ := Aside0.mk (Kd.R_below (zq3 HO593) hb)
               have n5F_ := Aside0.mk (Kd.R_below (zq3 HO593F) hb)
               have n6_ := Aside0.mk (Kd.R_below (zq3 HO598) hb)
               have n7_ := Aside0.mk (Kd.R_below (zq3 HO601) hb)
               have n8_ := Aside0.mk (Kd.R_below (zq3 HO616) hb)
               have n8F_ := Aside0.mk (Kd.R_below (zq3 HO616F) hb)
               have n9_ := Aside0.mk (Kd.R_below (zq3 HO619) hb)
               have n9F_ := Aside0.mk (Kd.R_below (zq3 HO619F) hb)
               have n10_ := Aside0.mk (zbb BK552 hb)
               have n11_ := Aside0.mk (zbb BK553 hb)
               have n12_ := Aside0.mk (zbb BK578 hb)
               have n13_ := Aside0.mk (zbb BK586 hb)
               have n14_ := Aside0.mk (zbb BK594 hb)
               have n15_ := Aside0.mk (zbb BK603 hb)
               have n16_ := Aside0.mk (below_step (zb1 HB) hb)
               clear HO573 HO576 HO582 HO582F HO585 HO585F HO590 HO590F HO593 HO593F HO598 HO601 HO616 HO616F HO619 HO619F BK552 BK553 BK578 BK586 BK594 BK603 HB
               have HO573 := n0_; have HO576 := n1_; have HO582 := n2_; have HO582F := n2F_; have HO585 := n3_; have HO585F := n3F_; have HO590 := n4_; have HO590F := n4F_; have HO593 := n5_; have HO593F := n5F_; have HO598 := n6_; have HO601 := n7_; have HO616 := n8_; have HO616F := n8F_; have HO619 := n9_; have HO619F := n9F_; have BK552 := n10_; have BK553 := n11_; have BK578 := n12_; have BK586 := n13_; have BK594 := n14_; have BK603 := n15_; have HB := n16_
               clear n0_ n1_ n2_ n3_ n4_ n5_ n6_ n7_ n8_ n9_ n10_ n11_ n12_ n13_ n14_ n15_ n16_ n2F_ n3F_ n4F_ n5F_ n8F_ n9F_
               (try clear hb)
               (try clear hb2)
               (try clear hk)
               (try clear hi)
               refine hK.out _ _ ⟨zc BK594 0, zc BK594 1, zc BK594 2, zc BK553 0, zc BK553 1, zc BK553 2⟩ (fun hHeld => ?_)
               clear hK K
               refine norm_ (a' := ?_) ?_ ?_
               rotate_left
               ·
                show Act.put _ (some 62) _ = _
                simp only [Act.put, List.setIfInBounds_toArray, List.set_cons_zero, List.set_cons_succ, i64_w, i32_w]; rfl
               refine pure_ (i := 4) (N := some 63) (v := ?_) (a' := ?_) #[true, true, true, true, true] rfl rfl (by kernel_rfl) (fun _ _ _ h => h) (Or.inl ⟨by rfl, ?_⟩) ?_ ?_
               rotate_left
               ·
                intro w'
                go_simp
                with_reducible rfl
               rotate_left
               ·
                simp only [Act.put, List.setIfInBounds_toArray, List.set_cons_zero, List.set_cons_succ, i64_w, i32_w]
                rfl
               refine done_ (by kernel_rfl) ?_
               have hcz117_0 : w116.cell? ⟨gb586, 0, none⟩ = some (.int .i64 t579) := zc BK586 0
               have hcz117_1 : w116.cell? ⟨gb586, 1, none⟩ = some (.slice Ao81 t580.length co81) := zc BK586 1
               have hcz117_2 : w116.cell? ⟨gb586, 2, none⟩ = some (.slice Ao82 t583.length co82) := zc BK586 2
               have hfz117_0 := blk_frozen BK586.out 0
               have hfz117_1 := blk_frozen BK586.out 1
               have hfz117_2 := blk_frozen BK586.out 2
               try go_wp2_with (first | ((with_reducible refine gate_callee (f := 34) rfl ?_); refine goesL_ (some 66) rfl rfl Try.func34 (by kernel_rfl) rfl #[.agg #[.int .i64 t579, .slice Ao81 t580.length co81, .slice Ao82 t583.length co82], .int .i64 101] rfl zq6 ?_; (with_reducible refine (laws_markBox.calls k t579 (fun k_ => some k_ = (.slice Ao81 t580.length co81 : Value).ownBlock) (.slice Ao81 t580.length co81) t580 (fun k_ => some k_ = (.slice Ao82 t583.length co82 : Value).ownBlock) (.slice Ao82 t583.length co82) t583 101 t621 t622 t623 w _ ?side1 ?side2 ?side3 ?side4 ?side5 A33.out).mono ?_); (case side1 => exact zb1 HB); (case side2 => exact Kd.R_tight rfl HO582.out); (case side3 => exact fun k_ e_ => (HO582.out.1 k_ e_.symm).1.1.1.1.1.1.1.1.1.1.1.1.1.1); (case side4 => exact Kd.R_tight rfl HO585.out); (case side5 => exact fun k_ e_ => (HO585.out.1 k_ e_.symm).1.1.1.1.1.1.1.1.1.1.1.1.1.1); rintro e w118 ⟨rfl, hy0, hy1, hb, hkp⟩; refine ⟨_, rfl, ?_⟩; have n0_ := Aside0.mk (blk_kept (zq1 BK552) hkp (fun hs_ => Or.elim hs_ (fun e_ => (fun e_ => (Kd.R_ne HO582.out BK552.out (by decide)) e_) e_) (fun e_ => (fun e_ => (Kd.R_ne HO585.out BK552.out (by decide)) e_) e_))); have n1_ := Aside0.mk (blk_kept (zq1 BK553) hkp (fun hs_ => Or.elim hs_ (fun e_ => (fun e_ => (Kd.R_ne HO582.out BK553.out (by decide)) e_) e_) (fun e_ => (fun e_ => (Kd.R_ne HO585.out BK553.out (by decide)) e_) e_))); have n2_ := Aside0.mk (Kd.R_mono (ok' := fun k_ => some k_ ≠ (.slice Ao71 t574.length co71 : Value).ownBlock ∧ some k_ ≠ (.slice Ao81 t580.length co81 : Value).ownBlock ∧ some k_ ≠ (.slice Ao82 t583.length co82 : Value).ownBlock ∧ some k_ ≠ (.slice Ao92 t588.length co92 : Value).ownBlock ∧ some k_ ≠ (.slice Ao93 t591.length co93 : Value).ownBlock ∧ some k_ ≠ (.slice Ao103 t596.length co103 : Value).ownBlock ∧ some k_ ≠ (.slice Ao104 t599.length co104 : Value).ownBlock) (Kd.R_keptB (HO573.out) hkp (fun k_ hk_ hs_ => Or.elim hs_ (fun e_ => (hk_.1.1.1.1.1.1.1.1.1.2) e_) (fun e_ => (hk_.1.1.1.1.1.1.1.1.2) e_))) (fun k_ hk_ => ⟨hk_.1.1.1.1.1.1.1.1.1.1.1.2.2.2.2, hk_.1.1.1.1.1.1.1.1.1.1.2, hk_.1.1.1.1.1.1.1.1.1.2, hk_.1.1.1.1.1.1.1.1.2, hk_.1.1.1.1.1.1.1.2, hk_.1.1.1.1.1.1.2, hk_.1.1.1.1.1.2⟩)); have n3_ := Aside0.mk (Kd.R_mono (ok' := fun k_ => some k_ ≠ (.slice Ao69 t571.length co69 : Value).ownBlock ∧ some k_ ≠ (.slice Ao81 t580.length co81 : Value).ownBlock ∧ some k_ ≠ (.slice Ao82 t583.length co82 : Value).ownBlock ∧ some k_ ≠ (.slice Ao92 t588.length co92 : Value).ownBlock ∧ some k_ ≠ (.slice Ao93 t591.length co93 : Value).ownBlock ∧ some k_ ≠ (.slice Ao103 t596.length co103 : Value).ownBlock ∧ some k_ ≠ (.slice Ao104 t599.length co104 : Value).ownBlock) (Kd.R_keptB (HO576.out) hkp (fun k_ hk_ hs_ => Or.elim hs_ (fun e_ => (hk_.1.1.1.1.1.1.1.1.1.2) e_) (fun e_ => (hk_.1.1.1.1.1.1.1.1.2) e_))) (fun k_ hk_ => ⟨hk_.1.1.1.1.1.1.1.1.1.1.1.2.2.2.2, hk_.1.1.1.1.1.1.1.1.1.1.2, hk_.1.1.1.1.1.1.1.1.1.2, hk_.1.1.1.1.1.1.1.1.2, hk_.1.1.1.1.1.1.1.2, hk_.1.1.1.1.1.1.2, hk_.1.1.1.1.1.2⟩)); have n4_ := Aside0.mk (blk_kept (zq1 BK578) hkp (fun hs_ => Or.elim hs_ (fun e_ => (fun e_ => (Kd.R_ne HO582.out BK578.out (by decide)) e_) e_) (fun e_ => (fun e_ => (Kd.R_ne HO585.out BK578.out (by decide)) e_) e_))); have n5_ := Aside0.mk (Kd.R_reok rfl hy0 (fun k_ e_ => HO582.out.1 k_ e_)); have n6_ := Aside0.mk (Kd.R_reok rfl hy1 (fun k_ e_ => HO585.out.1 k_ e_)); have n7_ := Aside0.mk (Kd.R_mono (ok' := fun k_ => some k_ ≠ (.slice Ao69 t571.length co69 : Value).ownBlock ∧ some k_ ≠ (.slice Ao71 t574.length co71 : Value).ownBlock ∧ some k_ ≠ (.slice Ao81 t580.length co81 : Value).ownBlock ∧ some k_ ≠ (.slice Ao82 t583.length co82 : Value).ownBlock ∧ some k_ ≠ (.slice Ao93 t591.length co93 : Value).ownBlock ∧ some k_ ≠ (.slice Ao103 t596.length co103 : Value).ownBlock ∧ some k_ ≠ (.slice Ao104 t599.length co104 : Value).ownBlock) (Kd.R_keptB (HO590.out) hkp (fun k_ hk_ hs_ => Or.elim hs_ (fun e_ => (hk_.1.1.1.1.1.1.1.2) e_) (fun e_ => (hk_.1.1.1.1.1.1.2) e_))) (fun k_ hk_ => ⟨hk_.1.1.1.1.1.1.1.1.1.1.2, hk_.1.1.1.1.1.1.1.1.1.2, hk_.1.1.1.1.1.1.1.1.2, hk_.1.1.1.1.1.1.1.2, hk_.1.1.1.1.1.1.1.1.1.1.1, hk_.1.1.1.1.1.1.2, hk_.1.1.1.1.1.2⟩)); have n7F_ := Aside0.mk (Kd.R_mono (ok' := fun k_ => some k_ ≠ (.slice Ao69 t571.length co69 : Value).ownBlock ∧ some k_ ≠ (.slice Ao71 t574.length co71 : Value).ownBlock ∧ some k_ ≠ (.slice Ao81 t580.length co81 : Value).ownBlock ∧ some k_ ≠ (.slice Ao82 t583.length co82 : Value).ownBlock ∧ some k_ ≠ (.slice Ao93 t591.length co93 : Value).ownBlock ∧ some k_ ≠ (.slice Ao103 t596.length co103 : Value).ownBlock ∧ some k_ ≠ (.slice Ao104 t599.length co104 : Value).ownBlock) (Kd.R_keptB (HO590F.out) hkp (fun k_ hk_ hs_ => Or.elim hs_ (fun e_ => (hk_.1.1.1.1.1.1.1.2) e_) (fun e_ => (hk_.1.1.1.1.1.1.2) e_))) (fun k_ hk_ => ⟨hk_.1.1.1.1.1.1.1.1.1.1.2, hk_.1.1.1.1.1.1.1.1.1.2, hk_.1.1.1.1.1.1.1.1.2, hk_.1.1.1.1.1.1.1.2, hk_.1.1.1.1.1.1.1.1.1.1.1, hk_.1.1.1.1.1.1.2, hk_.1.1.1.1.1.2⟩)); have n8_ := Aside0.mk (Kd.R_mono (ok' := fun k_ => some k_ ≠ (.slice Ao69 t571.length co69 : Value).ownBlock ∧ some k_ ≠ (.slice Ao71 t574.length co71 : Value).ownBlock ∧ some k_ ≠ (.slice Ao81 t580.length co81 : Value).ownBlock ∧ some k_ ≠ (.slice Ao82 t583.length co82 : Value).ownBlock ∧ some k_ ≠ (.slice Ao92 t588.length co92 : Value).ownBlock ∧ some k_ ≠ (.slice Ao103 t596.length co103 : Value).ownBlock ∧ some k_ ≠ (.slice Ao104 t599.length co104 : Value).ownBlock) (Kd.R_keptB (HO593.out) hkp (fun k_ hk_ hs_ => Or.elim hs_ (fun e_ => (hk_.1.1.1.1.1.1.1.2) e_) (fun e_ => (hk_.1.1.1.1.1.1.2) e_))) (fun k_ hk_ => ⟨hk_.1.1.1.1.1.1.1.1.1.1.2, hk_.1.1.1.1.1.1.1.1.1.2, hk_.1.1.1.1.1.1.1.1.2, hk_.1.1.1.1.1.1.1.2, hk_.1.1.1.1.1.1.1.1.1.1.1, hk_.1.1.1.1.1.1.2, hk_.1.1.1.1.1.2⟩)); have n8F_ := Aside0.mk (Kd.R_mono (ok' := fun k_ => some k_ ≠ (.slice Ao69 t571.length co69 : Value).ownBlock ∧ some k_ ≠ (.slice Ao71 t574.length co71 : Value).ownBlock ∧ some k_ ≠ (.slice Ao81 t580.length co81 : Value).ownBlock ∧ some k_ ≠ (.slice Ao82 t583.length co82 : Value).ownBlock ∧ some k_ ≠ (.slice Ao92 t588.length co92 : Value).ownBlock ∧ some k_ ≠ (.slice Ao103 t596.length co103 : Value).ownBlock ∧ some k_ ≠ (.slice Ao104 t599.length co104 : Value).ownBlock) (Kd.R_keptB (HO593F.out) hkp (fun k_ hk_ hs_ => Or.elim hs_ (fun e_ => (hk_.1.1.1.1.1.1.1.2) e_) (fun e_ => (hk_.1.1.1.1.1.1.2) e_))) (fun k_ hk_ => ⟨hk_.1.1.1.1.1.1.1.1.1.1.2, hk_.1.1.1.1.1.1.1.1.1.2, hk_.1.1.1.1.1.1.1.1.2, hk_.1.1.1.1.1.1.1.2, hk_.1.1.1.1.1.1.1.1.1.1.1, hk_.1.1.1.1.1.1.2, hk_.1.1.1.1.1.2⟩)); have n9_ := Aside0.mk (blk_kept (zq1 BK594) hkp (fun hs_ => Or.elim hs_ (fun e_ => (fun e_ => (Kd.R_ne HO582.out BK594.out (by decide)) e_) e_) (fun e_ => (fun e_ => (Kd.R_ne HO585.out BK594.out (by decide)) e_) e_))); have n10_ := Aside0.mk (Kd.R_mono (ok' := fun k_ => some k_ ≠ (.slice Ao69 t571.length co69 : Value).ownBlock ∧ some k_ ≠ (.slice Ao71 t574.length co71 : Value).ownBlock ∧ some k_ ≠ (.slice Ao81 t580.length co81 : Value).ownBlock ∧ some k_ ≠ (.slice Ao82 t583.length co82 : Value).ownBlock ∧ some k_ ≠ (.slice Ao92 t588.length co92 : Value).ownBlock ∧ some k_ ≠ (.slice Ao93 t591.length co93 : Value).ownBlock ∧ some k_ ≠ (.slice Ao104 t599.length co104 : Value).ownBlock) (Kd.R_keptB (HO598.out) hkp (fun k_ hk_ hs_ => Or.elim hs_ (fun e_ => (hk_.1.1.1.1.1.1.1.2) e_) (fun e_ => (hk_.1.1.1.1.1.1.2) e_))) (fun k_ hk_ => ⟨hk_.1.1.1.1.1.1.1.1.1.1.2, hk_.1.1.1.1.1.1.1.1.1.2, hk_.1.1.1.1.1.1.1.1.2, hk_.1.1.1.1.1.1.1.2, hk_.1.1.1.1.1.1.2, hk_.1.1.1.1.1.2, hk_.1.1.1.1.1.1.1.1.1.1.1⟩)); have n11_ := Aside0.mk (Kd.R_mono (ok' := fun k_ => some k_ ≠ (.slice Ao69 t571.length co69 : Value).ownBlock ∧ some k_ ≠ (.slice Ao71 t574.length co71 : Value).ownBlock ∧ some k_ ≠ (.slice Ao81 t580.length co81 : Value).ownBlock ∧ some k_ ≠ (.slice Ao82 t583.length co82 : Value).ownBlock ∧ some k_ ≠ (.slice Ao92 t588.length co92 : Value).ownBlock ∧ some k_ ≠ (.slice Ao93 t591.length co93 : Value).ownBlock ∧ some k_ ≠ (.slice Ao103 t596.length co103 : Value).ownBlock) (Kd.R_keptB (HO601.out) hkp (fun k_ hk_ hs_ => Or.elim hs_ (fun e_ => (hk_.1.1.1.1.1.1.1.2) e_) (fun e_ => (hk_.1.1.1.1.1.1.2) e_))) (fun k_ hk_ => ⟨hk_.1.1.1.1.1.1.1.1.1.1.2, hk_.1.1.1.1.1.1.1.1.1.2, hk_.1.1.1.1.1.1.1.1.2, hk_.1.1.1.1.1.1.1.2, hk_.1.1.1.1.1.1.2, hk_.1.1.1.1.1.2, hk_.1.1.1.1.1.1.1.1.1.1.1⟩)); have n12_ := Aside0.mk (blk_kept (zq1 BK603) hkp (fun hs_ => Or.elim hs_ (fun e_ => (fun e_ => (Kd.R_ne HO582.out BK603.out (by decide)) e_) e_) (fun e_ => (fun e_ => (Kd.R_ne HO585.out BK603.out (by decide)) e_) e_))); have n13_ := Aside0.mk (hb); clear BK552; clear BK553; clear HO573; clear HO576; clear BK578; clear HO582 HO582F; clear HO585 HO585F; clear HO590 HO590F; clear HO593 HO593F; clear BK594; clear HO598; clear HO601; clear BK603; clear HB; have BK552 := n0_; have BK553 := n1_; have HO573 := n2_; have HO576 := n3_; have BK578 := n4_; have HO582 := n5_; have HO585 := n6_; have HO590 := n7_; have HO590F := n7F_; have HO593 := n8_; have HO593F := n8F_; have BK594 := n9_; have HO598 := n10_; have HO601 := n11_; have BK603 := n12_; have HB := n13_; clear n0_ n1_ n2_ n3_ n4_ n5_ n6_ n7_ n8_ n9_ n10_ n11_ n12_ n13_ n7F_ n8F_; (try clear hb); (try clear hkp); (try clear hy0); (try clear hy1); have hcz119_0 : w118.cell? ⟨gb594, 0, none⟩ = some (.int .i64 t587) := zc BK594 0; have hcz119_1 : w118.cell? ⟨gb594, 1, none⟩ = some (.slice Ao92 t588.length co92) := zc BK594 1; have hcz119_2 : w118.cell? ⟨gb594, 2, none⟩ = some (.slice Ao93 t591.length co93) := zc BK594 2; have hfz119_0 := blk_frozen BK594.out 0; have hfz119_1 := blk_frozen BK594.out 1; have hfz119_2 := blk_frozen BK594.out 2) | ((with_reducible refine gate_callee (f := 34) rfl ?_); refine goesL_ (some 69) rfl rfl Try.func34 (by kernel_rfl) rfl #[.agg #[.int .i64 t587, .slice Ao92 t588.length co92, .slice Ao93 t591.length co93], .int .i64 t621] rfl zq6 ?_; (with_reducible refine (laws_markBox.calls k t587 (fun k_ => some k_ = (.slice Ao92 t588.length co92 : Value).ownBlock) (.slice Ao92 t588.length co92) t588 (fun k_ => some k_ = (.slice Ao93 t591.length co93 : Value).ownBlock) (.slice Ao93 t591.length co93) t591 t621 t624 t625 t626 w _ ?side1 ?side2 ?side3 ?side4 ?side5 A34.out).mono ?_); (case side1 => exact zb1 HB); (case side2 => exact Kd.R_tight rfl HO590.out); (case side3 => exact fun k_ e_ => (HO590.out.1 k_ e_.symm).2.2.2.2.1); (case side4 => exact Kd.R_tight rfl HO593.out); (case side5 => exact fun k_ e_ => (HO593.out.1 k_ e_.symm).2.2.2.2.1); rintro e w120 ⟨rfl, hy0, hy1, hb, hkp⟩; refine ⟨_, rfl, ?_⟩; have n0_ := Aside0.mk (blk_kept (zq1 BK552) hkp (fun hs_ => Or.elim hs_ (fun e_ => (fun e_ => (Kd.R_ne HO590.out BK552.out (by decide)) e_) e_) (fun e_ => (fun e_ => (Kd.R_ne HO593.out BK552.out (by decide)) e_) e_))); have n1_ := Aside0.mk (blk_kept (zq1 BK553) hkp (fun hs_ => Or.elim hs_ (fun e_ => (fun e_ => (Kd.R_ne HO590.out BK553.out (by decide)) e_) e_) (fun e_ => (fun e_ => (Kd.R_ne HO593.out BK553.out (by decide)) e_) e_))); have n2_ := Aside0.mk (Kd.R_mono (ok' := fun k_ => some k_ ≠ (.slice Ao71 t574.length co71 : Value).ownBlock ∧ some k_ ≠ (.slice Ao92 t588.length co92 : Value).ownBlock ∧ some k_ ≠ (.slice Ao93 t591.length co93 : Value).ownBlock ∧ some k_ ≠ (.slice Ao103 t596.length co103 : Value).ownBlock ∧ some k_ ≠ (.slice Ao104 t599.length co104 : Value).ownBlock) (Kd.R_keptB (HO573.out) hkp (fun k_ hk_ hs_ => Or.elim hs_ (fun e_ => (hk_.2.2.2.1) e_) (fun e_ => (hk_.2.2.2.2.1) e_))) (fun k_ hk_ => ⟨hk_.1.1, hk_.1.2.2.2.1, hk_.1.2.2.2.2.1, hk_.1.2.2.2.2.2.1, hk_.1.2.2.2.2.2.2⟩)); have n3_ := Aside0.mk (Kd.R_mono (ok' := fun k_ => some k_ ≠ (.slice Ao69 t571.length co69 : Value).ownBlock ∧ some k_ ≠ (.slice Ao92 t588.length co92 : Value).ownBlock ∧ some k_ ≠ (.slice Ao93 t591.length co93 : Value).ownBlock ∧ some k_ ≠ (.slice Ao103 t596.length co103 : Value).ownBlock ∧ some k_ ≠ (.slice Ao104 t599.length co104 : Value).ownBlock) (Kd.R_keptB (HO576.out) hkp (fun k_ hk_ hs_ => Or.elim hs_ (fun e_ => (hk_.2.2.2.1) e_) (fun e_ => (hk_.2.2.2.2.1) e_))) (fun k_ hk_ => ⟨hk_.1.1, hk_.1.2.2.2.1, hk_.1.2.2.2.2.1, hk_.1.2.2.2.2.2.1, hk_.1.2.2.2.2.2.2⟩)); have n4_ := Aside0.mk (blk_kept (zq1 BK578) hkp (fun hs_ => Or.elim hs_ (fun e_ => (fun e_ => (Kd.R_ne HO590.out BK578.out (by decide)) e_) e_) (fun e_ => (fun e_ => (Kd.R_ne HO593.out BK578.out (by decide)) e_) e_))); have n5_ := Aside0.mk (Kd.R_reok rfl hy0 (fun k_ e_ => HO590.out.1 k_ e_)); have n6_ := Aside0.mk (Kd.R_reok rfl hy1 (fun k_ e_ => HO593.out.1 k_ e_)); have n7_ := Aside0.mk (Kd.R_mono (ok' := fun k_ => some k_ ≠ (.slice Ao69 t571.length co69 : Value).ownBlock ∧ some k_ ≠ (.slice Ao71 t574.length co71 : Value).ownBlock ∧ some k_ ≠ (.slice Ao92 t588.length co92 : Value).ownBlock ∧ some k_ ≠ (.slice Ao93 t591.length co93 : Value).ownBlock ∧ some k_ ≠ (.slice Ao104 t599.length co104 : Value).ownBlock) (Kd.R_keptB (HO598.out) hkp (fun k_ hk_ hs_ => Or.elim hs_ (fun e_ => (hk_.2.2.2.2.1) e_) (fun e_ => (hk_.2.2.2.2.2.1) e_))) (fun k_ hk_ => ⟨hk_.1.1, hk_.1.2.1, hk_.1.2.2.2.2.1, hk_.1.2.2.2.2.2.1, hk_.1.2.2.2.2.2.2⟩)); have n8_ := Aside0.mk (Kd.R_mono (ok' := fun k_ => some k_ ≠ (.slice Ao69 t571.length co69 : Value).ownBlock ∧ some k_ ≠ (.slice Ao71 t574.length co71 : Value).ownBlock ∧ some k_ ≠ (.slice Ao92 t588.length co92 : Value).ownBlock ∧ some k_ ≠ (.slice Ao93 t591.length co93 : Value).ownBlock ∧ some k_ ≠ (.slice Ao103 t596.length co103 : Value).ownBlock) (Kd.R_keptB (HO601.out) hkp (fun k_ hk_ hs_ => Or.elim hs_ (fun e_ => (hk_.2.2.2.2.1) e_) (fun e_ => (hk_.2.2.2.2.2.1) e_))) (fun k_ hk_ => ⟨hk_.1.1, hk_.1.2.1, hk_.1.2.2.2.2.1, hk_.1.2.2.2.2.2.1, hk_.1.2.2.2.2.2.2⟩)); have n9_ := Aside0.mk (blk_kept (zq1 BK603) hkp (fun hs_ => Or.elim hs_ (fun e_ => (fun e_ => (Kd.R_ne HO590.out BK603.out (by decide)) e_) e_) (fun e_ => (fun e_ => (Kd.R_ne HO593.out BK603.out (by decide)) e_) e_))); have n10_ := Aside0.mk (hb); clear BK552; clear BK553; clear HO573; clear HO576; clear BK578; clear HO590 HO590F; clear HO593 HO593F; clear HO598; clear HO601; clear BK603; clear HB; have BK552 := n0_; have BK553 := n1_; have HO573 := n2_; have HO576 := n3_; have BK578 := n4_; have HO590 := n5_; have HO593 := n6_; have HO598 := n7_; have HO601 := n8_; have BK603 := n9_; have HB := n10_; clear n0_ n1_ n2_ n3_ n4_ n5_ n6_ n7_ n8_ n9_ n10_; (try clear hb); (try clear hkp); (try clear hy0); (try clear hy1); have hcz121_0 : w120.cell? ⟨gb603, 0, none⟩ = some (.int .i64 t595) := zc BK603 0; have hcz121_1 : w120.cell? ⟨gb603, 1, none⟩ = some (.slice Ao103 t596.length co103) := zc BK603 1; have hcz121_2 : w120.cell? ⟨gb603, 2, none⟩ = some (.slice Ao104 t599.length co104) := zc BK603 2; have hfz121_0 := blk_frozen BK603.out 0; have hfz121_1 := blk_frozen BK603.out 1; have hfz121_2 := blk_frozen BK603.out 2; have hcz122_0 : w120.cell? ⟨gb578, 0, none⟩ = some (.int .i64 t570) := zc BK578 0; have hcz122_1 : w120.cell? ⟨gb578, 1, none⟩ = some (.slice Ao69 t571.length co69) := zc BK578 1; have hcz122_2 : w120.cell? ⟨gb578, 2, none⟩ = some (.slice Ao71 t574.length co71) := zc BK578 2; have hfz122_0 := blk_frozen BK578.out 0; have hfz122_1 := blk_frozen BK578.out 1; have hfz122_2 := blk_frozen BK578.out 2) | (go_at_call 31; (with_reducible refine (laws_eqBox.calls k t595 _ _ t596 _ _ t599 t570 _ _ t571 _ _ t574 true _ ?side1 ?side2 ?side3 ?side4 ?side5 ?side6 ?side7 ?side8 A36.out).mono ?_); (case side1 => exact zcr HO598); (case side2 => exact (Kd.R_reads' HO598.out).2.1); (case side3 => exact zcr HO601); (case side4 => exact (Kd.R_reads' HO601.out).2.1); (case side5 => exact zcr HO573); (case side6 => exact (Kd.R_reads' HO573.out).2.1); (case side7 => exact zcr HO576); (case side8 => exact (Kd.R_reads' HO576.out).2.1); rintro e w123 ⟨rfl, hb⟩; replace HO573 := Aside0.mk (Kd.R_below (zq3 HO573) hb); replace HO576 := Aside0.mk (Kd.R_below (zq3 HO576) hb); replace HO598 := Aside0.mk (Kd.R_below (zq3 HO598) hb); replace HO601 := Aside0.mk (Kd.R_below (zq3 HO601) hb); replace BK552 := Aside0.mk (zbb BK552 hb); replace BK553 := Aside0.mk (zbb BK553 hb); replace BK578 := Aside0.mk (zbb BK578 hb); replace BK603 := Aside0.mk (zbb BK603 hb); replace HB := Aside0.mk (below_step (zb1 HB) hb); (try clear hb); (try clear hb2); (try clear hk); (try clear hi); have hcz124_0 : w123.cell? ⟨gb603, 0, none⟩ = some (.int .i64 t595) := zc BK603 0; have hcz124_1 : w123.cell? ⟨gb603, 1, none⟩ = some (.slice Ao103 t596.length co103) := zc BK603 1; have hcz124_2 : w123.cell? ⟨gb603, 2, none⟩ = some (.slice Ao104 t599.length co104) := zc BK603 2; have hfz124_0 := blk_frozen BK603.out 0; have hfz124_1 := blk_frozen BK603.out 1; have hfz124_2 := blk_frozen BK603.out 2) | ((with_reducible refine gate_callee (f := 34) rfl ?_); refine goesL_ (some 85) rfl rfl Try.func34 (by kernel_rfl) rfl #[.agg #[.int .i64 t595, .slice Ao103 t596.length co103, .slice Ao104 t599.length co104], .int .i64 101] rfl zq6 ?_; (with_reducible refine (laws_markBox.calls k t595 (fun k_ => some k_ = (.slice Ao103 t596.length co103 : Value).ownBlock) (.slice Ao103 t596.length co103) t596 (fun k_ => some k_ = (.slice Ao104 t599.length co104 : Value).ownBlock) (.slice Ao104 t599.length co104) t599 101 t628 t629 t630 w _ ?side1 ?side2 ?side3 ?side4 ?side5 A38.out).mono ?_); (case side1 => exact zb1 HB); (case side2 => exact Kd.R_tight rfl HO598.out); (case side3 => exact fun k_ e_ => (HO598.out.1 k_ e_.symm).2.2.2.2); (case side4 => exact Kd.R_tight rfl HO601.out); (case side5 => exact fun k_ e_ => (HO601.out.1 k_ e_.symm).2.2.2.2); rintro e w125 ⟨rfl, hy0, hy1, hb, hkp⟩; refine ⟨_, rfl, ?_⟩; replace BK552 := Aside0.mk (blk_kept (zq1 BK552) hkp (fun hs_ => Or.elim hs_ (fun e_ => (fun e_ => (Kd.R_ne HO598.out BK552.out (by decide)) e_) e_) (fun e_ => (fun e_ => (Kd.R_ne HO601.out BK552.out (by decide)) e_) e_))); replace BK553 := Aside0.mk (blk_kept (zq1 BK553) hkp (fun hs_ => Or.elim hs_ (fun e_ => (fun e_ => (Kd.R_ne HO598.out BK553.out (by decide)) e_) e_) (fun e_ => (fun e_ => (Kd.R_ne HO601.out BK553.out (by decide)) e_) e_))); replace HO573 := Aside0.mk (Kd.R_mono (ok' := fun k_ => some k_ ≠ (.slice Ao71 t574.length co71 : Value).ownBlock ∧ some k_ ≠ (.slice Ao103 t596.length co103 : Value).ownBlock ∧ some k_ ≠ (.slice Ao104 t599.length co104 : Value).ownBlock) (Kd.R_keptB (HO573.out) hkp (fun k_ hk_ hs_ => Or.elim hs_ (fun e_ => (hk_.2.2.2.1) e_) (fun e_ => (hk_.2.2.2.2) e_))) (fun k_ hk_ => ⟨hk_.1.1, hk_.1.2.2.2.1, hk_.1.2.2.2.2⟩)); replace HO576 := Aside0.mk (Kd.R_mono (ok' := fun k_ => some k_ ≠ (.slice Ao69 t571.length co69 : Value).ownBlock ∧ some k_ ≠ (.slice Ao103 t596.length co103 : Value).ownBlock ∧ some k_ ≠ (.slice Ao104 t599.length co104 : Value).ownBlock) (Kd.R_keptB (HO576.out) hkp (fun k_ hk_ hs_ => Or.elim hs_ (fun e_ => (hk_.2.2.2.1) e_) (fun e_ => (hk_.2.2.2.2) e_))) (fun k_ hk_ => ⟨hk_.1.1, hk_.1.2.2.2.1, hk_.1.2.2.2.2⟩)); replace BK578 := Aside0.mk (blk_kept (zq1 BK578) hkp (fun hs_ => Or.elim hs_ (fun e_ => (fun e_ => (Kd.R_ne HO598.out BK578.out (by decide)) e_) e_) (fun e_ => (fun e_ => (Kd.R_ne HO601.out BK578.out (by decide)) e_) e_))); replace BK603 := Aside0.mk (blk_kept (zq1 BK603) hkp (fun hs_ => Or.elim hs_ (fun e_ => (fun e_ => (Kd.R_ne HO598.out BK603.out (by decide)) e_) e_) (fun e_ => (fun e_ => (Kd.R_ne HO601.out BK603.out (by decide)) e_) e_))); replace HO598 := Aside0.mk (Kd.R_reok rfl hy0 (fun k_ e_ => HO598.out.1 k_ e_)); replace HO601 := Aside0.mk (Kd.R_reok rfl hy1 (fun k_ e_ => HO601.out.1 k_ e_)); replace HB := Aside0.mk (hb); (try clear hb); (try clear hkp); (try clear hy0); (try clear hy1); have hcz126_0 : w125.cell? ⟨gb603, 0, none⟩ = some (.int .i64 t595) := zc BK603 0; have hcz126_1 : w125.cell? ⟨gb603, 1, none⟩ = some (.slice Ao103 t596.length co103) := zc BK603 1; have hcz126_2 : w125.cell? ⟨gb603, 2, none⟩ = some (.slice Ao104 t599.length co104) := zc BK603 2; have hfz126_0 := blk_frozen BK603.out 0; have hfz126_1 := blk_frozen BK603.out 1; have hfz126_2 := blk_frozen BK603.out 2) | ((with_reducible refine gate_callee (f := 35) rfl ?_); refine goesL_ (some 88) rfl rfl Try.func35 (by kernel_rfl) rfl #[.agg #[.int .i64 t595, .slice Ao103 t629.length co103, .slice Ao104 t630.length co104], .int .i64 101] rfl (by (try simp only [List.map_toArray, List.map_cons, List.map_nil]); first | done | (rw [show t629.length = t596.length from (Kd.R_reads' HO598.out).1.symm, show t630.length = t599.length from (Kd.R_reads' HO601.out).1.symm] <;> rfl) | rfl | (simp only [List.length_drop, List.length_take]; rfl)) ?_; (with_reducible refine (laws_heldBox.calls k t595 _ _ t629 _ _ t630 101 t631 _ ?side1 ?side2 ?side3 ?side4 A39.out).mono ?_); (case side1 => exact zcr HO598); (case side2 => rw [show t629.length = t596.length from (Kd.R_reads' HO598.out).1.symm]; exact (Kd.R_reads' HO598.out).2.1); (case side3 => exact zcr HO601); (case side4 => rw [show t630.length = t599.length from (Kd.R_reads' HO601.out).1.symm]; exact (Kd.R_reads' HO601.out).2.1); rintro e w127 ⟨rfl, hb⟩; refine ⟨_, rfl, ?_⟩; replace HO573 := Aside0.mk (Kd.R_below (zq3 HO573) hb); replace HO576 := Aside0.mk (Kd.R_below (zq3 HO576) hb); replace HO598 := Aside0.mk (Kd.R_below (zq3 HO598) hb); replace HO601 := Aside0.mk (Kd.R_below (zq3 HO601) hb); replace BK552 := Aside0.mk (zbb BK552 hb); replace BK553 := Aside0.mk (zbb BK553 hb); replace BK578 := Aside0.mk (zbb BK578 hb); replace BK603 := Aside0.mk (zbb BK603 hb); replace HB := Aside0.mk (below_step (zb1 HB) hb); (try clear hb); (try clear hb2); (try clear hk); (try clear hi)))
               replace HO573 := Aside0.mk (Kd.R_drew HO573.out); replace HO576 := Aside0.mk (Kd.R_drew HO576.out); replace HO598 := Aside0.mk (Kd.R_drew HO598.out); replace HO601 := Aside0.mk (Kd.R_drew HO601.out); replace BK552 := Aside0.mk (blk_drew BK552.out); replace BK553 := Aside0.mk (blk_drew BK553.out); replace BK578 := Aside0.mk (blk_drew BK578.out); replace BK603 := Aside0.mk (blk_drew BK603.out); replace HB := Aside0.mk (below_drew1 HB.out)
               refine start_ (n := 11) (S := fun w' => w'.cell? ⟨gb552, 0, none⟩ = some (.int .i64 a0_0) ∧ w'.cell? ⟨gb552, 1, none⟩ = some (.slice A0_1 l0_1.length c0_1) ∧ w'.cell? ⟨gb552, 2, none⟩ = some (.slice A0_2 l0_2.length c0_2) ∧ w'.cell? ⟨gb553, 0, none⟩ = some (.int .i64 a1_0) ∧ w'.cell? ⟨gb553, 1, none⟩ = some (.slice A1_1 l1_1.length c1_1) ∧ w'.cell? ⟨gb553, 2, none⟩ = some (.slice A1_2 l1_2.length c1_2)) (ds := []) #[false, false, false, false, false, false, false, false, false, false, false] (by kernel_rfl) rfl rfl ⟨zc BK552 0, zc BK552 1, zc BK552 2, zc BK553 0, zc BK553 1, zc BK553 2⟩ (fun hHeld => ?_); refine with_tabW laws_FnExactCommonBox.tab31 laws_FnExactCommonBox.bits31 (fun HT_ HW_ => ?_)
               generalize w127.drew = w128 at HO573 HO576 HO598 HO601 BK552 BK553 BK578 BK603 HB hHeld ⊢
               refine take_ (i := 0) (N := some 95) (v := ?_) (a' := ?_) #[true, false, false, false, false, false, false, false, false, false, false] rfl rfl (take_ofW HT_.out HW_.out (by kernel_rfl)) (fun _ _ _ h => h) (Or.inl ⟨by rfl, ?_⟩) hHeld ?_ ?_
               rotate_left
               ·
                rintro w' ⟨s0, s1, s2, s3, s4, s5⟩
                go_simp
                with_reducible rfl
               rotate_left
               ·
                simp only [Act.put, List.setIfInBounds_toArray, List.set_cons_zero, List.set_cons_succ, i64_w, i32_w]
                rfl
               refine take_ (i := 2) (N := some 97) (v := ?_) (a' := ?_) #[true, false, true, false, false, false, false, false, false, false, false] rfl rfl (take_ofW HT_.out HW_.out (by kernel_rfl)) (fun _ _ _ h => h) (Or.inl ⟨by rfl, ?_⟩) hHeld ?_ ?_
               rotate_left
               ·
                rintro w' ⟨s0, s1, s2, s3, s4, s5⟩
                go_simp
                with_reducible rfl
               rotate_left
               ·
                simp only [Act.put, List.setIfInBounds_toArray, List.set_cons_zero, List.set_cons_succ, i64_w, i32_w]
                rfl
               refine join_ (σ := Value × Value × Value × Value × Value × Value × Nat) 2 #[true, true, true, true, true, true, true, true, true, false, false] (fun s_ => [(96, .agg #[.int .i64 t632, s_.1, s_.2.1]), (98, .agg #[.int .i64 t639, s_.2.2.1, s_.2.2.2.1]), (99, .tuple #[.agg #[.int .i64 t646, s_.2.2.2.2.1, s_.2.2.2.2.2.1], .bool t653]), (15, .pointer (some ⟨s_.2.2.2.2.2.2, 0, none⟩)), (94, .tuple #[.agg #[.int .i64 t646, s_.2.2.2.2.1, s_.2.2.2.2.2.1], .bool t653]), (100, .agg #[.int .i64 t646, s_.2.2.2.2.1, s_.2.2.2.2.2.1]), (101, .bool t653)]) (fun s_ w' => (w'.cell? ⟨gb552, 0, none⟩ = some (.int .i64 a0_0) ∧ w'.cell? ⟨gb552, 1, none⟩ = some (.slice A0_1 l0_1.length c0_1) ∧ w'.cell? ⟨gb552, 2, none⟩ = some (.slice A0_2 l0_2.length c0_2) ∧ w'.cell? ⟨gb553, 0, none⟩ = some (.int .i64 a1_0) ∧ w'.cell? ⟨gb553, 1, none⟩ = some (.slice A1_1 l1_1.length c1_1) ∧ w'.cell? ⟨gb553, 2, none⟩ = some (.slice A1_2 l1_2.length c1_2)) ∧ (Kd.R (Kd.int .i64) 3 w' w.heap.size (fun k_ => some k_ ≠ (.slice Ao71 t574.length co71 : Value).ownBlock ∧ some k_ ≠ (.slice Ao103 t596.length co103 : Value).ownBlock ∧ some k_ ≠ (.slice Ao104 t599.length co104 : Value).ownBlock ∧ some k_ ≠ (s_.1 : Value).ownBlock ∧ some k_ ≠ (s_.2.1 : Value).ownBlock ∧ some k_ ≠ (s_.2.2.1 : Value).ownBlock ∧ some k_ ≠ (s_.2.2.2.1 : Value).ownBlock ∧ some k_ ≠ (s_.2.2.2.2.1 : Value).ownBlock ∧ some k_ ≠ (s_.2.2.2.2.2.1 : Value).ownBlock) (.slice Ao69 t571.length co69) t571) ∧ (Kd.R (Kd.int .i64) 3 w' w.heap.size (fun k_ => some k_ ≠ (.slice Ao69 t571.length co69 : Value).ownBlock ∧ some k_ ≠ (.slice Ao103 t596.length co103 : Value).ownBlock ∧ some k_ ≠ (.slice Ao104 t599.length co104 : Value).ownBlock ∧ some k_ ≠ (s_.1 : Value).ownBlock ∧ some k_ ≠ (s_.2.1 : Value).ownBlock ∧ some k_ ≠ (s_.2.2.1 : Value).ownBlock ∧ some k_ ≠ (s_.2.2.2.1 : Value).ownBlock ∧ some k_ ≠ (s_.2.2.2.2.1 : Value).ownBlock ∧ some k_ ≠ (s_.2.2.2.2.2.1 : Value).ownBlock) (.slice Ao71 t574.length co71) t574) ∧ (Kd.R (Kd.int .i64) 3 w' w.heap.size (fun k_ => some k_ ≠ (.slice Ao69 t571.length co69 : Value).ownBlock ∧ some k_ ≠ (.slice Ao71 t574.length co71 : Value).ownBlock ∧ some k_ ≠ (.slice Ao104 t599.length co104 : Value).ownBlock ∧ some k_ ≠ (s_.1 : Value).ownBlock ∧ some k_ ≠ (s_.2.1 : Value).ownBlock ∧ some k_ ≠ (s_.2.2.1 : Value).ownBlock ∧ some k_ ≠ (s_.2.2.2.1 : Value).ownBlock ∧ some k_ ≠ (s_.2.2.2.2.1 : Value).ownBlock ∧ some k_ ≠ (s_.2.2.2.2.2.1 : Value).ownBlock) (.slice Ao103 t596.length co103) t629) ∧ (Kd.R (Kd.int .i64) 3 w' w.heap.size (fun k_ => some k_ ≠ (.slice Ao69 t571.length co69 : Value).ownBlock ∧ some k_ ≠ (.slice Ao71 t574.length co71 : Value).ownBlock ∧ some k_ ≠ (.slice Ao103 t596.length co103 : Value).ownBlock ∧ some k_ ≠ (s_.1 : Value).ownBlock ∧ some k_ ≠ (s_.2.1 : Value).ownBlock ∧ some k_ ≠ (s_.2.2.1 : Value).ownBlock ∧ some k_ ≠ (s_.2.2.2.1 : Value).ownBlock ∧ some k_ ≠ (s_.2.2.2.2.1 : Value).ownBlock ∧ some k_ ≠ (s_.2.2.2.2.2.1 : Value).ownBlock) (.slice Ao104 t599.length co104) t630) ∧ (Kd.R (Kd.int .i64) 3 w' w.heap.size (fun k_ => some k_ ≠ (.slice Ao69 t571.length co69 : Value).ownBlock ∧ some k_ ≠ (.slice Ao71 t574.length co71 : Value).ownBlock ∧ some k_ ≠ (.slice Ao103 t596.length co103 : Value).ownBlock ∧ some k_ ≠ (.slice Ao104 t599.length co104 : Value).ownBlock ∧ some k_ ≠ (s_.2.1 : Value).ownBlock ∧ some k_ ≠ (s_.2.2.1 : Value).ownBlock ∧ some k_ ≠ (s_.2.2.2.1 : Value).ownBlock ∧ some k_ ≠ (s_.2.2.2.2.1 : Value).ownBlock ∧ some k_ ≠ (s_.2.2.2.2.2.1 : Value).ownBlock) s_.1 t633) ∧ (Kd.R (Kd.int .i64) 3 w' w.heap.size (fun k_ => some k_ ≠ (.slice Ao69 t571.length co69 : Value).ownBlock ∧ some k_ ≠ (.slice Ao71 t574.length co71 : Value).ownBlock ∧ some k_ ≠ (.slice Ao103 t596.length co103 : Value).ownBlock ∧ some k_ ≠ (.slice Ao104 t599.length co104 : Value).ownBlock ∧ some k_ ≠ (s_.1 : Value).ownBlock ∧ some k_ ≠ (s_.2.2.1 : Value).ownBlock ∧ some k_ ≠ (s_.2.2.2.1 : Value).ownBlock ∧ some k_ ≠ (s_.2.2.2.2.1 : Value).ownBlock ∧ some k_ ≠ (s_.2.2.2.2.2.1 : Value).ownBlock) s_.2.1 t636) ∧ (Kd.R (Kd.int .i64) 3 w' w.heap.size (fun k_ => some k_ ≠ (.slice Ao69 t571.length co69 : Value).ownBlock ∧ some k_ ≠ (.slice Ao71 t574.length co71 : Value).ownBlock ∧ some k_ ≠ (.slice Ao103 t596.length co103 : Value).ownBlock ∧ some k_ ≠ (.slice Ao104 t599.length co104 : Value).ownBlock ∧ some k_ ≠ (s_.1 : Value).ownBlock ∧ some k_ ≠ (s_.2.1 : Value).ownBlock ∧ some k_ ≠ (s_.2.2.2.1 : Value).ownBlock ∧ some k_ ≠ (s_.2.2.2.2.1 : Value).ownBlock ∧ some k_ ≠ (s_.2.2.2.2.2.1 : Value).ownBlock) s_.2.2.1 t640) ∧ (Kd.R (Kd.int .i64) 3 w' w.heap.size (fun k_ => some k_ ≠ (.slice Ao69 t571.length co69 : Value).ownBlock ∧ some k_ ≠ (.slice Ao71 t574.length co71 : Value).ownBlock ∧ some k_ ≠ (.slice Ao103 t596.length co103 : Value).ownBlock ∧ some k_ ≠ (.slice Ao104 t599.length co104 : Value).ownBlock ∧ some k_ ≠ (s_.1 : Value).ownBlock ∧ some k_ ≠ (s_.2.1 : Value).ownBlock ∧ some k_ ≠ (s_.2.2.1 : Value).ownBlock ∧ some k_ ≠ (s_.2.2.2.2.1 : Value).ownBlock ∧ some k_ ≠ (s_.2.2.2.2.2.1 : Value).ownBlock) s_.2.2.2.1 t643) ∧ (Kd.R (Kd.int .i64) 3 w' w.heap.size (fun k_ => some k_ ≠ (.slice Ao69 t571.length co69 : Value).ownBlock ∧ some k_ ≠ (.slice Ao71 t574.length co71 : Value).ownBlock ∧ some k_ ≠ (.slice Ao103 t596.length co103 : Value).ownBlock ∧ some k_ ≠ (.slice Ao104 t599.length co104 : Value).ownBlock ∧ some k_ ≠ (s_.1 : Value).ownBlock ∧ some k_ ≠ (s_.2.1 : Value).ownBlock ∧ some k_ ≠ (s_.2.2.1 : Value).ownBlock ∧ some k_ ≠ (s_.2.2.2.1 : Value).ownBlock ∧ some k_ ≠ (s_.2.2.2.2.2.1 : Value).ownBlock) s_.2.2.2.2.1 t647) ∧ (Kd.R (Kd.int .i64) 3 w' w.heap.size (fun k_ => some k_ ≠ (.slice Ao69 t571.length co69 : Value).ownBlock ∧ some k_ ≠ (.slice Ao71 t574.length co71 : Value).ownBlock ∧ some k_ ≠ (.slice Ao103 t596.length co103 : Value).ownBlock ∧ some k_ ≠ (.slice Ao104 t599.length co104 : Value).ownBlock ∧ some k_ ≠ (s_.1 : Value).ownBlock ∧ some k_ ≠ (s_.2.1 : Value).ownBlock ∧ some k_ ≠ (s_.2.2.1 : Value).ownBlock ∧ some k_ ≠ (s_.2.2.2.1 : Value).ownBlock ∧ some k_ ≠ (s_.2.2.2.2.1 : Value).ownBlock) s_.2.2.2.2.2.1 t650) ∧ (w'.heap[gb552]? = some (.cells #[.int .i64 a0_0, .slice A0_1 l0_1.length c0_1, .slice A0_2 l0_2.length c0_2] 24 (0, 0))) ∧ (w'.heap[gb553]? = some (.cells #[.int .i64 a1_0, .slice A1_1 l1_1.length c1_1, .slice A1_2 l1_2.length c1_2] 24 (0, 0))) ∧ (w'.heap[gb578]? = some (.cells #[.int .i64 t570, .slice Ao69 t571.length co69, .slice Ao71 t574.length co71] 27 (0, 0))) ∧ (w'.heap[gb603]? = some (.cells #[.int .i64 t595, .slice Ao103 t596.length co103, .slice Ao104 t599.length co104] 27 (0, 0))) ∧ (w'.heap[s_.2.2.2.2.2.2]? = some (.cells #[.int .i64 0, .slice none 0 0, .slice none 0 0] 27 (0, 0))) ∧ (w.heap.size ≤ s_.2.2.2.2.2.2) ∧ (w.heap.size ≤ s_.2.2.2.2.2.2) ∧ (gb552 ≠ s_.2.2.2.2.2.2) ∧ (s_.2.2.2.2.2.2 ≠ gb552) ∧ (gb553 ≠ s_.2.2.2.2.2.2) ∧ (s_.2.2.2.2.2.2 ≠ gb553) ∧ (gb578 ≠ s_.2.2.2.2.2.2) ∧ (s_.2.2.2.2.2.2 ≠ gb578) ∧ (gb603 ≠ s_.2.2.2.2.2.2) ∧ (s_.2.2.2.2.2.2 ≠ gb603) ∧ (Below w.heap.size w w')) ?_ ?_
               rotate_left
               ·
                intro hCont
                refine two_ (i := 1) (j := 8) (Ni := some 96) (Nj := some 15) #[true, true, true, false, false, false, false, false, false, false, false] #[true, false, true, false, false, false, false, false, true, false, false] rfl rfl rfl rfl (two_of HT_.out (by kernel_rfl)) (by decide) (by decide) (fun K hK => ?_) (fun K hK => ?_)
                ·
                 refine goes_ Try.func16 (by kernel_rfl) rfl #[.agg #[.int .i64 a0_0, .slice A0_1 l0_1.length c0_1, .slice A0_2 l0_2.length c0_2], .bool true] (by rfl) rfl rfl zq6 ?_
                 with_reducible refine (laws_toBox.calls k a0_0 _ _ l0_1 _ _ l0_2 true t632 t633 t636 _ ?side1 ?side2 ?side3 ?side4 A42.out).mono ?_
                 (case side1 => exact zcs HR0_1 HB)
                 (case side2 => exact HC0_1.out)
                 (case side3 => exact zcs HR0_2 HB)
                 (case side4 => exact HC0_2.out)
                 rintro e w129 ⟨v634, v637, rfl, ho0, ho1, hb, ho0F, ho1F⟩
                 refine ⟨_, rfl, ?_⟩
                 have n0_ := Aside0.mk (zt2 (zq3 HO573) hb ho0 ho1)
                 have n1_ := Aside0.mk (zt2 (zq3 HO576) hb ho0 ho1)
                 have n2_ := Aside0.mk (zt2 (zq3 HO598) hb ho0 ho1)
                 have n3_ := Aside0.mk (zt2 (zq3 HO601) hb ho0 ho1)
                 have n4_ := Aside0.mk (Kd.R_lower (zn (zn (zn (zn ho0 HO573) HO576) HO598) HO601) (below_size (zb1 HB)))
                 have n4F_ := Aside0.mk (Kd.R_lower (zn (zn (zn (zn ho0F HO573) HO576) HO598) HO601) (below_size (zb1 HB)))
                 have n5_ := Aside0.mk (Kd.R_lower (zn (zn (zn (zn ho1 HO573) HO576) HO598) HO601) (below_size (zb1 HB)))
                 have n5F_ := Aside0.mk (Kd.R_lower (zn (zn (zn (zn ho1F HO573) HO576) HO598) HO601) (below_size (zb1 HB)))
                 have n6_ := Aside0.mk (zbb BK552 hb)
                 have n7_ := Aside0.mk (zbb BK553 hb)
                 have n8_ := Aside0.mk (zbb BK578 hb)
                 have n9_ := Aside0.mk (zbb BK603 hb)
                 have n10_ := Aside0.mk (below_step (zb1 HB) hb)
                 clear HO573 HO576 HO598 HO601 BK552 BK553 BK578 BK603 HB
                 have HO573 := n0_; have HO576 := n1_; have HO598 := n2_; have HO601 := n3_; have HO635 := n4_; have HO635F := n4F_; have HO638 := n5_; have HO638F := n5F_; have BK552 := n6_; have BK553 := n7_; have BK578 := n8_; have BK603 := n9_; have HB := n10_
                 clear n0_ n1_ n2_ n3_ n4_ n5_ n6_ n7_ n8_ n9_ n10_ n4F_ n5F_
                 (try clear hb)
                 (try clear hb2)
                 (try clear hk)
                 (try clear hi)
                 (try clear ho0)
                 (try clear ho0F)
                 (try clear ho1)
                 (try clear ho1F)
                 refine hK.out _ _ ⟨zc BK552 0, zc BK552 1, zc BK552 2, zc BK553 0, zc BK553 1, zc BK553 2⟩ (fun hHeld => ?_)
                 clear hK K
                 refine norm_ (a' := ?_) ?_ ?_
                 rotate_left
                 ·
                  show Act.put _ (some 96) _ = _
                  simp only [Act.put, List.setIfInBounds_toArray, List.set_cons_zero, List.set_cons_succ, i64_w, i32_w]; rfl
                 refine two_ (i := 3) (j := 8) (Ni := some 98) (Nj := some 15) #[true, true, true, true, false, false, false, false, false, false, false] #[true, true, true, false, false, false, false, false, true, false, false] rfl rfl rfl rfl (two_of HT_.out (by kernel_rfl)) (by decide) (by decide) (fun K hK => ?_) (fun K hK => ?_)
                 ·
                  refine goes_ Try.func16 (by kernel_rfl) rfl #[.agg #[.int .i64 a1_0, .slice A1_1 l1_1.length c1_1, .slice A1_2 l1_2.length c1_2], .bool true] (by rfl) rfl rfl zq6 ?_
                  with_reducible refine (laws_toBox.calls k a1_0 _ _ l1_1 _ _ l1_2 true t639 t640 t643 _ ?side1 ?side2 ?side3 ?side4 A43.out).mono ?_
                  (case side1 => exact zcs HR1_1 HB)
                  (case side2 => exact HC1_1.out)
                  (case side3 => exact zcs HR1_2 HB)
                  (case side4 => exact HC1_2.out)
                  rintro e w130 ⟨v641, v644, rfl, ho0, ho1, hb, ho0F, ho1F⟩
                  refine ⟨_, rfl, ?_⟩
                  have n0_ := Aside0.mk (zt2 (zq3 HO573) hb ho0 ho1)
                  have n1_ := Aside0.mk (zt2 (zq3 HO576) hb ho0 ho1)
                  have n2_ := Aside0.mk (zt2 (zq3 HO598) hb ho0 ho1)
                  have n3_ := Aside0.mk (zt2 (zq3 HO601) hb ho0 ho1)
                  have n4_ := Aside0.mk (zt2 (zq3 HO635) hb ho0 ho1)
                  have n4F_ := Aside0.mk (zt2 (zq3 HO635F) hb ho0 ho1)
                  have n5_ := Aside0.mk (zt2 (zq3 HO638) hb ho0 ho1)
                  have n5F_ := Aside0.mk (zt2 (zq3 HO638F) hb ho0 ho1)
                  have n6_ := Aside0.mk (Kd.R_lower (zn (zn (zn (zn (zn (zn ho0 HO573) HO576) HO598) HO601) HO635) HO638) (below_size (zb1 HB)))
                  have n6F_ := Aside0.mk (Kd.R_lower (zn (zn (zn (zn (zn (zn ho0F HO573) HO576) HO598) HO601) HO635) HO638) (below_size (zb1 HB)))
                  have n7_ := Aside0.mk (Kd.R_lower (zn (zn (zn (zn (zn (zn ho1 HO573) HO576) HO598) HO601) HO635) HO638) (below_size (zb1 HB)))
                  have n7F_ := Aside0.mk (Kd.R_lower (zn (zn (zn (zn (zn (zn ho1F HO573) HO576) HO598) HO601) HO635) HO638) (below_size (zb1 HB)))
                  have n8_ := Aside0.mk (zbb BK552 hb)
                  have n9_ := Aside0.mk (zbb BK553 hb)
                  have n10_ := Aside0.mk (zbb BK578 hb)
                  have n11_ := Aside0.mk (zbb BK603 hb)
                  have n12_ := Aside0.mk (below_step (zb1 HB) hb)
                  clear HO573 HO576 HO598 HO601 HO635 HO635F HO638 HO638F BK552 BK553 BK578 BK603 HB
                  have HO573 := n0_; have HO576 := n1_; have HO598 := n2_; have HO601 := n3_; have HO635 := n4_; have HO635F := n4F_; have HO638 := n5_; have HO638F := n5F_; have HO642 := n6_; have HO642F := n6F_; have HO645 := n7_; have HO645F := n7F_; have BK552 := n8_; have BK553 := n9_; have BK578 := n10_; have BK603 := n11_; have HB := n12_
                  clear n0_ n1_ n2_ n3_ n4_ n5_ n6_ n7_ n8_ n9_ n10_ n11_ n12_ n4F_ n5F_ n6F_ n7F_
                  (try clear hb)
                  (try clear hb2)
                  (try clear hk)
                  (try clear hi)
                  (try clear ho0)
                  (try clear ho0F)
                  (try clear ho1)
                  (try clear ho1F)
                  obtain ⟨Ao131, co131, eo131⟩ := Kd.R_slice HO635.out
                  (first | subst eo131 | (injection eo131 with f1_ f2_ f3_; have f4_ := f1_.symm; have f5_ := f3_.symm; clear f1_ f2_ f3_; subst f4_; subst f5_))
                  obtain ⟨Ao132, co132, eo132⟩ := Kd.R_slice HO638.out
                  (first | subst eo132 | (injection eo132 with f1_ f2_ f3_; have f4_ := f1_.symm; have f5_ := f3_.symm; clear f1_ f2_ f3_; subst f4_; subst f5_))
                  obtain ⟨Ao133, co133, eo133⟩ := Kd.R_slice HO642.out
                  (first | subst eo133 | (injection eo133 with f1_ f2_ f3_; have f4_ := f1_.symm; have f5_ := f3_.symm; clear f1_ f2_ f3_; subst f4_; subst f5_))
                  obtain ⟨Ao134, co134, eo134⟩ := Kd.R_slice HO645.out
                  (first | subst eo134 | (injection eo134 with f1_ f2_ f3_; have f4_ := f1_.symm; have f5_ := f3_.symm; clear f1_ f2_ f3_; subst f4_; subst f5_))
                  refine hK.out _ _ ⟨zc BK552 0, zc BK552 1, zc BK552 2, zc BK553 0, zc BK553 1, zc BK553 2⟩ (fun hHeld => ?_)
                  clear hK K
                  refine norm_ (a' := ?_) ?_ ?_
                  rotate_left
                  ·
                   show Act.put _ (some 98) _ = _
                   simp only [Act.put, List.setIfInBounds_toArray, List.set_cons_zero, List.set_cons_succ, i64_w, i32_w]; rfl
                  refine two_ (i := 4) (j := 8) (Ni := some 99) (Nj := some 15) #[true, true, true, true, true, false, false, false, false, false, false] #[true, true, true, true, false, false, false, false, true, false, false] rfl rfl rfl rfl (two_of HT_.out (by kernel_rfl)) (by decide) (by decide) (fun K hK => ?_) (fun K hK => ?_)
                  ·
                   refine goes_ Try.func49 (by kernel_rfl) rfl #[.agg #[.int .i64 t632, .slice Ao131 t633.length co131, .slice Ao132 t636.length co132], .agg #[.int .i64 t639, .slice Ao133 t640.length co133, .slice Ao134 t643.length co134]] (by rfl) rfl rfl zq6 ?_
                   with_reducible refine (impl_CommonBox.calls k t632 _ _ t633 _ _ t636 t639 _ _ t640 _ _ t643 t646 t647 t650 t653 _ ?side1 ?side2 ?side3 ?side4 ?side5 ?side6 ?side7 ?side8 A44.out).mono ?_
                   (case side1 => exact zcr HO635)
                   (case side2 => exact (Kd.R_reads' HO635.out).2.1)
                   (case side3 => exact zcr HO638)
                   (case side4 => exact (Kd.R_reads' HO638.out).2.1)
                   (case side5 => exact zcr HO642)
                   (case side6 => exact (Kd.R_reads' HO642.out).2.1)
                   (case side7 => exact zcr HO645)
                   (case side8 => exact (Kd.R_reads' HO645.out).2.1)
                   rintro e w135 ⟨v648, v651, rfl, ho0, ho1, hb⟩
                   refine ⟨_, rfl, ?_⟩
                   have n0_ := Aside0.mk (zt2 (zq3 HO573) hb ho0 ho1)
                   have n1_ := Aside0.mk (zt2 (zq3 HO576) hb ho0 ho1)
                   have n2_ := Aside0.mk (zt2 (zq3 HO598) hb ho0 ho1)
                   have n3_ := Aside0.mk (zt2 (zq3 HO601) hb ho0 ho1)
                   have n4_ := Aside0.mk (zt2 (zq3 HO635) hb ho0 ho1)
                   have n4F_ := Aside0.mk (zt2 (zq3 HO635F) hb ho0 ho1)
                   have n5_ := Aside0.mk (zt2 (zq3 HO638) hb ho0 ho1)
                   have n5F_ := Aside0.mk (zt2 (zq3 HO638F) hb ho0 ho1)
                   have n6_ := Aside0.mk (zt2 (zq3 HO642) hb ho0 ho1)
                   have n6F_ := Aside0.mk (zt2 (zq3 HO642F) hb ho0 ho1)
                   have n7_ := Aside0.mk (zt2 (zq3 HO645) hb ho0 ho1)
                   have n7F_ := Aside0.mk (zt2 (zq3 HO645F) hb ho0 ho1)
                   have n8_ := Aside0.mk (Kd.R_lower (zn (zn (zn (zn (zn (zn (zn (zn ho0 HO573) HO576) HO598) HO601) HO635) HO638) HO642) HO645) (below_size (zb1 HB)))
                   have n9_ := Aside0.mk (Kd.R_lower (zn (zn (zn (zn (zn (zn (zn (zn ho1 HO573) HO576) HO598) HO601) HO635) HO638) HO642) HO645) (below_size (zb1 HB)))
                   have n10_ := Aside0.mk (zbb BK552 hb)
                   have n11_ := Aside0.mk (zbb BK553 hb)
                   have n12_ := Aside0.mk (zbb BK578 hb)
                   have n13_ := Aside0.mk (zbb BK603 hb)
                   have n14_ := Aside0.mk (below_step (zb1 HB) hb)
                   clear HO573 HO576 HO598 HO601 HO635 HO635F HO638 HO638F HO642 HO642F HO645 HO645F BK552 BK553 BK578 BK603 HB
                   have HO573 := n0_; have HO576 := n1_; have HO598 := n2_; have HO601 := n3_; have HO635 := n4_; have HO635F := n4F_; have HO638 := n5_; have HO638F := n5F_; have HO642 := n6_; have HO642F := n6F_; have HO645 := n7_; have HO645F := n7F_; have HO649 := n8_; have HO652 := n9_; have BK552 := n10_; have BK553 := n11_; have BK578 := n12_; have BK603 := n13_; have HB := n14_
                   clear n0_ n1_ n2_ n3_ n4_ n5_ n6_ n7_ n8_ n9_ n10_ n11_ n12_ n13_ n14_ n4F_ n5F_ n6F_ n7F_
                   (try clear hb)
                   (try clear hb2)
                   (try clear hk)
                   (try clear hi)
                   (try clear ho0)
                   (try clear ho1)
                   refine hK.out _ _ ⟨zc BK552 0, zc BK552 1, zc BK552 2, zc BK553 0, zc BK553 1, zc BK553 2⟩ (fun hHeld => ?_)
                   clear hK K
                   refine norm_ (a' := ?_) ?_ ?_
                   rotate_left
                   ·
                    show Act.put _ (some 99) _ = _
                    simp only [Act.put, List.setIfInBounds_toArray, List.set_cons_zero, List.set_cons_succ, i64_w, i32_w]; rfl
                   refine zp (i := 5) (N := some 94) #[true, true, true, true, true, true, false, false, false, false, false] (any_of HT_.out (by kernel_rfl)) ?_
                   refine zp (i := 6) (N := some 100) #[true, true, true, true, true, true, true, false, false, false, false] (any_of HT_.out (by kernel_rfl)) ?_
                   refine zp (i := 7) (N := some 101) #[true, true, true, true, true, true, true, true, false, false, false] (any_of HT_.out (by kernel_rfl)) ?_
                   refine one_ (i := 8) (N := some 15) #[true, true, true, true, true, true, true, true, true, false, false] rfl rfl (one_of HT_.out (by kernel_rfl)) (by decide) (fun K hK => ?_)
                   refine box_step ?hg (N := 15) ?hd (cs := #[.int .i64 0, .slice none 0 0, .slice none 0 0]) (t := 27) ?hr ?_; (case hd => rfl); (case hg => rfl); (case hr => first | (go_simp; done) | (go_simp; rfl))
                   intro gb654 hg w136 hbox hb
                   have n0_ := Aside0.mk (Kd.R_below (zq3 HO573) hb)
                   have n1_ := Aside0.mk (Kd.R_below (zq3 HO576) hb)
                   have n2_ := Aside0.mk (Kd.R_below (zq3 HO598) hb)
                   have n3_ := Aside0.mk (Kd.R_below (zq3 HO601) hb)
                   have n4_ := Aside0.mk (Kd.R_below (zq3 HO635) hb)
                   have n4F_ := Aside0.mk (Kd.R_below (zq3 HO635F) hb)
                   have n5_ := Aside0.mk (Kd.R_below (zq3 HO638) hb)
                   have n5F_ := Aside0.mk (Kd.R_below (zq3 HO638F) hb)
                   have n6_ := Aside0.mk (Kd.R_below (zq3 HO642) hb)
                   have n6F_ := Aside0.mk (Kd.R_below (zq3 HO642F) hb)
                   have n7_ := Aside0.mk (Kd.R_below (zq3 HO645) hb)
                   have n7F_ := Aside0.mk (Kd.R_below (zq3 HO645F) hb)
                   have n8_ := Aside0.mk (Kd.R_below (zq3 HO649) hb)
                   have n9_ := Aside0.mk (Kd.R_below (zq3 HO652) hb)
                   have n10_ := Aside0.mk (zbb BK552 hb)
                   have n11_ := Aside0.mk (zbb BK553 hb)
                   have n12_ := Aside0.mk (zbb BK578 hb)
                   have n13_ := Aside0.mk (zbb BK603 hb)
                   have n14_ := Aside0.mk (below_step (zb1 HB) hb)
                   have n15_ := Aside0.mk (hbox)
                   have n16_ := Aside0.mk (zge (zb1 HB) hg)
                   have n17_ := Aside0.mk (zge (zb1 HB) hg)
                   have n18_ := Aside0.mk (zlt BK552 hg)
                   have n19_ := Aside0.mk (zgt BK552 hg)
                   have n20_ := Aside0.mk (zlt BK553 hg)
                   have n21_ := Aside0.mk (zgt BK553 hg)
                   have n22_ := Aside0.mk (zlt BK578 hg)
                   have n23_ := Aside0.mk (zgt BK578 hg)
                   have n24_ := Aside0.mk (zlt BK603 hg)
                   have n25_ := Aside0.mk (zgt BK603 hg)
                   clear HO573 HO576 HO598 HO601 HO635 HO635F HO638 HO638F HO642 HO642F HO645 HO645F HO649 HO652 BK552 BK553 BK578 BK603 HB
                   have HO573 := n0_; have HO576 := n1_; have HO598 := n2_; have HO601 := n3_; have HO635 := n4_; have HO635F := n4F_; have HO638 := n5_; have HO638F := n5F_; have HO642 := n6_; have HO642F := n6F_; have HO645 := n7_; have HO645F := n7F_; have HO649 := n8_; have HO652 := n9_; have BK552 := n10_; have BK553 := n11_; have BK578 := n12_; have BK603 := n13_; have HB := n14_; have BK654 := n15_; have GW654 := n16_; have GE654 := n17_; have NB552_654 := n18_; have NB654_552 := n19_; have NB553_654 := n20_; have NB654_553 := n21_; have NB578_654 := n22_; have NB654_578 := n23_; have NB603_654 := n24_; have NB654_603 := n25_
                   clear n0_ n1_ n2_ n3_ n4_ n5_ n6_ n7_ n8_ n9_ n10_ n11_ n12_ n13_ n14_ n15_ n16_ n17_ n18_ n19_ n20_ n21_ n22_ n23_ n24_ n25_ n4F_ n5F_ n6F_ n7F_ hb hbox hg
                   refine hK.out _ _ ⟨zc BK552 0, zc BK552 1, zc BK552 2, zc BK553 0, zc BK553 1, zc BK553 2⟩ (fun hHeld => ?_)
                   clear hK K
                   refine norm_ (a' := ?_) ?_ ?_
                   rotate_left
                   ·
                    show Act.put _ (some 15) _ = _
                    simp only [Act.put, List.setIfInBounds_toArray, List.set_cons_zero, List.set_cons_succ, i64_w, i32_w]; rfl
                   exact norm_ (by simp only [putAll, Act.put, List.setIfInBounds_toArray, List.set_cons_zero, List.set_cons_succ]) (hCont (.slice Ao131 t633.length co131, .slice Ao132 t636.length co132, .slice Ao133 t640.length co133, .slice Ao134 t643.length co134, v648, v651, gb654) _ ⟨hHeld, (zqm HO573), (zqm HO576), (zqm HO598), (zqm HO601), (zqm HO635), (zqm HO638), (zqm HO642), (zqm HO645), (zqm HO649), (zqm HO652), (zq1 BK552), (zq1 BK553), (zq1 BK578), (zq1 BK603), (zq1 BK654), GW654.out, GE654.out, NB552_654.out, NB654_552.out, NB553_654.out, NB654_553.out, NB578_654.out, NB654_578.out, NB603_654.out, NB654_603.out, (zb1 HB)⟩)
                  ·
                   refine box_step ?hg (N := 15) ?hd (cs := #[.int .i64 0, .slice none 0 0, .slice none 0 0]) (t := 27) ?hr ?_; (case hd => rfl); (case hg => rfl); (case hr => first | (go_simp; done) | (go_simp; rfl))
                   intro gb654 hg w131 hbox hb
                   have n0_ := Aside0.mk (Kd.R_below (zq3 HO573) hb)
                   have n1_ := Aside0.mk (Kd.R_below (zq3 HO576) hb)
                   have n2_ := Aside0.mk (Kd.R_below (zq3 HO598) hb)
                   have n3_ := Aside0.mk (Kd.R_below (zq3 HO601) hb)
                   have n4_ := Aside0.mk (Kd.R_below (zq3 HO635) hb)
                   have n4F_ := Aside0.mk (Kd.R_below (zq3 HO635F) hb)
                   have n5_ := Aside0.mk (Kd.R_below (zq3 HO638) hb)
                   have n5F_ := Aside0.mk (Kd.R_below (zq3 HO638F) hb)
                   have n6_ := Aside0.mk (Kd.R_below (zq3 HO642) hb)
                   have n6F_ := Aside0.mk (Kd.R_below (zq3 HO642F) hb)
                   have n7_ := Aside0.mk (Kd.R_below (zq3 HO645) hb)
                   have n7F_ := Aside0.mk (Kd.R_below (zq3 HO645F) hb)
                   have n8_ := Aside0.mk (zbb BK552 hb)
                   have n9_ := Aside0.mk (zbb BK553 hb)
                   have n10_ := Aside0.mk (zbb BK578 hb)
                   have n11_ := Aside0.mk (zbb BK603 hb)
                   have n12_ := Aside0.mk (below_step (zb1 HB) hb)
                   have n13_ := Aside0.mk (hbox)
                   have n14_ := Aside0.mk (zge (zb1 HB) hg)
                   have n15_ := Aside0.mk (zge (zb1 HB) hg)
                   have n16_ := Aside0.mk (zlt BK552 hg)
                   have n17_ := Aside0.mk (zgt BK552 hg)
                   have n18_ := Aside0.mk (zlt BK553 hg)
                   have n19_ := Aside0.mk (zgt BK553 hg)
                   have n20_ := Aside0.mk (zlt BK578 hg)
                   have n21_ := Aside0.mk (zgt BK578 hg)
                   have n22_ := Aside0.mk (zlt BK603 hg)
                   have n23_ := Aside0.mk (zgt BK603 hg)
                   clear HO573 HO576 HO598 HO601 HO635 HO635F HO638 HO638F HO642 HO642F HO645 HO645F BK552 BK553 BK578 BK603 HB
                   have HO573 := n0_; have HO576 := n1_; have HO598 := n2_; have HO601 := n3_; have HO635 := n4_; have HO635F := n4F_; have HO638 := n5_; have HO638F := n5F_; have HO642 := n6_; have HO642F := n6F_; have HO645 := n7_; have HO645F := n7F_; have BK552 := n8_; have BK553 := n9_; have BK578 := n10_; have BK603 := n11_; have HB := n12_; have BK654 := n13_; have GW654 := n14_; have GE654 := n15_; have NB552_654 := n16_; have NB654_552 := n17_; have NB553_654 := n18_; have NB654_553 := n19_; have NB578_654 := n20_; have NB654_578 := n21_; have NB603_654 := n22_; have NB654_603 := n23_
                   clear n0_ n1_ n2_ n3_ n4_ n5_ n6_ n7_ n8_ n9_ n10_ n11_ n12_ n13_ n14_ n15_ n16_ n17_ n18_ n19_ n20_ n21_ n22_ n23_ n4F_ n5F_ n6F_ n7F_ hb hbox hg
                   obtain ⟨Ao132, co132, eo132⟩ := Kd.R_slice HO635.out
                   (first | subst eo132 | (injection eo132 with f1_ f2_ f3_; have f4_ := f1_.symm; have f5_ := f3_.symm; clear f1_ f2_ f3_; subst f4_; subst f5_))
                   obtain ⟨Ao133, co133, eo133⟩ := Kd.R_slice HO638.out
                   (first | subst eo133 | (injection eo133 with f1_ f2_ f3_; have f4_ := f1_.symm; have f5_ := f3_.symm; clear f1_ f2_ f3_; subst f4_; subst f5_))
                   obtain ⟨Ao134, co134, eo134⟩ := Kd.R_slice HO642.out
                   (first | subst eo134 | (injection eo134 with f1_ f2_ f3_; have f4_ := f1_.symm; have f5_ := f3_.symm; clear f1_ f2_ f3_; subst f4_; subst f5_))
                   obtain ⟨Ao135, co135, eo135⟩ := Kd.R_slice HO645.out
                   (first | subst eo135 | (injection eo135 with f1_ f2_ f3_; have f4_ := f1_.symm; have f5_ := f3_.symm; clear f1_ f2_ f3_; subst f4_; subst f5_))
                   refine hK.out _ _ ⟨zc BK552 0, zc BK552 1, zc BK552 2, zc BK553 0, zc BK553 1, zc BK553 2⟩ (fun hHeld => ?_)
                   clear hK K
                   refine norm_ (a' := ?_) ?_ ?_
                   rotate_left
                   ·
                    show Act.put _ (some 15) _ = _
                    simp only [Act.put, List.setIfInBounds_toArray, List.set_cons_zero, List.set_cons_succ, i64_w, i32_w]; rfl
                   refine one_ (i := 4) (N := some 99) #[true, true, true, true, true, false, false, false, true, false, false] rfl rfl (one_of HT_.out (by kernel_rfl)) (by decide) (fun K hK => ?_)
                   refine goes_ Try.func49 (by kernel_rfl) rfl #[.agg #[.int .i64 t632, .slice Ao132 t633.length co132, .slice Ao133 t636.length co133], .agg #[.int .i64 t639, .slice Ao134 t640.length co134, .slice Ao135 t643.length co135]] (by rfl) rfl rfl zq6 ?_
                   with_reducible refine (impl_CommonBox.calls k t632 _ _ t633 _ _ t636 t639 _ _ t640 _ _ t643 t646 t647 t650 t653 _ ?side1 ?side2 ?side3 ?side4 ?side5 ?side6 ?side7 ?side8 A44.out).mono ?_
                   (case side1 => exact zcr HO635)
                   (case side2 => exact (Kd.R_reads' HO635.out).2.1)
                   (case side3 => exact zcr HO638)
                   (case side4 => exact (Kd.R_reads' HO638.out).2.1)
                   (case side5 => exact zcr HO642)
                   (case side6 => exact (Kd.R_reads' HO642.out).2.1)
                   (case side7 => exact zcr HO645)
                   (case side8 => exact (Kd.R_reads' HO645.out).2.1)
                   rintro e w136 ⟨v648, v651, rfl, ho0, ho1, hb⟩
                   refine ⟨_, rfl, ?_⟩
                   have n0_ := Aside0.mk (zt2 (zq3 HO573) hb ho0 ho1)
                   have n1_ := Aside0.mk (zt2 (zq3 HO576) hb ho0 ho1)
                   have n2_ := Aside0.mk (zt2 (zq3 HO598) hb ho0 ho1)
                   have n3_ := Aside0.mk (zt2 (zq3 HO601) hb ho0 ho1)
                   have n4_ := Aside0.mk (zt2 (zq3 HO635) hb ho0 ho1)
                   have n4F_ := Aside0.mk (zt2 (zq3 HO635F) hb ho0 ho1)
                   have n5_ := Aside0.mk (zt2 (zq3 HO638) hb ho0 ho1)
                   have n5F_ := Aside0.mk (zt2 (zq3 HO638F) hb ho0 ho1)
                   have n6_ := Aside0.mk (zt2 (zq3 HO642) hb ho0 ho1)
                   have n6F_ := Aside0.mk (zt2 (zq3 HO642F) hb ho0 ho1)
                   have n7_ := Aside0.mk (zt2 (zq3 HO645) hb ho0 ho1)
                   have n7F_ := Aside0.mk (zt2 (zq3 HO645F) hb ho0 ho1)
                   have n8_ := Aside0.mk (Kd.R_lower (zn (zn (zn (zn (zn (zn (zn (zn ho0 HO573) HO576) HO598) HO601) HO635) HO638) HO642) HO645) (below_size (zb1 HB)))
                   have n9_ := Aside0.mk (Kd.R_lower (zn (zn (zn (zn (zn (zn (zn (zn ho1 HO573) HO576) HO598) HO601) HO635) HO638) HO642) HO645) (below_size (zb1 HB)))
                   have n10_ := Aside0.mk (zbb BK552 hb)
                   have n11_ := Aside0.mk (zbb BK553 hb)
                   have n12_ := Aside0.mk (zbb BK578 hb)
                   have n13_ := Aside0.mk (zbb BK603 hb)
                   have n14_ := Aside0.mk (zbb BK654 hb)
                   have n15_ := Aside0.mk (below_step (zb1 HB) hb)
                   clear HO573 HO576 HO598 HO601 HO635 HO635F HO638 HO638F HO642 HO642F HO645 HO645F BK552 BK553 BK578 BK603 BK654 HB
                   have HO573 := n0_; have HO576 := n1_; have HO598 := n2_; have HO601 := n3_; have HO635 := n4_; have HO635F := n4F_; have HO638 := n5_; have HO638F := n5F_; have HO642 := n6_; have HO642F := n6F_; have HO645 := n7_; have HO645F := n7F_; have HO649 := n8_; have HO652 := n9_; have BK552 := n10_; have BK553 := n11_; have BK578 := n12_; have BK603 := n13_; have BK654 := n14_; have HB := n15_
                   clear n0_ n1_ n2_ n3_ n4_ n5_ n6_ n7_ n8_ n9_ n10_ n11_ n12_ n13_ n14_ n15_ n4F_ n5F_ n6F_ n7F_
                   (try clear hb)
                   (try clear hb2)
                   (try clear hk)
                   (try clear hi)
                   (try clear ho0)
                   (try clear ho1)
                   refine hK.out _ _ ⟨zc BK552 0, zc BK552 1, zc BK552 2, zc BK553 0, zc BK553 1, zc BK553 2⟩ (fun hHeld => ?_)
                   clear hK K
                   refine norm_ (a' := ?_) ?_ ?_
                   rotate_left
                   ·
                    show Act.put _ (some 99) _ = _
                    simp only [Act.put, List.setIfInBounds_toArray, List.set_cons_zero, List.set_cons_succ, i64_w, i32_w]; rfl
                   refine zp (i := 5) (N := some 94) #[true, true, true, true, true, true, false, false, true, false, false] (any_of HT_.out (by kernel_rfl)) ?_
                   refine zp (i := 6) (N := some 100) #[true, true, true, true, true, true, true, false, true, false, false] (any_of HT_.out (by kernel_rfl)) ?_
                   refine zp (i := 7) (N := some 101) #[true, true, true, true, true, true, true, true, true, false, false] (any_of HT_.out (by kernel_rfl)) ?_
                   exact norm_ (by simp only [putAll, Act.put, List.setIfInBounds_toArray, List.set_cons_zero, List.set_cons_succ]) (hCont (.slice Ao132 t633.length co132, .slice Ao133 t636.length co133, .slice Ao134 t640.length co134, .slice Ao135 t643.length co135, v648, v651, gb654) _ ⟨hHeld, (zqm HO573), (zqm HO576), (zqm HO598), (zqm HO601), (zqm HO635), (zqm HO638), (zqm HO642), (zqm HO645), (zqm HO649), (zqm HO652), (zq1 BK552), (zq1 BK553), (zq1 BK578), (zq1 BK603), (zq1 BK654), GW654.out, GE654.out, NB552_654.out, NB654_552.out, NB553_654.out, NB654_553.out, NB578_654.out, NB654_578.out, NB603_654.out, NB654_603.out, (zb1 HB)⟩)
                 ·
                  refine box_step ?hg (N := 15) ?hd (cs := #[.int .i64 0, .slice none 0 0, .slice none 0 0]) (t := 27) ?hr ?_; (case hd => rfl); (case hg => rfl); (case hr => first | (go_simp; done) | (go_simp; rfl))
                  intro gb654 hg w130 hbox hb
                  have n0_ := Aside0.mk (Kd.R_below (zq3 HO573) hb)
                  have n1_ := Aside0.mk (Kd.R_below (zq3 HO576) hb)
                  have n2_ := Aside0.mk (Kd.R_below (zq3 HO598) hb)
                  have n3_ := Aside0.mk (Kd.R_below (zq3 HO601) hb)
                  have n4_ := Aside0.mk (Kd.R_below (zq3 HO635) hb)
                  have n4F_ := Aside0.mk (Kd.R_below (zq3 HO635F) hb)
                  have n5_ := Aside0.mk (Kd.R_below (zq3 HO638) hb)
                  have n5F_ := Aside0.mk (Kd.R_below (zq3 HO638F) hb)
                  have n6_ := Aside0.mk (zbb BK552 hb)
                  have n7_ := Aside0.mk (zbb BK553 hb)
                  have n8_ := Aside0.mk (zbb BK578 hb)
                  have n9_ := Aside0.mk (zbb BK603 hb)
                  have n10_ := Aside0.mk (below_step (zb1 HB) hb)
                  have n11_ := Aside0.mk (hbox)
                  have n12_ := Aside0.mk (zge (zb1 HB) hg)
                  have n13_ := Aside0.mk (zge (zb1 HB) hg)
                  have n14_ := Aside0.mk (zlt BK552 hg)
                  have n15_ := Aside0.mk (zgt BK552 hg)
                  have n16_ := Aside0.mk (zlt BK553 hg)
                  have n17_ := Aside0.mk (zgt BK553 hg)
                  have n18_ := Aside0.mk (zlt BK578 hg)
                  have n19_ := Aside0.mk (zgt BK578 hg)
                  have n20_ := Aside0.mk (zlt BK603 hg)
                  have n21_ := Aside0.mk (zgt BK603 hg)
                  clear HO573 HO576 HO598 HO601 HO635 HO635F HO638 HO638F BK552 BK553 BK578 BK603 HB
                  have HO573 := n0_; have HO576 := n1_; have HO598 := n2_; have HO601 := n3_; have HO635 := n4_; have HO635F := n4F_; have HO638 := n5_; have HO638F := n5F_; have BK552 := n6_; have BK553 := n7_; have BK578 := n8_; have BK603 := n9_; have HB := n10_; have BK654 := n11_; have GW654 := n12_; have GE654 := n13_; have NB552_654 := n14_; have NB654_552 := n15_; have NB553_654 := n16_; have NB654_553 := n17_; have NB578_654 := n18_; have NB654_578 := n19_; have NB603_654 := n20_; have NB654_603 := n21_
                  clear n0_ n1_ n2_ n3_ n4_ n5_ n6_ n7_ n8_ n9_ n10_ n11_ n12_ n13_ n14_ n15_ n16_ n17_ n18_ n19_ n20_ n21_ n4F_ n5F_ hb hbox hg
                  refine hK.out _ _ ⟨zc BK552 0, zc BK552 1, zc BK552 2, zc BK553 0, zc BK553 1, zc BK553 2⟩ (fun hHeld => ?_)
                  clear hK K
                  refine norm_ (a' := ?_) ?_ ?_
                  rotate_left
                  ·
                   show Act.put _ (some 15) _ = _
                   simp only [Act.put, List.setIfInBounds_toArray, List.set_cons_zero, List.set_cons_succ, i64_w, i32_w]; rfl
                  refine one_ (i := 3) (N := some 98) #[true, true, true, true, false, false, false, false, true, false, false] rfl rfl (one_of HT_.out (by kernel_rfl)) (by decide) (fun K hK => ?_)
                  refine goes_ Try.func16 (by kernel_rfl) rfl #[.agg #[.int .i64 a1_0, .slice A1_1 l1_1.length c1_1, .slice A1_2 l1_2.length c1_2], .bool true] (by rfl) rfl rfl zq6 ?_
                  with_reducible refine (laws_toBox.calls k a1_0 _ _ l1_1 _ _ l1_2 true t639 t640 t643 _ ?side1 ?side2 ?side3 ?side4 A43.out).mono ?_
                  (case side1 => exact zcs HR1_1 HB)
                  (case side2 => exact HC1_1.out)
                  (case side3 => exact zcs HR1_2 HB)
                  (case side4 => exact HC1_2.out)
                  rintro e w131 ⟨v641, v644, rfl, ho0, ho1, hb, ho0F, ho1F⟩
                  refine ⟨_, rfl, ?_⟩
                  have n0_ := Aside0.mk (zt2 (zq3 HO573) hb ho0 ho1)
                  have n1_ := Aside0.mk (zt2 (zq3 HO576) hb ho0 ho1)
                  have n2_ := Aside0.mk (zt2 (zq3 HO598) hb ho0 ho1)
                  have n3_ := Aside0.mk (zt2 (zq3 HO601) hb ho0 ho1)
                  have n4_ := Aside0.mk (zt2 (zq3 HO635) hb ho0 ho1)
                  have n4F_ := Aside0.mk (zt2 (zq3 HO635F) hb ho0 ho1)
                  have n5_ := Aside0.mk (zt2 (zq3 HO638) hb ho0 ho1)
                  have n5F_ := Aside0.mk (zt2 (zq3 HO638F) hb ho0 ho1)
                  have n6_ := Aside0.mk (Kd.R_lower (zn (zn (zn (zn (zn (zn ho0 HO573) HO576) HO598) HO601) HO635) HO638) (below_size (zb1 HB)))
                  have n6F_ := Aside0.mk (Kd.R_lower (zn (zn (zn (zn (zn (zn ho0F HO573) HO576) HO598) HO601) HO635) HO638) (below_size (zb1 HB)))
                  have n7_ := Aside0.mk (Kd.R_lower (zn (zn (zn (zn (zn (zn ho1 HO573) HO576) HO598) HO601) HO635) HO638) (below_size (zb1 HB)))
                  have n7F_ := Aside0.mk (Kd.R_lower (zn (zn (zn (zn (zn (zn ho1F HO573) HO576) HO598) HO601) HO635) HO638) (below_size (zb1 HB)))
                  have n8_ := Aside0.mk (zbb BK552 hb)
                  have n9_ := Aside0.mk (zbb BK553 hb)
                  have n10_ := Aside0.mk (zbb BK578 hb)
                  have n11_ := Aside0.mk (zbb BK603 hb)
                  have n12_ := Aside0.mk (zbb BK654 hb)
                  have n13_ := Aside0.mk (below_step (zb1 HB) hb)
                  clear HO573 HO576 HO598 HO601 HO635 HO635F HO638 HO638F BK552 BK553 BK578 BK603 BK654 HB
                  have HO573 := n0_; have HO576 := n1_; have HO598 := n2_; have HO601 := n3_; have HO635 := n4_; have HO635F := n4F_; have HO638 := n5_; have HO638F := n5F_; have HO642 := n6_; have HO642F := n6F_; have HO645 := n7_; have HO645F := n7F_; have BK552 := n8_; have BK553 := n9_; have BK578 := n10_; have BK603 := n11_; have BK654 := n12_; have HB := n13_
                  clear n0_ n1_ n2_ n3_ n4_ n5_ n6_ n7_ n8_ n9_ n10_ n11_ n12_ n13_ n4F_ n5F_ n6F_ n7F_
                  (try clear hb)
                  (try clear hb2)
                  (try clear hk)
                  (try clear hi)
                  (try clear ho0)
                  (try clear ho0F)
                  (try clear ho1)
                  (try clear ho1F)
                  obtain ⟨Ao132, co132, eo132⟩ := Kd.R_slice HO635.out
                  (first | subst eo132 | (injection eo132 with f1_ f2_ f3_; have f4_ := f1_.symm; have f5_ := f3_.symm; clear f1_ f2_ f3_; subst f4_; subst f5_))
                  obtain ⟨Ao133, co133, eo133⟩ := Kd.R_slice HO638.out
                  (first | subst eo133 | (injection eo133 with f1_ f2_ f3_; have f4_ := f1_.symm; have f5_ := f3_.symm; clear f1_ f2_ f3_; subst f4_; subst f5_))
                  obtain ⟨Ao134, co134, eo134⟩ := Kd.R_slice HO642.out
                  (first | subst eo134 | (injection eo134 with f1_ f2_ f3_; have f4_ := f1_.symm; have f5_ := f3_.symm; clear f1_ f2_ f3_; subst f4_; subst f5_))
                  obtain ⟨Ao135, co135, eo135⟩ := Kd.R_slice HO645.out
                  (first | subst eo135 | (injection eo135 with f1_ f2_ f3_; have f4_ := f1_.symm; have f5_ := f3_.symm; clear f1_ f2_ f3_; subst f4_; subst f5_))
                  refine hK.out _ _ ⟨zc BK552 0, zc BK552 1, zc BK552 2, zc BK553 0, zc BK553 1, zc BK553 2⟩ (fun hHeld => ?_)
                  clear hK K
                  refine norm_ (a' := ?_) ?_ ?_
                  rotate_left
                  ·
                   show Act.put _ (some 98) _ = _
                   simp only [Act.put, List.setIfInBounds_toArray, List.set_cons_zero, List.set_cons_succ, i64_w, i32_w]; rfl
                  refine one_ (i := 4) (N := some 99) #[true, true, true, true, true, false, false, false, true, false, false] rfl rfl (one_of HT_.out (by kernel_rfl)) (by decide) (fun K hK => ?_)
                  refine goes_ Try.func49 (by kernel_rfl) rfl #[.agg #[.int .i64 t632, .slice Ao132 t633.length co132, .slice Ao133 t636.length co133], .agg #[.int .i64 t639, .slice Ao134 t640.length co134, .slice Ao135 t643.length co135]] (by rfl) rfl rfl zq6 ?_
                  with_reducible refine (impl_CommonBox.calls k t632 _ _ t633 _ _ t636 t639 _ _ t640 _ _ t643 t646 t647 t650 t653 _ ?side1 ?side2 ?side3 ?side4 ?side5 ?side6 ?side7 ?side8 A44.out).mono ?_
                  (case side1 => exact zcr HO635)
                  (case side2 => exact (Kd.R_reads' HO635.out).2.1)
                  (case side3 => exact zcr HO638)
                  (case side4 => exact (Kd.R_reads' HO638.out).2.1)
                  (case side5 => exact zcr HO642)
                  (case side6 => exact (Kd.R_reads' HO642.out).2.1)
                  (case side7 => exact zcr HO645)
                  (case side8 => exact (Kd.R_reads' HO645.out).2.1)
                  rintro e w136 ⟨v648, v651, rfl, ho0, ho1, hb⟩
                  refine ⟨_, rfl, ?_⟩
                  have n0_ := Aside0.mk (zt2 (zq3 HO573) hb ho0 ho1)
                  have n1_ := Aside0.mk (zt2 (zq3 HO576) hb ho0 ho1)
                  have n2_ := Aside0.mk (zt2 (zq3 HO598) hb ho0 ho1)
                  have n3_ := Aside0.mk (zt2 (zq3 HO601) hb ho0 ho1)
                  have n4_ := Aside0.mk (zt2 (zq3 HO635) hb ho0 ho1)
                  have n4F_ := Aside0.mk (zt2 (zq3 HO635F) hb ho0 ho1)
                  have n5_ := Aside0.mk (zt2 (zq3 HO638) hb ho0 ho1)
                  have n5F_ := Aside0.mk (zt2 (zq3 HO638F) hb ho0 ho1)
                  have n6_ := Aside0.mk (zt2 (zq3 HO642) hb ho0 ho1)
                  have n6F_ := Aside0.mk (zt2 (zq3 HO642F) hb ho0 ho1)
                  have n7_ := Aside0.mk (zt2 (zq3 HO645) hb ho0 ho1)
                  have n7F_ := Aside0.mk (zt2 (zq3 HO645F) hb ho0 ho1)
                  have n8_ := Aside0.mk (Kd.R_lower (zn (zn (zn (zn (zn (zn (zn (zn ho0 HO573) HO576) HO598) HO601) HO635) HO638) HO642) HO645) (below_size (zb1 HB)))
                  have n9_ := Aside0.mk (Kd.R_lower (zn (zn (zn (zn (zn (zn (zn (zn ho1 HO573) HO576) HO598) HO601) HO635) HO638) HO642) HO645) (below_size (zb1 HB)))
                  have n10_ := Aside0.mk (zbb BK552 hb)
                  have n11_ := Aside0.mk (zbb BK553 hb)
                  have n12_ := Aside0.mk (zbb BK578 hb)
                  have n13_ := Aside0.mk (zbb BK603 hb)
                  have n14_ := Aside0.mk (zbb BK654 hb)
                  have n15_ := Aside0.mk (below_step (zb1 HB) hb)
                  clear HO573 HO576 HO598 HO601 HO635 HO635F HO638 HO638F HO642 HO642F HO645 HO645F BK552 BK553 BK578 BK603 BK654 HB
                  have HO573 := n0_; have HO576 := n1_; have HO598 := n2_; have HO601 := n3_; have HO635 := n4_; have HO635F := n4F_; have HO638 := n5_; have HO638F := n5F_; have HO642 := n6_; have HO642F := n6F_; have HO645 := n7_; have HO645F := n7F_; have HO649 := n8_; have HO652 := n9_; have BK552 := n10_; have BK553 := n11_; have BK578 := n12_; have BK603 := n13_; have BK654 := n14_; have HB := n15_
                  clear n0_ n1_ n2_ n3_ n4_ n5_ n6_ n7_ n8_ n9_ n10_ n11_ n12_ n13_ n14_ n15_ n4F_ n5F_ n6F_ n7F_
                  (try clear hb)
                  (try clear hb2)
                  (try clear hk)
                  (try clear hi)
                  (try clear ho0)
                  (try clear ho1)
                  refine hK.out _ _ ⟨zc BK552 0, zc BK552 1, zc BK552 2, zc BK553 0, zc BK553 1, zc BK553 2⟩ (fun hHeld => ?_)
                  clear hK K
                  refine norm_ (a' := ?_) ?_ ?_
                  rotate_left
                  ·
                   show Act.put _ (some 99) _ = _
                   simp only [Act.put, List.setIfInBounds_toArray, List.set_cons_zero, List.set_cons_succ, i64_w, i32_w]; rfl
                  refine zp (i := 5) (N := some 94) #[true, true, true, true, true, true, false, false, true, false, false] (any_of HT_.out (by kernel_rfl)) ?_
                  refine zp (i := 6) (N := some 100) #[true, true, true, true, true, true, true, false, true, false, false] (any_of HT_.out (by kernel_rfl)) ?_
                  refine zp (i := 7) (N := some 101) #[true, true, true, true, true, true, true, true, true, false, false] (any_of HT_.out (by kernel_rfl)) ?_
                  exact norm_ (by simp only [putAll, Act.put, List.setIfInBounds_toArray, List.set_cons_zero, List.set_cons_succ]) (hCont (.slice Ao132 t633.length co132, .slice Ao133 t636.length co133, .slice Ao134 t640.length co134, .slice Ao135 t643.length co135, v648, v651, gb654) _ ⟨hHeld, (zqm HO573), (zqm HO576), (zqm HO598), (zqm HO601), (zqm HO635), (zqm HO638), (zqm HO642), (zqm HO645), (zqm HO649), (zqm HO652), (zq1 BK552), (zq1 BK553), (zq1 BK578), (zq1 BK603), (zq1 BK654), GW654.out, GE654.out, NB552_654.out, NB654_552.out, NB553_654.out, NB654_553.out, NB578_654.out, NB654_578.out, NB603_654.out, NB654_603.out, (zb1 HB)⟩)
                ·
                 refine box_step ?hg (N := 15) ?hd (cs := #[.int .i64 0, .slice none 0 0, .slice none 0 0]) (t := 27) ?hr ?_; (case hd => rfl); (case hg => rfl); (case hr => first | (go_simp; done) | (go_simp; rfl))
                 intro gb654 hg w129 hbox hb
                 have n0_ := Aside0.mk (Kd.R_below (zq3 HO573) hb)
                 have n1_ := Aside0.mk (Kd.R_below (zq3 HO576) hb)
                 have n2_ := Aside0.mk (Kd.R_below (zq3 HO598) hb)
                 have n3_ := Aside0.mk (Kd.R_below (zq3 HO601) hb)
                 have n4_ := Aside0.mk (zbb BK552 hb)
                 have n5_ := Aside0.mk (zbb BK553 hb)
                 have n6_ := Aside0.mk (zbb BK578 hb)
                 have n7_ := Aside0.mk (zbb BK603 hb)
                 have n8_ := Aside0.mk (below_step (zb1 HB) hb)
                 have BK654 := Aside0.mk (hbox)
                 have GW654 := Aside0.mk (zge (zb1 HB) hg)
                 have GE654 := Aside0.mk (zge (zb1 HB) hg)
                 have NB552_654 := Aside0.mk (zlt BK552 hg)
                 have NB654_552 := Aside0.mk (zgt BK552 hg)
                 have NB553_654 := Aside0.mk (zlt BK553 hg)
                 have NB654_553 := Aside0.mk (zgt BK553 hg)
                 have NB578_654 := Aside0.mk (zlt BK578 hg)
                 have NB654_578 := Aside0.mk (zgt BK578 hg)
                 have NB603_654 := Aside0.mk (zlt BK603 hg)
                 have NB654_603 := Aside0.mk (zgt BK603 hg)
                 clear HO573 HO576 HO598 HO601 BK552 BK553 BK578 BK603 HB
                 have HO573 := n0_; have HO576 := n1_; have HO598 := n2_; have HO601 := n3_; have BK552 := n4_; have BK553 := n5_; have BK578 := n6_; have BK603 := n7_; have HB := n8_
                 clear n0_ n1_ n2_ n3_ n4_ n5_ n6_ n7_ n8_ hb hbox hg
                 refine hK.out _ _ ⟨zc BK552 0, zc BK552 1, zc BK552 2, zc BK553 0, zc BK553 1, zc BK553 2⟩ (fun hHeld => ?_)
                 clear hK K
                 refine norm_ (a' := ?_) ?_ ?_
                 rotate_left
                 ·
                  show Act.put _ (some 15) _ = _
                  simp only [Act.put, List.setIfInBounds_toArray, List.set_cons_zero, List.set_cons_succ, i64_w, i32_w]; rfl
                 refine one_ (i := 1) (N := some 96) #[true, true, true, false, false, false, false, false, true, false, false] rfl rfl (one_of HT_.out (by kernel_rfl)) (by decide) (fun K hK => ?_)
                 refine goes_ Try.func16 (by kernel_rfl) rfl #[.agg #[.int .i64 a0_0, .slice A0_1 l0_1.length c0_1, .slice A0_2 l0_2.length c0_2], .bool true] (by rfl) rfl rfl zq6 ?_
                 with_reducible refine (laws_toBox.calls k a0_0 _ _ l0_1 _ _ l0_2 true t632 t633 t636 _ ?side1 ?side2 ?side3 ?side4 A42.out).mono ?_
                 (case side1 => exact zcs HR0_1 HB)
                 (case side2 => exact HC0_1.out)
                 (case side3 => exact zcs HR0_2 HB)
                 (case side4 => exact HC0_2.out)
                 rintro e w130 ⟨v634, v637, rfl, ho0, ho1, hb, ho0F, ho1F⟩
                 refine ⟨_, rfl, ?_⟩
                 have n0_ := Aside0.mk (zt2 (zq3 HO573) hb ho0 ho1)
                 have n1_ := Aside0.mk (zt2 (zq3 HO576) hb ho0 ho1)
                 have n2_ := Aside0.mk (zt2 (zq3 HO598) hb ho0 ho1)
                 have n3_ := Aside0.mk (zt2 (zq3 HO601) hb ho0 ho1)
                 have n4_ := Aside0.mk (Kd.R_lower (zn (zn (zn (zn ho0 HO573) HO576) HO598) HO601) (below_size (zb1 HB)))
                 have n4F_ := Aside0.mk (Kd.R_lower (zn (zn (zn (zn ho0F HO573) HO576) HO598) HO601) (below_size (zb1 HB)))
                 have n5_ := Aside0.mk (Kd.R_lower (zn (zn (zn (zn ho1 HO573) HO576) HO598) HO601) (below_size (zb1 HB)))
                 have n5F_ := Aside0.mk (Kd.R_lower (zn (zn (zn (zn ho1F HO573) HO576) HO598) HO601) (below_size (zb1 HB)))
                 have n6_ := Aside0.mk (zbb BK552 hb)
                 have n7_ := Aside0.mk (zbb BK553 hb)
                 have n8_ := Aside0.mk (zbb BK578 hb)
                 have n9_ := Aside0.mk (zbb BK603 hb)
                 have n10_ := Aside0.mk (zbb BK654 hb)
                 have n11_ := Aside0.mk (below_step (zb1 HB) hb)
                 clear HO573 HO576 HO598 HO601 BK552 BK553 BK578 BK603 BK654 HB
                 have HO573 := n0_; have HO576 := n1_; have HO598 := n2_; have HO601 := n3_; have HO635 := n4_; have HO635F := n4F_; have HO638 := n5_; have HO638F := n5F_; have BK552 := n6_; have BK553 := n7_; have BK578 := n8_; have BK603 := n9_; have BK654 := n10_; have HB := n11_
                 clear n0_ n1_ n2_ n3_ n4_ n5_ n6_ n7_ n8_ n9_ n10_ n11_ n4F_ n5F_
                 (try clear hb)
                 (try clear hb2)
                 (try clear hk)
                 (try clear hi)
                 (try clear ho0)
                 (try clear ho0F)
                 (try clear ho1)
                 (try clear ho1F)
                 refine hK.out _ _ ⟨zc BK552 0, zc BK552 1, zc BK552 2, zc BK553 0, zc BK553 1, zc BK553 2⟩ (fun hHeld => ?_)
                 clear hK K
                 refine norm_ (a' := ?_) ?_ ?_
                 rotate_left
                 ·
                  show Act.put _ (some 96) _ = _
                  simp only [Act.put, List.setIfInBounds_toArray, List.set_cons_zero, List.set_cons_succ, i64_w, i32_w]; rfl
                 refine one_ (i := 3) (N := some 98) #[true, true, true, true, false, false, false, false, true, false, false] rfl rfl (one_of HT_.out (by kernel_rfl)) (by decide) (fun K hK => ?_)
                 refine goes_ Try.func16 (by kernel_rfl) rfl #[.agg #[.int .i64 a1_0, .slice A1_1 l1_1.length c1_1, .slice A1_2 l1_2.length c1_2], .bool true] (by rfl) rfl rfl zq6 ?_
                 with_reducible refine (laws_toBox.calls k a1_0 _ _ l1_1 _ _ l1_2 true t639 t640 t643 _ ?side1 ?side2 ?side3 ?side4 A43.out).mono ?_
                 (case side1 => exact zcs HR1_1 HB)
                 (case side2 => exact HC1_1.out)
                 (case side3 => exact zcs HR1_2 HB)
                 (case side4 => exact HC1_2.out)
                 rintro e w131 ⟨v641, v644, rfl, ho0, ho1, hb, ho0F, ho1F⟩
                 refine ⟨_, rfl, ?_⟩
                 have n0_ := Aside0.mk (zt2 (zq3 HO573) hb ho0 ho1)
                 have n1_ := Aside0.mk (zt2 (zq3 HO576) hb ho0 ho1)
                 have n2_ := Aside0.mk (zt2 (zq3 HO598) hb ho0 ho1)
                 have n3_ := Aside0.mk (zt2 (zq3 HO601) hb ho0 ho1)
                 have n4_ := Aside0.mk (zt2 (zq3 HO635) hb ho0 ho1)
                 have n4F_ := Aside0.mk (zt2 (zq3 HO635F) hb ho0 ho1)
                 have n5_ := Aside0.mk (zt2 (zq3 HO638) hb ho0 ho1)
                 have n5F_ := Aside0.mk (zt2 (zq3 HO638F) hb ho0 ho1)
                 have n6_ := Aside0.mk (Kd.R_lower (zn (zn (zn (zn (zn (zn ho0 HO573) HO576) HO598) HO601) HO635) HO638) (below_size (zb1 HB)))
                 have n6F_ := Aside0.mk (Kd.R_lower (zn (zn (zn (zn (zn (zn ho0F HO573) HO576) HO598) HO601) HO635) HO638) (below_size (zb1 HB)))
                 have n7_ := Aside0.mk (Kd.R_lower (zn (zn (zn (zn (zn (zn ho1 HO573) HO576) HO598) HO601) HO635) HO638) (below_size (zb1 HB)))
                 have n7F_ := Aside0.mk (Kd.R_lower (zn (zn (zn (zn (zn (zn ho1F HO573) HO576) HO598) HO601) HO635) HO638) (below_size (zb1 HB)))
                 have n8_ := Aside0.mk (zbb BK552 hb)
                 have n9_ := Aside0.mk (zbb BK553 hb)
                 have n10_ := Aside0.mk (zbb BK578 hb)
                 have n11_ := Aside0.mk (zbb BK603 hb)
                 have n12_ := Aside0.mk (zbb BK654 hb)
                 have n13_ := Aside0.mk (below_step (zb1 HB) hb)
                 clear HO573 HO576 HO598 HO601 HO635 HO635F HO638 HO638F BK552 BK553 BK578 BK603 BK654 HB
                 have HO573 := n0_; have HO576 := n1_; have HO598 := n2_; have HO601 := n3_; have HO635 := n4_; have HO635F := n4F_; have HO638 := n5_; have HO638F := n5F_; have HO642 := n6_; have HO642F := n6F_; have HO645 := n7_; have HO645F := n7F_; have BK552 := n8_; have BK553 := n9_; have BK578 := n10_; have BK603 := n11_; have BK654 := n12_; have HB := n13_
                 clear n0_ n1_ n2_ n3_ n4_ n5_ n6_ n7_ n8_ n9_ n10_ n11_ n12_ n13_ n4F_ n5F_ n6F_ n7F_
                 (try clear hb)
                 (try clear hb2)
                 (try clear hk)
                 (try clear hi)
                 (try clear ho0)
                 (try clear ho0F)
                 (try clear ho1)
                 (try clear ho1F)
                 obtain ⟨Ao132, co132, eo132⟩ := Kd.R_slice HO635.out
                 (first | subst eo132 | (injection eo132 with f1_ f2_ f3_; have f4_ := f1_.symm; have f5_ := f3_.symm; clear f1_ f2_ f3_; subst f4_; subst f5_))
                 obtain ⟨Ao133, co133, eo133⟩ := Kd.R_slice HO638.out
                 (first | subst eo133 | (injection eo133 with f1_ f2_ f3_; have f4_ := f1_.symm; have f5_ := f3_.symm; clear f1_ f2_ f3_; subst f4_; subst f5_))
                 obtain ⟨Ao134, co134, eo134⟩ := Kd.R_slice HO642.out
                 (first | subst eo134 | (injection eo134 with f1_ f2_ f3_; have f4_ := f1_.symm; have f5_ := f3_.symm; clear f1_ f2_ f3_; subst f4_; subst f5_))
                 obtain ⟨Ao135, co135, eo135⟩ := Kd.R_slice HO645.out
                 (first | subst eo135 | (injection eo135 with f1_ f2_ f3_; have f4_ := f1_.symm; have f5_ := f3_.symm; clear f1_ f2_ f3_; subst f4_; subst f5_))
                 refine hK.out _ _ ⟨zc BK552 0, zc BK552 1, zc BK552 2, zc BK553 0, zc BK553 1, zc BK553 2⟩ (fun hHeld => ?_)
                 clear hK K
                 refine norm_ (a' := ?_) ?_ ?_
                 rotate_left
                 ·
                  show Act.put _ (some 98) _ = _
                  simp only [Act.put, List.setIfInBounds_toArray, List.set_cons_zero, List.set_cons_succ, i64_w, i32_w]; rfl
                 refine one_ (i := 4) (N := some 99) #[true, true, true, true, true, false, false, false, true, false, false] rfl rfl (one_of HT_.out (by kernel_rfl)) (by decide) (fun K hK => ?_)
                 refine goes_ Try.func49 (by kernel_rfl) rfl #[.agg #[.int .i64 t632, .slice Ao132 t633.length co132, .slice Ao133 t636.length co133], .agg #[.int .i64 t639, .slice Ao134 t640.length co134, .slice Ao135 t643.length co135]] (by rfl) rfl rfl zq6 ?_
                 with_reducible refine (impl_CommonBox.calls k t632 _ _ t633 _ _ t636 t639 _ _ t640 _ _ t643 t646 t647 t650 t653 _ ?side1 ?side2 ?side3 ?side4 ?side5 ?side6 ?side7 ?side8 A44.out).mono ?_
                 (case side1 => exact zcr HO635)
                 (case side2 => exact (Kd.R_reads' HO635.out).2.1)
                 (case side3 => exact zcr HO638)
                 (case side4 => exact (Kd.R_reads' HO638.out).2.1)
                 (case side5 => exact zcr HO642)
                 (case side6 => exact (Kd.R_reads' HO642.out).2.1)
                 (case side7 => exact zcr HO645)
                 (case side8 => exact (Kd.R_reads' HO645.out).2.1)
                 rintro e w136 ⟨v648, v651, rfl, ho0, ho1, hb⟩
                 refine ⟨_, rfl, ?_⟩
                 have n0_ := Aside0.mk (zt2 (zq3 HO573) hb ho0 ho1)
                 have n1_ := Aside0.mk (zt2 (zq3 HO576) hb ho0 ho1)
                 have n2_ := Aside0.mk (zt2 (zq3 HO598) hb ho0 ho1)
                 have n3_ := Aside0.mk (zt2 (zq3 HO601) hb ho0 ho1)
                 have n4_ := Aside0.mk (zt2 (zq3 HO635) hb ho0 ho1)
                 have n4F_ := Aside0.mk (zt2 (zq3 HO635F) hb ho0 ho1)
                 have n5_ := Aside0.mk (zt2 (zq3 HO638) hb ho0 ho1)
                 have n5F_ := Aside0.mk (zt2 (zq3 HO638F) hb ho0 ho1)
                 have n6_ := Aside0.mk (zt2 (zq3 HO642) hb ho0 ho1)
                 have n6F_ := Aside0.mk (zt2 (zq3 HO642F) hb ho0 ho1)
                 have n7_ := Aside0.mk (zt2 (zq3 HO645) hb ho0 ho1)
                 have n7F_ := Aside0.mk (zt2 (zq3 HO645F) hb ho0 ho1)
                 have n8_ := Aside0.mk (Kd.R_lower (zn (zn (zn (zn (zn (zn (zn (zn ho0 HO573) HO576) HO598) HO601) HO635) HO638) HO642) HO645) (below_size (zb1 HB)))
                 have n9_ := Aside0.mk (Kd.R_lower (zn (zn (zn (zn (zn (zn (zn (zn ho1 HO573) HO576) HO598) HO601) HO635) HO638) HO642) HO645) (below_size (zb1 HB)))
                 have n10_ := Aside0.mk (zbb BK552 hb)
                 have n11_ := Aside0.mk (zbb BK553 hb)
                 have n12_ := Aside0.mk (zbb BK578 hb)
                 have n13_ := Aside0.mk (zbb BK603 hb)
                 have n14_ := Aside0.mk (zbb BK654 hb)
                 have n15_ := Aside0.mk (below_step (zb1 HB) hb)
                 clear HO573 HO576 HO598 HO601 HO635 HO635F HO638 HO638F HO642 HO642F HO645 HO645F BK552 BK553 BK578 BK603 BK654 HB
                 have HO573 := n0_; have HO576 := n1_; have HO598 := n2_; have HO601 := n3_; have HO635 := n4_; have HO635F := n4F_; have HO638 := n5_; have HO638F := n5F_; have HO642 := n6_; have HO642F := n6F_; have HO645 := n7_; have HO645F := n7F_; have HO649 := n8_; have HO652 := n9_; have BK552 := n10_; have BK553 := n11_; have BK578 := n12_; have BK603 := n13_; have BK654 := n14_; have HB := n15_
                 clear n0_ n1_ n2_ n3_ n4_ n5_ n6_ n7_ n8_ n9_ n10_ n11_ n12_ n13_ n14_ n15_ n4F_ n5F_ n6F_ n7F_
                 (try clear hb)
                 (try clear hb2)
                 (try clear hk)
                 (try clear hi)
                 (try clear ho0)
                 (try clear ho1)
                 refine hK.out _ _ ⟨zc BK552 0, zc BK552 1, zc BK552 2, zc BK553 0, zc BK553 1, zc BK553 2⟩ (fun hHeld => ?_)
                 clear hK K
                 refine norm_ (a' := ?_) ?_ ?_
                 rotate_left
                 ·
                  show Act.put _ (some 99) _ = _
                  simp only [Act.put, List.setIfInBounds_toArray, List.set_cons_zero, List.set_cons_succ, i64_w, i32_w]; rfl
                 refine zp (i := 5) (N := some 94) #[true, true, true, true, true, true, false, false, true, false, false] (any_of HT_.out (by kernel_rfl)) ?_
                 refine zp (i := 6) (N := some 100) #[true, true, true, true, true, true, true, false, true, false, false] (any_of HT_.out (by kernel_rfl)) ?_
                 refine zp (i := 7) (N := some 101) #[true, true, true, true, true, true, true, true, true, false, false] (any_of HT_.out (by kernel_rfl)) ?_
                 exact norm_ (by simp only [putAll, Act.put, List.setIfInBounds_toArray, List.set_cons_zero, List.set_cons_succ]) (hCont (.slice Ao132 t633.length co132, .slice Ao133 t636.length co133, .slice Ao134 t640.length co134, .slice Ao135 t643.length co135, v648, v651, gb654) _ ⟨hHeld, (zqm HO573), (zqm HO576), (zqm HO598), (zqm HO601), (zqm HO635), (zqm HO638), (zqm HO642), (zqm HO645), (zqm HO649), (zqm HO652), (zq1 BK552), (zq1 BK553), (zq1 BK578), (zq1 BK603), (zq1 BK654), GW654.out, GE654.out, NB552_654.out, NB654_552.out, NB553_654.out, NB654_553.out, NB578_654.out, NB654_578.out, NB603_654.out, NB654_603.out, (zb1 HB)⟩)
               rintro ⟨v634, v637, v641, v644, v648, v651, gb654⟩ w137 ⟨hS_, h0_, h1_, h2_, h3_, h4_, h5_, h6_, h7_, h8_, h9_, h10_, h11_, h12_, h13_, h14_, h15_, h16_, h17_, h18_, h19_, h20_, h21_, h22_, h23_, h24_, h25_⟩
               have HO635 : Aside0 (Kd.R (Kd.int .i64) 3 w137 w.heap.size (fun k_ => some k_ ≠ (.slice Ao69 t571.length co69 : Value).ownBlock ∧ some k_ ≠ (.slice Ao71 t574.length co71 : Value).ownBlock ∧ some k_ ≠ (.slice Ao103 t596.length co103 : Value).ownBlock ∧ some k_ ≠ (.slice Ao104 t599.length co104 : Value).ownBlock ∧ some k_ ≠ (v637 : Value).ownBlock ∧ some k_ ≠ (v641 : Value).ownBlock ∧ some k_ ≠ (v644 : Value).ownBlock ∧ some k_ ≠ (v648 : Value).ownBlock ∧ some k_ ≠ (v651 : Value).ownBlock) v634 t633) := ⟨h4_⟩
               have HO638 : Aside0 (Kd.R (Kd.int .i64) 3 w137 w.heap.size (fun k_ => some k_ ≠ (.slice Ao69 t571.length co69 : Value).ownBlock ∧ some k_ ≠ (.slice Ao71 t574.length co71 : Value).ownBlock ∧ some k_ ≠ (.slice Ao103 t596.length co103 : Value).ownBlock ∧ some k_ ≠ (.slice Ao104 t599.length co104 : Value).ownBlock ∧ some k_ ≠ (v634 : Value).ownBlock ∧ some k_ ≠ (v641 : Value).ownBlock ∧ some k_ ≠ (v644 : Value).ownBlock ∧ some k_ ≠ (v648 : Value).ownBlock ∧ some k_ ≠ (v651 : Value).ownBlock) v637 t636) := ⟨h5_⟩
               have HO642 : Aside0 (Kd.R (Kd.int .i64) 3 w137 w.heap.size (fun k_ => some k_ ≠ (.slice Ao69 t571.length co69 : Value).ownBlock ∧ some k_ ≠ (.slice Ao71 t574.length co71 : Value).ownBlock ∧ some k_ ≠ (.slice Ao103 t596.length co103 : Value).ownBlock ∧ some k_ ≠ (.slice Ao104 t599.length co104 : Value).ownBlock ∧ some k_ ≠ (v634 : Value).ownBlock ∧ some k_ ≠ (v637 : Value).ownBlock ∧ some k_ ≠ (v644 : Value).ownBlock ∧ some k_ ≠ (v648 : Value).ownBlock ∧ some k_ ≠ (v651 : Value).ownBlock) v641 t640) := ⟨h6_⟩
               have HO645 : Aside0 (Kd.R (Kd.int .i64) 3 w137 w.heap.size (fun k_ => some k_ ≠ (.slice Ao69 t571.length co69 : Value).ownBlock ∧ some k_ ≠ (.slice Ao71 t574.length co71 : Value).ownBlock ∧ some k_ ≠ (.slice Ao103 t596.length co103 : Value).ownBlock ∧ some k_ ≠ (.slice Ao104 t599.length co104 : Value).ownBlock ∧ some k_ ≠ (v634 : Value).ownBlock ∧ some k_ ≠ (v637 : Value).ownBlock ∧ some k_ ≠ (v641 : Value).ownBlock ∧ some k_ ≠ (v648 : Value).ownBlock ∧ some k_ ≠ (v651 : Value).ownBlock) v644 t643) := ⟨h7_⟩
               have HO649 : Aside0 (Kd.R (Kd.int .i64) 3 w137 w.heap.size (fun k_ => some k_ ≠ (.slice Ao69 t571.length co69 : Value).ownBlock ∧ some k_ ≠ (.slice Ao71 t574.length co71 : Value).ownBlock ∧ some k_ ≠ (.slice Ao103 t596.length co103 : Value).ownBlock ∧ some k_ ≠ (.slice Ao104 t599.length co104 : Value).ownBlock ∧ some k_ ≠ (v634 : Value).ownBlock ∧ some k_ ≠ (v637 : Value).ownBlock ∧ some k_ ≠ (v641 : Value).ownBlock ∧ some k_ ≠ (v644 : Value).ownBlock ∧ some k_ ≠ (v651 : Value).ownBlock) v648 t647) := ⟨h8_⟩
               have HO652 : Aside0 (Kd.R (Kd.int .i64) 3 w137 w.heap.size (fun k_ => some k_ ≠ (.slice Ao69 t571.length co69 : Value).ownBlock ∧ some k_ ≠ (.slice Ao71 t574.length co71 : Value).ownBlock ∧ some k_ ≠ (.slice Ao103 t596.length co103 : Value).ownBlock ∧ some k_ ≠ (.slice Ao104 t599.length co104 : Value).ownBlock ∧ some k_ ≠ (v634 : Value).ownBlock ∧ some k_ ≠ (v637 : Value).ownBlock ∧ some k_ ≠ (v641 : Value).ownBlock ∧ some k_ ≠ (v644 : Value).ownBlock ∧ some k_ ≠ (v648 : Value).ownBlock) v651 t650) := ⟨h9_⟩
               have BK654 : Aside0 (w137.heap[gb654]? = some (.cells #[.int .i64 0, .slice none 0 0, .slice none 0 0] 27 (0, 0))) := ⟨h14_⟩
               have GW654 : Aside0 (w.heap.size ≤ gb654) := ⟨h15_⟩
               have GE654 : Aside0 (w.heap.size ≤ gb654) := ⟨h16_⟩
               have NB552_654 : Aside0 (gb552 ≠ gb654) := ⟨h17_⟩
               have NB654_552 : Aside0 (gb654 ≠ gb552) := ⟨h18_⟩
               have NB553_654 : Aside0 (gb553 ≠ gb654) := ⟨h19_⟩
               have NB654_553 : Aside0 (gb654 ≠ gb553) := ⟨h20_⟩
               have NB578_654 : Aside0 (gb578 ≠ gb654) := ⟨h21_⟩
               have NB654_578 : Aside0 (gb654 ≠ gb578) := ⟨h22_⟩
               have NB603_654 : Aside0 (gb603 ≠ gb654) := ⟨h23_⟩
               have NB654_603 : Aside0 (gb654 ≠ gb603) := ⟨h24_⟩
               replace HO573 : Aside0 (Kd.R (Kd.int .i64) 3 w137 w.heap.size (fun k_ => some k_ ≠ (.slice Ao71 t574.length co71 : Value).ownBlock ∧ some k_ ≠ (.slice Ao103 t596.length co103 : Value).ownBlock ∧ some k_ ≠ (.slice Ao104 t599.length co104 : Value).ownBlock ∧ some k_ ≠ (v634 : Value).ownBlock ∧ some k_ ≠ (v637 : Value).ownBlock ∧ some k_ ≠ (v641 : Value).ownBlock ∧ some k_ ≠ (v644 : Value).ownBlock ∧ some k_ ≠ (v648 : Value).ownBlock ∧ some k_ ≠ (v651 : Value).ownBlock) (.slice Ao69 t571.length co69) t571) := ⟨h0_⟩; replace HO576 : Aside0 (Kd.R (Kd.int .i64) 3 w137 w.heap.size (fun k_ => some k_ ≠ (.slice Ao69 t571.length co69 : Value).ownBlock ∧ some k_ ≠ (.slice Ao103 t596.length co103 : Value).ownBlock ∧ some k_ ≠ (.slice Ao104 t599.length co104 : Value).ownBlock ∧ some k_ ≠ (v634 : Value).ownBlock ∧ some k_ ≠ (v637 : Value).ownBlock ∧ some k_ ≠ (v641 : Value).ownBlock ∧ some k_ ≠ (v644 : Value).ownBlock ∧ some k_ ≠ (v648 : Value).ownBlock ∧ some k_ ≠ (v651 : Value).ownBlock) (.slice Ao71 t574.length co71) t574) := ⟨h1_⟩; replace HO598 : Aside0 (Kd.R (Kd.int .i64) 3 w137 w.heap.size (fun k_ => some k_ ≠ (.slice Ao69 t571.length co69 : Value).ownBlock ∧ some k_ ≠ (.slice Ao71 t574.length co71 : Value).ownBlock ∧ some k_ ≠ (.slice Ao104 t599.length co104 : Value).ownBlock ∧ some k_ ≠ (v634 : Value).ownBlock ∧ some k_ ≠ (v637 : Value).ownBlock ∧ some k_ ≠ (v641 : Value).ownBlock ∧ some k_ ≠ (v644 : Value).ownBlock ∧ some k_ ≠ (v648 : Value).ownBlock ∧ some k_ ≠ (v651 : Value).ownBlock) (.slice Ao103 t596.length co103) t629) := ⟨h2_⟩; replace HO601 : Aside0 (Kd.R (Kd.int .i64) 3 w137 w.heap.size (fun k_ => some k_ ≠ (.slice Ao69 t571.length co69 : Value).ownBlock ∧ some k_ ≠ (.slice Ao71 t574.length co71 : Value).ownBlock ∧ some k_ ≠ (.slice Ao103 t596.length co103 : Value).ownBlock ∧ some k_ ≠ (v634 : Value).ownBlock ∧ some k_ ≠ (v637 : Value).ownBlock ∧ some k_ ≠ (v641 : Value).ownBlock ∧ some k_ ≠ (v644 : Value).ownBlock ∧ some k_ ≠ (v648 : Value).ownBlock ∧ some k_ ≠ (v651 : Value).ownBlock) (.slice Ao104 t599.length co104) t630) := ⟨h3_⟩; replace BK552 : Aside0 (w137.heap[gb552]? = some (.cells #[.int .i64 a0_0, .slice A0_1 l0_1.length c0_1, .slice A0_2 l0_2.length c0_2] 24 (0, 0))) := ⟨h10_⟩; replace BK553 : Aside0 (w137.heap[gb553]? = some (.cells #[.int .i64 a1_0, .slice A1_1 l1_1.length c1_1, .slice A1_2 l1_2.length c1_2] 24 (0, 0))) := ⟨h11_⟩; replace BK578 : Aside0 (w137.heap[gb578]? = some (.cells #[.int .i64 t570, .slice Ao69 t571.length co69, .slice Ao71 t574.length co71] 27 (0, 0))) := ⟨h12_⟩; replace BK603 : Aside0 (w137.heap[gb603]? = some (.cells #[.int .i64 t595, .slice Ao103 t596.length co103, .slice Ao104 t599.length co104] 27 (0, 0))) := ⟨h13_⟩; replace HB : Aside0 (Below w.heap.size w w137) := ⟨h25_⟩
               clear h0_ h10_ h11_ h12_ h13_ h14_ h15_ h16_ h17_ h18_ h19_ h1_ h20_ h21_ h22_ h23_ h24_ h25_ h2_ h3_ h4_ h5_ h6_ h7_ h8_ h9_
               have hHeld : w137.cell? ⟨gb552, 0, none⟩ = some (.int .i64 a0_0) ∧ w137.cell? ⟨gb552, 1, none⟩ = some (.slice A0_1 l0_1.length c0_1) ∧ w137.cell? ⟨gb552, 2, none⟩ = some (.slice A0_2 l0_2.length c0_2) ∧ w137.cell? ⟨gb553, 0, none⟩ = some (.int .i64 a1_0) ∧ w137.cell? ⟨gb553, 1, none⟩ = some (.slice A1_1 l1_1.length c1_1) ∧ w137.cell? ⟨gb553, 2, none⟩ = some (.slice A1_2 l1_2.length c1_2) := hS_
               obtain ⟨Ao139, co139, eo139⟩ := Kd.R_slice HO649.out
               (first | subst eo139 | (injection eo139 with f1_ f2_ f3_; have f4_ := f1_.symm; have f5_ := f3_.symm; clear f1_ f2_ f3_; subst f4_; subst f5_))
               obtain ⟨Ao141, co141, eo141⟩ := Kd.R_slice HO652.out
               (first | subst eo141 | (injection eo141 with f1_ f2_ f3_; have f4_ := f1_.symm; have f5_ := f3_.symm; clear f1_ f2_ f3_; subst f4_; subst f5_))
               refine norm_ (a' := ?_) ?_ ?_
               rotate_left
               ·
                simp only [putAll, Act.put, List.setIfInBounds_toArray, List.set_cons_zero, List.set_cons_succ]
                rfl
               refine one_ (i := 9) (N := none) #[true, true, true, true, true, true, true, true, true, true, false] rfl rfl (one_of HT_.out (by kernel_rfl)) (by decide) (fun K hK => ?_)
               have hs138 : w137.cell? ⟨gb654, 0, none⟩ = some (.int .i64 0) := zc BK654 0
               have hfs138 := blk_frozen BK654.out 0
               have hns138_0 := NB552_654.out
               have hns138_1 := NB553_654.out
               have hns138_2 := NB578_654.out
               have hns138_3 := NB603_654.out
               have hms138_0 := NB654_552.out
               have hms138_1 := NB654_553.out
               have hms138_2 := NB654_578.out
               have hms138_3 := NB654_603.out
               have hs140 : w137.cell? ⟨gb654, 1, none⟩ = some (.slice none 0 0) := zc BK654 1
               have hfs140 := blk_frozen BK654.out 1
               have hns140_0 := NB552_654.out
               have hns140_1 := NB553_654.out
               have hns140_2 := NB578_654.out
               have hns140_3 := NB603_654.out
               have hms140_0 := NB654_552.out
               have hms140_1 := NB654_553.out
               have hms140_2 := NB654_578.out
               have hms140_3 := NB654_603.out
               have hs142 : w137.cell? ⟨gb654, 2, none⟩ = some (.slice none 0 0) := zc BK654 2
               have hfs142 := blk_frozen BK654.out 2
               have hns142_0 := NB552_654.out
               have hns142_1 := NB553_654.out
               have hns142_2 := NB578_654.out
               have hns142_3 := NB603_654.out
               have hms142_0 := NB654_552.out
               have hms142_1 := NB654_553.out
               have hms142_2 := NB654_578.out
               have hms142_3 := NB654_603.out
               refine skip_ (w1 := ?_) (by rfl) rfl ?_ ?_
               rotate_left
               ·
                go_simp
                rfl
               refine hK.out _ _ ⟨((cell_far (p := ⟨gb654, _, none⟩) NB552_654.out _).trans (((cell_far (p := ⟨gb654, _, none⟩) NB552_654.out _).trans (((cell_far (p := ⟨gb654, _, none⟩) NB552_654.out _).trans (hHeld.1)))))), ((cell_far (p := ⟨gb654, _, none⟩) NB552_654.out _).trans (((cell_far (p := ⟨gb654, _, none⟩) NB552_654.out _).trans (((cell_far (p := ⟨gb654, _, none⟩) NB552_654.out _).trans (hHeld.2.1)))))), ((cell_far (p := ⟨gb654, _, none⟩) NB552_654.out _).trans (((cell_far (p := ⟨gb654, _, none⟩) NB552_654.out _).trans (((cell_far (p := ⟨gb654, _, none⟩) NB552_654.out _).trans (hHeld.2.2.1)))))), ((cell_far (p := ⟨gb654, _, none⟩) NB553_654.out _).trans (((cell_far (p := ⟨gb654, _, none⟩) NB553_654.out _).trans (((cell_far (p := ⟨gb654, _, none⟩) NB553_654.out _).trans (hHeld.2.2.2.1)))))), ((cell_far (p := ⟨gb654, _, none⟩) NB553_654.out _).trans (((cell_far (p := ⟨gb654, _, none⟩) NB553_654.out _).trans (((cell_far (p := ⟨gb654, _, none⟩) NB553_654.out _).trans (hHeld.2.2.2.2.1)))))), ((cell_far (p := ⟨gb654, _, none⟩) NB553_654.out _).trans (((cell_far (p := ⟨gb654, _, none⟩) NB553_654.out _).trans (((cell_far (p := ⟨gb654, _, none⟩) NB553_654.out _).trans (hHeld.2.2.2.2.2))))))⟩ (fun hHeld => ?_)
               clear hK K
               refine zp (i := 10) (N := some 16) #[true, true, true, true, true, true, true, true, true, true, true] (any_of HT_.out (by kernel_rfl)) ?_
               refine done_ (done_of HT_.out (by kernel_rfl)) ?_
               have hnb143 := NB654_552.out
               have hnc143 := NB552_654.out
               have hnb144 := NB654_553.out
               have hnc144 := NB553_654.out
               have hnb145 := NB654_578.out
               have hnc145 := NB578_654.out
               have hnb146 := NB654_603.out
               have hnc146 := NB603_654.out
               have hcz147_0 : w137.cell? ⟨gb654, 0, none⟩ = some (.int .i64 0) := zc BK654 0
               have hcz147_1 : w137.cell? ⟨gb654, 1, none⟩ = some (.slice none 0 0) := zc BK654 1
               have hcz147_2 : w137.cell? ⟨gb654, 2, none⟩ = some (.slice none 0 0) := zc BK654 2
               have hfz147_0 := blk_frozen BK654.out 0
               have hfz147_1 := blk_frozen BK654.out 1
               have hfz147_2 := blk_frozen BK654.out 2
               have hcz148_0 : w137.cell? ⟨gb578, 0, none⟩ = some (.int .i64 t570) := zc BK578 0
               have hcz148_1 : w137.cell? ⟨gb578, 1, none⟩ = some (.slice Ao69 t571.length co69) := zc BK578 1
               have hcz148_2 : w137.cell? ⟨gb578, 2, none⟩ = some (.slice Ao71 t574.length co71) := zc BK578 2
               have hfz148_0 := blk_frozen BK578.out 0
               have hfz148_1 := blk_frozen BK578.out 1
               have hfz148_2 := blk_frozen BK578.out 2
               try go_wp2_with (first | ((with_reducible refine gate_callee (f := 31) rfl ?_); refine goesL_ (some 104) rfl rfl Try.func31 (by kernel_rfl) rfl #[.agg #[.int .i64 t646, .slice Ao139 t647.length co139, .slice Ao141 t650.length co141], .agg #[.int .i64 t570, .slice Ao69 t571.length co69, .slice Ao71 t574.length co71]] rfl zq6 ?_; (with_reducible refine (laws_eqBox.calls k t646 _ _ t647 _ _ t650 t570 _ _ t571 _ _ t574 true _ ?side1 ?side2 ?side3 ?side4 ?side5 ?side6 ?side7 ?side8 A45.out).mono ?_); (case side1 => refine (Kd.R_reads' (e := 3) (base := w.heap.size) (ok := fun k_ => (some k_ ≠ (.slice Ao69 t571.length co69 : Value).ownBlock ∧ (some k_ ≠ (.slice Ao71 t574.length co71 : Value).ownBlock ∧ (some k_ ≠ (.slice Ao103 t596.length co103 : Value).ownBlock ∧ (some k_ ≠ (.slice Ao104 t599.length co104 : Value).ownBlock ∧ (some k_ ≠ (v634 : Value).ownBlock ∧ (some k_ ≠ (v637 : Value).ownBlock ∧ (some k_ ≠ (v641 : Value).ownBlock ∧ (some k_ ≠ (v644 : Value).ownBlock ∧ some k_ ≠ (.slice Ao141 t650.length co141 : Value).ownBlock))))))))) (n := t647.length) (c := co139) ?_).2.2; exact (z3f HO649 BK654 (.int .i64 t646) (.slice Ao139 t647.length co139) (.slice Ao141 t650.length co141))); (case side2 => exact (Kd.R_reads' HO649.out).2.1); (case side3 => refine (Kd.R_reads' (e := 3) (base := w.heap.size) (ok := fun k_ => (some k_ ≠ (.slice Ao69 t571.length co69 : Value).ownBlock ∧ (some k_ ≠ (.slice Ao71 t574.length co71 : Value).ownBlock ∧ (some k_ ≠ (.slice Ao103 t596.length co103 : Value).ownBlock ∧ (some k_ ≠ (.slice Ao104 t599.length co104 : Value).ownBlock ∧ (some k_ ≠ (v634 : Value).ownBlock ∧ (some k_ ≠ (v637 : Value).ownBlock ∧ (some k_ ≠ (v641 : Value).ownBlock ∧ (some k_ ≠ (v644 : Value).ownBlock ∧ some k_ ≠ (.slice Ao139 t647.length co139 : Value).ownBlock))))))))) (n := t650.length) (c := co141) ?_).2.2; exact (z3f HO652 BK654 (.int .i64 t646) (.slice Ao139 t647.length co139) (.slice Ao141 t650.length co141))); (case side4 => exact (Kd.R_reads' HO652.out).2.1); (case side5 => refine (Kd.R_reads' (e := 3) (base := w.heap.size) (ok := fun k_ => (some k_ ≠ (.slice Ao71 t574.length co71 : Value).ownBlock ∧ (some k_ ≠ (.slice Ao103 t596.length co103 : Value).ownBlock ∧ (some k_ ≠ (.slice Ao104 t599.length co104 : Value).ownBlock ∧ (some k_ ≠ (v634 : Value).ownBlock ∧ (some k_ ≠ (v637 : Value).ownBlock ∧ (some k_ ≠ (v641 : Value).ownBlock ∧ (some k_ ≠ (v644 : Value).ownBlock ∧ (some k_ ≠ (.slice Ao139 t647.length co139 : Value).ownBlock ∧ some k_ ≠ (.slice Ao141 t650.length co141 : Value).ownBlock))))))))) (n := t571.length) (c := co69) ?_).2.2; exact (z3f HO573 BK654 (.int .i64 t646) (.slice Ao139 t647.length co139) (.slice Ao141 t650.length co141))); (case side6 => exact (Kd.R_reads' HO573.out).2.1); (case side7 => refine (Kd.R_reads' (e := 3) (base := w.heap.size) (ok := fun k_ => (some k_ ≠ (.slice Ao69 t571.length co69 : Value).ownBlock ∧ (some k_ ≠ (.slice Ao103 t596.length co103 : Value).ownBlock ∧ (some k_ ≠ (.slice Ao104 t599.length co104 : Value).ownBlock ∧ (some k_ ≠ (v634 : Value).ownBlock ∧ (some k_ ≠ (v637 : Value).ownBlock ∧ (some k_ ≠ (v641 : Value).ownBlock ∧ (some k_ ≠ (v644 : Value).ownBlock ∧ (some k_ ≠ (.slice Ao139 t647.length co139 : Value).ownBlock ∧ some k_ ≠ (.slice Ao141 t650.length co141 : Value).ownBlock))))))))) (n := t574.length) (c := co71) ?_).2.2; exact (z3f HO576 BK654 (.int .i64 t646) (.slice Ao139 t647.length co139) (.slice Ao141 t650.length co141))); (case side8 => exact (Kd.R_reads' HO576.out).2.1); rintro e w149 ⟨rfl, hb⟩; refine ⟨_, rfl, ?_⟩; replace HO573 := Aside0.mk (Kd.R_below (z3f HO573 BK654 (.int .i64 t646) (.slice Ao139 t647.length co139) (.slice Ao141 t650.length co141)) hb); replace HO576 := Aside0.mk (Kd.R_below (z3f HO576 BK654 (.int .i64 t646) (.slice Ao139 t647.length co139) (.slice Ao141 t650.length co141)) hb); replace HO598 := Aside0.mk (Kd.R_below (z3f HO598 BK654 (.int .i64 t646) (.slice Ao139 t647.length co139) (.slice Ao141 t650.length co141)) hb); replace HO601 := Aside0.mk (Kd.R_below (z3f HO601 BK654 (.int .i64 t646) (.slice Ao139 t647.length co139) (.slice Ao141 t650.length co141)) hb); replace HO635 := Aside0.mk (Kd.R_below (z3f HO635 BK654 (.int .i64 t646) (.slice Ao139 t647.length co139) (.slice Ao141 t650.length co141)) hb); replace HO638 := Aside0.mk (Kd.R_below (z3f HO638 BK654 (.int .i64 t646) (.slice Ao139 t647.length co139) (.slice Ao141 t650.length co141)) hb); replace HO642 := Aside0.mk (Kd.R_below (z3f HO642 BK654 (.int .i64 t646) (.slice Ao139 t647.length co139) (.slice Ao141 t650.length co141)) hb); replace HO645 := Aside0.mk (Kd.R_below (z3f HO645 BK654 (.int .i64 t646) (.slice Ao139 t647.length co139) (.slice Ao141 t650.length co141)) hb); replace HO649 := Aside0.mk (Kd.R_below (z3f HO649 BK654 (.int .i64 t646) (.slice Ao139 t647.length co139) (.slice Ao141 t650.length co141)) hb); replace HO652 := Aside0.mk (Kd.R_below (z3f HO652 BK654 (.int .i64 t646) (.slice Ao139 t647.length co139) (.slice Ao141 t650.length co141)) hb); replace BK552 := Aside0.mk (blk_below (g := gb552) (o := .cells #[.int .i64 a0_0, .slice A0_1 l0_1.length c0_1, .slice A0_2 l0_2.length c0_2] 24 (0, 0)) (zq5 BK552) hb); replace BK553 := Aside0.mk (blk_below (g := gb553) (o := .cells #[.int .i64 a1_0, .slice A1_1 l1_1.length c1_1, .slice A1_2 l1_2.length c1_2] 24 (0, 0)) (zq5 BK553) hb); replace BK578 := Aside0.mk (blk_below (g := gb578) (o := .cells #[.int .i64 t570, .slice Ao69 t571.length co69, .slice Ao71 t574.length co71] 27 (0, 0)) (zq5 BK578) hb); replace BK603 := Aside0.mk (blk_below (g := gb603) (o := .cells #[.int .i64 t595, .slice Ao103 t596.length co103, .slice Ao104 t599.length co104] 27 (0, 0)) (zq5 BK603) hb); replace BK654 := Aside0.mk (blk_below (g := gb654) (o := .cells #[.int .i64 t646, .slice Ao139 t647.length co139, .slice Ao141 t650.length co141] 27 (0, 0)) (by (with_reducible repeat (first | refine blk_drewN ?_ _ | refine blk_drew ?_ | refine blk_alloc ?_ _)); refine blk_put (cs := #[.int .i64 t646, .slice Ao139 t647.length co139, .slice none 0 0]) ?_ 2 _ rfl; (with_reducible repeat (first | refine blk_drewN ?_ _ | refine blk_drew ?_ | refine blk_alloc ?_ _)); refine blk_put (cs := #[.int .i64 t646, .slice none 0 0, .slice none 0 0]) ?_ 1 _ rfl; (with_reducible repeat (first | refine blk_drewN ?_ _ | refine blk_drew ?_ | refine blk_alloc ?_ _)); refine blk_put (cs := #[.int .i64 0, .slice none 0 0, .slice none 0 0]) ?_ 0 _ rfl; (with_reducible repeat (first | refine blk_drewN ?_ _ | refine blk_drew ?_ | refine blk_alloc ?_ _)); exact BK654.out) hb); replace HB := Aside0.mk (below_step (zb1 HB) hb); (try clear hb); (try clear hb2); (try clear hk); (try clear hi); have hcz150_0 : w149.cell? ⟨gb603, 0, none⟩ = some (.int .i64 t595) := zc BK603 0; have hcz150_1 : w149.cell? ⟨gb603, 1, none⟩ = some (.slice Ao103 t596.length co103) := zc BK603 1; have hcz150_2 : w149.cell? ⟨gb603, 2, none⟩ = some (.slice Ao104 t599.length co104) := zc BK603 2; have hfz150_0 := blk_frozen BK603.out 0; have hfz150_1 := blk_frozen BK603.out 1; have hfz150_2 := blk_frozen BK603.out 2) | ((with_reducible refine gate_callee (f := 35) rfl ?_); refine goesL_ (some 113) rfl rfl Try.func35 (by kernel_rfl) rfl #[.agg #[.int .i64 t595, .slice Ao103 t629.length co103, .slice Ao104 t630.length co104], .int .i64 101] rfl (by (try simp only [List.map_toArray, List.map_cons, List.map_nil]); first | done | (rw [show t629.length = t596.length from (Kd.R_reads' HO598.out).1.symm, show t630.length = t599.length from (Kd.R_reads' HO601.out).1.symm] <;> rfl) | rfl | (simp only [List.length_drop, List.length_take]; rfl)) ?_; (with_reducible refine (laws_heldBox.calls k t595 _ _ t629 _ _ t630 101 t656 _ ?side1 ?side2 ?side3 ?side4 A48.out).mono ?_); (case side1 => exact zcr HO598); (case side2 => rw [show t629.length = t596.length from (Kd.R_reads' HO598.out).1.symm]; exact (Kd.R_reads' HO598.out).2.1); (case side3 => exact zcr HO601); (case side4 => rw [show t630.length = t599.length from (Kd.R_reads' HO601.out).1.symm]; exact (Kd.R_reads' HO601.out).2.1); rintro e w151 ⟨rfl, hb⟩; refine ⟨_, rfl, ?_⟩; replace HO598 := Aside0.mk (Kd.R_below (zq3 HO598) hb); replace HO601 := Aside0.mk (Kd.R_below (zq3 HO601) hb); replace HB := Aside0.mk (below_step (zb0 HB) hb); (try clear hb); (try clear hb2); (try clear hk); (try clear hi)))
               go_ret
               exact ⟨by first | rfl | (simp [errW_none, errW_some] <;> rfl) | (simp [*, errW_none, errW_some] <;> rfl), (zb0 HB)⟩
              ·
               rw [if_neg c50] at H
               exact absurd H (by simp)
           ·
            replace c46 := Bool.eq_false_iff.mpr c46
            subst c46
            have H1 : (none) = some r := by rw [if_neg (show ¬ (false = true) by decide)] at H; exact H
            clear H
            have H := H1
            clear H1
            exact absurd H (by simp)
          ·
           rw [if_neg c41] at H
           exact absurd H (by simp)
        ·
         replace c37 := Bool.eq_false_iff.mpr c37
         subst c37
         have H1 : (none) = some r := by rw [if_neg (show ¬ (false = true) by decide)] at H; exact H
         clear H
         have H := H1
         clear H1
         exact absurd H (by simp)
      ·
       replace c32 := Bool.eq_false_iff.mpr c32
       subst c32
       have H1 : (none) = some r := by rw [if_neg (show ¬ (false = true) by decide)] at H; exact H
       clear H
       have H := H1
       clear H1
       exact absurd H (by simp)
     ·
      replace c29 := Bool.eq_false_iff.mpr c29
      subst c29
      have H1 : (none) = some r := by rw [if_neg (show ¬ (false = true) by decide)] at H; exact H
      clear H
      have H := H1
      clear H1
      exact absurd H (by simp)
   ·
    replace c25 := Bool.eq_false_iff.mpr c25
    subst c25
    have H1 : (none) = some r := by rw [if_neg (show ¬ (false = true) by decide)] at H; exact H
    clear H
    have H := H1
    clear H1
    exact absurd H (by simp)
end Go.Proofs.Ytgaoniapddpaaaa.PD
