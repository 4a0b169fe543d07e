-- By wip/mk/drv.py
import Derived.Test.YtgaoniapddpaaaaQIsBodePDx0
import Derived.Test.YtgaoniapddpaaaaQIsBodePDx1
import Derived.Test.YtgaoniapddpaaaaQIsBodePDx2
import Derived.Test.YtgaoniapddpaaaaQIsBodePDx8
import Derived.Test.YtgaoniapddpaaaaQIsBodePDx11
import Derived.Test.YtgaoniapddpaaaaQIsBodePDx39
import Derived.Test.YtgaoniapddpaaaaQIsBodePDx41
namespace Go.Proofs.Ytgaoniapddpaaaa.PD
open Go.RowKit Go.Proofs.YtgaoniapddpaaaaW.PrintWords Go.Proofs.YtgaoniapddpaaaaW.PrintLast Go.Proofs.YtgaoniapddpaaaaW.PrintMore
attribute [local go_sem] max2_int min2_int max_two min_two max_three min_three max_four min_four
set_option linter.unusedVariables false
set_option linter.unusedSimpArgs false
/-! ### laws_FnExactIsBoxInside: function 5 -/
def laws_FnExactIsBoxInside.T8 : Bool × List (List Nat × List Nat) := (true, [([], []), ([0], [0]), ([], []), ([2, 1], [2]), ([1, 3, 3], [1, 3]), ([4], [4]), ([5], [5]), ([5], [5]), ([6, 4, 0, 1, 2, 3, 4, 5, 6], [6]), ([7, 8, 0, 1, 2, 3, 4, 5, 6, 7, 8], [7])])
def laws_FnExactIsBoxInside.B8 : List Nat := [0, 1, 0, 7, 15, 31, 63, 63, 127, 511]
theorem laws_FnExactIsBoxInside.tab8 : rtab .any (opsOf Try.f5 8) = laws_FnExactIsBoxInside.T8 := by kernel_rfl
theorem laws_FnExactIsBoxInside.bits8 : waitsOk laws_FnExactIsBoxInside.T8.2 laws_FnExactIsBoxInside.B8 = true := by kernel_rfl
def laws_FnExactIsBoxInside.T18 : Bool × List (List Nat × List Nat) := (true, [([], []), ([0], [0]), ([], []), ([2, 1], [2]), ([1, 3, 3], [1, 3]), ([4], [4]), ([5], [5]), ([5], [5]), ([6, 4, 0, 1, 2, 3, 4, 5, 6], [6]), ([7, 8, 0, 1, 2, 3, 4, 5, 6, 7, 8], [7])])
def laws_FnExactIsBoxInside.B18 : List Nat := [0, 1, 0, 7, 15, 31, 63, 63, 127, 511]
theorem laws_FnExactIsBoxInside.tab18 : rtab .any (opsOf Try.f5 18) = laws_FnExactIsBoxInside.T18 := by kernel_rfl
theorem laws_FnExactIsBoxInside.bits18 : waitsOk laws_FnExactIsBoxInside.T18.2 laws_FnExactIsBoxInside.B18 = true := by kernel_rfl
set_option maxHeartbeats 8000000 in
set_option maxRecDepth 100000 in
theorem laws_FnExactIsBoxInside.calls (k : Nat) (a0_0 : Int) (A0_1 : Option Addr) (c0_1 : Nat) (l0_1 : List Int) (A0_2 : Option Addr) (c0_2 : Nat) (l0_2 : List Int) (a1_0 : Int) (A1_1 : Option Addr) (c1_1 : Nat) (l1_1 : List Int) (A1_2 : Option Addr) (c1_2 : Nat) (l1_2 : List Int) (r : Bool) (w : World) (hr0_1 : Kd.C (Kd.int .i64) w A0_1 l0_1.length l0_1) (hc0_1 : l0_1.length ≤ c0_1) (hr0_2 : Kd.C (Kd.int .i64) w A0_2 l0_2.length l0_2) (hc0_2 : l0_2.length ≤ c0_2) (hr1_1 : Kd.C (Kd.int .i64) w A1_1 l1_1.length l1_1) (hc1_1 : l1_1.length ≤ c1_1) (hr1_2 : Kd.C (Kd.int .i64) w A1_2 l1_2.length l1_2) (hc1_2 : l1_2.length ≤ c1_2) (h : laws_FnExactIsBoxInside.f k a0_0 l0_1 l0_2 a1_0 l1_1 l1_2 = some r) :
  Calls Try.prog 5 #[.agg #[.int .i64 a0_0, .slice A0_1 l0_1.length c0_1, .slice A0_2 l0_2.length c0_2], .agg #[.int .i64 a1_0, .slice A1_1 l1_1.length c1_1, .slice A1_2 l1_2.length c1_2]] w fun e w' => e = .returned (.bool r) ∧ Below w.heap.size w w' := by
 have hu24 := Try.underlying24
 have hu27 := Try.underlying27
 have HR0_1 := Aside0.mk hr0_1
 have HC0_1 := Aside0.mk hc0_1
 clear hr0_1 hc0_1
 have HR0_2 := Aside0.mk hr0_2
 have HC0_2 := Aside0.mk hc0_2
 clear hr0_2 hc0_2
 have HR1_1 := Aside0.mk hr1_1
 have HC1_1 := Aside0.mk hc1_1
 clear hr1_1 hc1_1
 have HR1_2 := Aside0.mk hr1_2
 have HC1_2 := Aside0.mk hc1_2
 clear hr1_2 hc1_2
 have HB := Aside0.mk (Below.refl w.heap.size w)
 have H : ((laws_szBox.f a0_0 l0_1 l0_2 1000000).bind fun t544 => (if t544 < 0 then (some true) else ((laws_szBox.f a1_0 l1_1 l1_2 t544).bind fun t545 => (if t545 < 0 then (some true) else ((laws_toBox.f k a0_0 l0_1 l0_2 false).bind fun bt546 => ((laws_toBox.f k a1_0 l1_1 l1_2 false).bind fun bt553 => ((spec_IsBoxInside.f k bt546.1 bt546.2.1 bt546.2.2 bt553.1 bt553.2.1 bt553.2.2).bind fun bt560 => ((laws_toBox.f k a0_0 l0_1 l0_2 false).bind fun bt562 => ((laws_toBox.f k a1_0 l1_1 l1_2 false).bind fun bt570 => ((impl_IsBoxInside.f k bt562.1 bt562.2.1 bt562.2.2 bt570.1 bt570.2.1 bt570.2.2).bind fun bt578 => (if (bt578.1 != bt560.1) = true then (none) else (if (bt578.2 != bt560.2) = true then (none) else ((laws_toBox.f k a0_0 l0_1 l0_2 false).bind fun bt580 => ((laws_intactBox.f bt562.1 bt562.2.1 bt562.2.2 bt580.1 bt580.2.1 bt580.2.2).bind fun t587 => (if t587 = true then ((laws_toBox.f k a1_0 l1_1 l1_2 false).bind fun bt588 => ((laws_intactBox.f bt570.1 bt570.2.1 bt570.2.2 bt588.1 bt588.2.1 bt588.2.2).bind fun t595 => (if t595 = true then ((laws_toBox.f k a0_0 l0_1 l0_2 true).bind fun bt596 => ((laws_toBox.f k a1_0 l1_1 l1_2 true).bind fun bt603 => ((impl_IsBoxInside.f k bt596.1 bt596.2.1 bt596.2.2 bt603.1 bt603.2.1 bt603.2.2).bind fun bt610 => (if (bt610.1 != bt560.1) = true then (none) else (if (bt610.2 != bt560.2) = true then (none) else (some true)))))) else (none)))) else (none)))))))))))))))) = some r := h
 clear h
 replace H := Option.bind_eq_some_iff.mp H
 obtain ⟨t544, A30, H⟩ := H
 replace H : (if t544 < 0 then (some true) else ((laws_szBox.f a1_0 l1_1 l1_2 t544).bind fun t545 => (if t545 < 0 then (some true) else ((laws_toBox.f k a0_0 l0_1 l0_2 false).bind fun bt546 => ((laws_toBox.f k a1_0 l1_1 l1_2 false).bind fun bt553 => ((spec_IsBoxInside.f k bt546.1 bt546.2.1 bt546.2.2 bt553.1 bt553.2.1 bt553.2.2).bind fun bt560 => ((laws_toBox.f k a0_0 l0_1 l0_2 false).bind fun bt562 => ((laws_toBox.f k a1_0 l1_1 l1_2 false).bind fun bt570 => ((impl_IsBoxInside.f k bt562.1 bt562.2.1 bt562.2.2 bt570.1 bt570.2.1 bt570.2.2).bind fun bt578 => (if (bt578.1 != bt560.1) = true then (none) else (if (bt578.2 != bt560.2) = true then (none) else ((laws_toBox.f k a0_0 l0_1 l0_2 false).bind fun bt580 => ((laws_intactBox.f bt562.1 bt562.2.1 bt562.2.2 bt580.1 bt580.2.1 bt580.2.2).bind fun t587 => (if t587 = true then ((laws_toBox.f k a1_0 l1_1 l1_2 false).bind fun bt588 => ((laws_intactBox.f bt570.1 bt570.2.1 bt570.2.2 bt588.1 bt588.2.1 bt588.2.2).bind fun t595 => (if t595 = true then ((laws_toBox.f k a0_0 l0_1 l0_2 true).bind fun bt596 => ((laws_toBox.f k a1_0 l1_1 l1_2 true).bind fun bt603 => ((impl_IsBoxInside.f k bt596.1 bt596.2.1 bt596.2.2 bt603.1 bt603.2.1 bt603.2.2).bind fun bt610 => (if (bt610.1 != bt560.1) = true then (none) else (if (bt610.2 != bt560.2) = true then (none) else (some true)))))) else (none)))) else (none))))))))))))))) = some r := H
 have A3 := Aside0.mk A30
 clear A30
 by_cases c4 : t544 < 0
 ·
  rw [if_pos c4] at H
  have c4b0 : decide (t544 < 0) = true := decide_eq_true c4
  clear c4
  obtain rfl := Option.some.inj H
  go_enter Try.func5, Try.ntmps5
  go_wp2_with (first | ((with_reducible refine gate_dst (N := 2) rfl ?_); refine zbe (N := 2) (cs := #[.int .i64 a0_0, .slice A0_1 l0_1.length c0_1, .slice A0_2 l0_2.length c0_2]) (t := 24) ?_; intro gb542 hg w5 hbox hb; have BK542 := Aside0.mk (hbox); have GW542 := Aside0.mk (zge (zb0 HB) hg); have GE542 := GW542; replace HB := Aside0.mk (below_step (zb0 HB) hb); clear hb hbox hg) | ((with_reducible refine gate_dst (N := 3) rfl ?_); refine zbe (N := 3) (cs := #[.int .i64 a1_0, .slice A1_1 l1_1.length c1_1, .slice A1_2 l1_2.length c1_2]) (t := 24) ?_; intro gb543 hg w6 hbox hb; have BK543 := Aside0.mk (hbox); have GW543 := Aside0.mk (zge (zb1 HB) hg); have GE543 := GW543; have NB542_543 := Aside0.mk (zlt BK542 hg); have NB543_542 := Aside0.mk (zgt BK542 hg); replace BK542 := Aside0.mk (zbb BK542 hb); replace HB := Aside0.mk (below_step (zb1 HB) hb); clear hb hbox hg; have hnb7 := NB542_543.out; have hnc7 := NB543_542.out; have hcz8_0 : w6.cell? ⟨gb542, 0, none⟩ = some (.int .i64 a0_0) := zc BK542 0; have hcz8_1 : w6.cell? ⟨gb542, 1, none⟩ = some (.slice A0_1 l0_1.length c0_1) := zc BK542 1; have hcz8_2 : w6.cell? ⟨gb542, 2, none⟩ = some (.slice A0_2 l0_2.length c0_2) := zc BK542 2; have hfz8_0 := blk_frozen BK542.out 0; have hfz8_1 := blk_frozen BK542.out 1; have hfz8_2 := blk_frozen BK542.out 2) | ((with_reducible refine gate_callee (f := 14) rfl ?_); refine goesL_ (some 16) rfl rfl Try.func14 (by kernel_rfl) rfl #[.agg #[.int .i64 a0_0, .slice A0_1 l0_1.length c0_1, .slice A0_2 l0_2.length c0_2], .int .i64 1000000] rfl zq6 ?_; (with_reducible refine (laws_szBox.calls a0_0 _ _ l0_1 _ _ l0_2 1000000 t544 _ ?side1 ?side2 ?side3 ?side4 A3.out).mono ?_); (case side1 => repeat (first | exact (Kd.C_below HR0_1.out HB.out) | (with_reducible refine Kd.C_alloc ?_ _) | (with_reducible refine Kd.C_drewN ?_ _) | (with_reducible refine Kd.C_drew ?_))); (case side2 => exact HC0_1.out); (case side3 => repeat (first | exact (Kd.C_below HR0_2.out HB.out) | (with_reducible refine Kd.C_alloc ?_ _) | (with_reducible refine Kd.C_drewN ?_ _) | (with_reducible refine Kd.C_drew ?_))); (case side4 => exact HC0_2.out); rintro e w9 ⟨rfl, hb⟩; refine ⟨_, rfl, ?_⟩; replace BK542 := Aside0.mk (zbb BK542 hb); replace BK543 := Aside0.mk (zbb BK543 hb); replace HB := Aside0.mk (below_step (zb1 HB) hb); (try clear hb); (try clear hb2); (try clear hk); (try clear hi)))
  go_ret
  exact ⟨by first | rfl | (simp [errW_none, errW_some] <;> rfl) | (simp [*, errW_none, errW_some] <;> rfl), (zb1 HB)⟩
 ·
  rw [if_neg c4] at H
  have c4b0 : decide (t544 < 0) = false := decide_eq_false c4
  clear c4
  replace H := Option.bind_eq_some_iff.mp H
  obtain ⟨t545, A100, H⟩ := H
  replace H : (if t545 < 0 then (some true) else ((laws_toBox.f k a0_0 l0_1 l0_2 false).bind fun bt546 => ((laws_toBox.f k a1_0 l1_1 l1_2 false).bind fun bt553 => ((spec_IsBoxInside.f k bt546.1 bt546.2.1 bt546.2.2 bt553.1 bt553.2.1 bt553.2.2).bind fun bt560 => ((laws_toBox.f k a0_0 l0_1 l0_2 false).bind fun bt562 => ((laws_toBox.f k a1_0 l1_1 l1_2 false).bind fun bt570 => ((impl_IsBoxInside.f k bt562.1 bt562.2.1 bt562.2.2 bt570.1 bt570.2.1 bt570.2.2).bind fun bt578 => (if (bt578.1 != bt560.1) = true then (none) else (if (bt578.2 != bt560.2) = true then (none) else ((laws_toBox.f k a0_0 l0_1 l0_2 false).bind fun bt580 => ((laws_intactBox.f bt562.1 bt562.2.1 bt562.2.2 bt580.1 bt580.2.1 bt580.2.2).bind fun t587 => (if t587 = true then ((laws_toBox.f k a1_0 l1_1 l1_2 false).bind fun bt588 => ((laws_intactBox.f bt570.1 bt570.2.1 bt570.2.2 bt588.1 bt588.2.1 bt588.2.2).bind fun t595 => (if t595 = true then ((laws_toBox.f k a0_0 l0_1 l0_2 true).bind fun bt596 => ((laws_toBox.f k a1_0 l1_1 l1_2 true).bind fun bt603 => ((impl_IsBoxInside.f k bt596.1 bt596.2.1 bt596.2.2 bt603.1 bt603.2.1 bt603.2.2).bind fun bt610 => (if (bt610.1 != bt560.1) = true then (none) else (if (bt610.2 != bt560.2) = true then (none) else (some true)))))) else (none)))) else (none))))))))))))) = some r := H
  have A10 := Aside0.mk A100
  clear A100
  by_cases c11 : t545 < 0
  ·
   rw [if_pos c11] at H
   have c11b0 : decide (t545 < 0) = true := decide_eq_true c11
   clear c11
   obtain rfl := Option.some.inj H
   go_enter Try.func5, Try.ntmps5
   go_wp2_with (first | ((with_reducible refine gate_dst (N := 2) rfl ?_); refine zbe (N := 2) (cs := #[.int .i64 a0_0, .slice A0_1 l0_1.length c0_1, .slice A0_2 l0_2.length c0_2]) (t := 24) ?_; intro gb542 hg w12 hbox hb; have BK542 := Aside0.mk (hbox); have GW542 := Aside0.mk (zge (zb0 HB) hg); have GE542 := GW542; replace HB := Aside0.mk (below_step (zb0 HB) hb); clear hb hbox hg) | ((with_reducible refine gate_dst (N := 3) rfl ?_); refine zbe (N := 3) (cs := #[.int .i64 a1_0, .slice A1_1 l1_1.length c1_1, .slice A1_2 l1_2.length c1_2]) (t := 24) ?_; intro gb543 hg w13 hbox hb; have BK543 := Aside0.mk (hbox); have GW543 := Aside0.mk (zge (zb1 HB) hg); have GE543 := GW543; have NB542_543 := Aside0.mk (zlt BK542 hg); have NB543_542 := Aside0.mk (zgt BK542 hg); replace BK542 := Aside0.mk (zbb BK542 hb); replace HB := Aside0.mk (below_step (zb1 HB) hb); clear hb hbox hg; have hnb14 := NB542_543.out; have hnc14 := NB543_542.out; have hcz15_0 : w13.cell? ⟨gb542, 0, none⟩ = some (.int .i64 a0_0) := zc BK542 0; have hcz15_1 : w13.cell? ⟨gb542, 1, none⟩ = some (.slice A0_1 l0_1.length c0_1) := zc BK542 1; have hcz15_2 : w13.cell? ⟨gb542, 2, none⟩ = some (.slice A0_2 l0_2.length c0_2) := zc BK542 2; have hfz15_0 := blk_frozen BK542.out 0; have hfz15_1 := blk_frozen BK542.out 1; have hfz15_2 := blk_frozen BK542.out 2) | ((with_reducible refine gate_callee (f := 14) rfl ?_); refine goesL_ (some 16) rfl rfl Try.func14 (by kernel_rfl) rfl #[.agg #[.int .i64 a0_0, .slice A0_1 l0_1.length c0_1, .slice A0_2 l0_2.length c0_2], .int .i64 1000000] rfl zq6 ?_; (with_reducible refine (laws_szBox.calls a0_0 _ _ l0_1 _ _ l0_2 1000000 t544 _ ?side1 ?side2 ?side3 ?side4 A3.out).mono ?_); (case side1 => repeat (first | exact (Kd.C_below HR0_1.out HB.out) | (with_reducible refine Kd.C_alloc ?_ _) | (with_reducible refine Kd.C_drewN ?_ _) | (with_reducible refine Kd.C_drew ?_))); (case side2 => exact HC0_1.out); (case side3 => repeat (first | exact (Kd.C_below HR0_2.out HB.out) | (with_reducible refine Kd.C_alloc ?_ _) | (with_reducible refine Kd.C_drewN ?_ _) | (with_reducible refine Kd.C_drew ?_))); (case side4 => exact HC0_2.out); rintro e w16 ⟨rfl, hb⟩; refine ⟨_, rfl, ?_⟩; replace BK542 := Aside0.mk (zbb BK542 hb); replace BK543 := Aside0.mk (zbb BK543 hb); replace HB := Aside0.mk (below_step (zb1 HB) hb); (try clear hb); (try clear hb2); (try clear hk); (try clear hi); have hcz17_0 : w16.cell? ⟨gb543, 0, none⟩ = some (.int .i64 a1_0) := zc BK543 0; have hcz17_1 : w16.cell? ⟨gb543, 1, none⟩ = some (.slice A1_1 l1_1.length c1_1) := zc BK543 1; have hcz17_2 : w16.cell? ⟨gb543, 2, none⟩ = some (.slice A1_2 l1_2.length c1_2) := zc BK543 2; have hfz17_0 := blk_frozen BK543.out 0; have hfz17_1 := blk_frozen BK543.out 1; have hfz17_2 := blk_frozen BK543.out 2) | ((with_reducible refine gate_callee (f := 14) rfl ?_); refine goesL_ (some 21) rfl rfl Try.func14 (by kernel_rfl) rfl #[.agg #[.int .i64 a1_0, .slice A1_1 l1_1.length c1_1, .slice A1_2 l1_2.length c1_2], .int .i64 t544] rfl zq6 ?_; (with_reducible refine (laws_szBox.calls a1_0 _ _ l1_1 _ _ l1_2 t544 t545 _ ?side1 ?side2 ?side3 ?side4 A10.out).mono ?_); (case side1 => repeat (first | exact (Kd.C_below HR1_1.out HB.out) | (with_reducible refine Kd.C_alloc ?_ _) | (with_reducible refine Kd.C_drewN ?_ _) | (with_reducible refine Kd.C_drew ?_))); (case side2 => exact HC1_1.out); (case side3 => repeat (first | exact (Kd.C_below HR1_2.out HB.out) | (with_reducible refine Kd.C_alloc ?_ _) | (with_reducible refine Kd.C_drewN ?_ _) | (with_reducible refine Kd.C_drew ?_))); (case side4 => exact HC1_2.out); rintro e w18 ⟨rfl, hb⟩; refine ⟨_, rfl, ?_⟩; replace BK542 := Aside0.mk (zbb BK542 hb); replace BK543 := Aside0.mk (zbb BK543 hb); replace HB := Aside0.mk (below_step (zb1 HB) hb); (try clear hb); (try clear hb2); (try clear hk); (try clear hi)))
   go_ret
   exact ⟨by first | rfl | (simp [errW_none, errW_some] <;> rfl) | (simp [*, errW_none, errW_some] <;> rfl), (zb1 HB)⟩
  ·
   rw [if_neg c11] at H
   have c11b0 : decide (t545 < 0) = false := decide_eq_false c11
   clear c11
   replace H := Option.bind_eq_some_iff.mp H
   obtain ⟨⟨t546, t547, t550⟩, A190, H⟩ := H
   replace H : ((laws_toBox.f k a1_0 l1_1 l1_2 false).bind fun bt553 => ((spec_IsBoxInside.f k t546 t547 t550 bt553.1 bt553.2.1 bt553.2.2).bind fun bt560 => ((laws_toBox.f k a0_0 l0_1 l0_2 false).bind fun bt562 => ((laws_toBox.f k a1_0 l1_1 l1_2 false).bind fun bt570 => ((impl_IsBoxInside.f k bt562.1 bt562.2.1 bt562.2.2 bt570.1 bt570.2.1 bt570.2.2).bind fun bt578 => (if (bt578.1 != bt560.1) = true then (none) else (if (bt578.2 != bt560.2) = true then (none) else ((laws_toBox.f k a0_0 l0_1 l0_2 false).bind fun bt580 => ((laws_intactBox.f bt562.1 bt562.2.1 bt562.2.2 bt580.1 bt580.2.1 bt580.2.2).bind fun t587 => (if t587 = true then ((laws_toBox.f k a1_0 l1_1 l1_2 false).bind fun bt588 => ((laws_intactBox.f bt570.1 bt570.2.1 bt570.2.2 bt588.1 bt588.2.1 bt588.2.2).bind fun t595 => (if t595 = true then ((laws_toBox.f k a0_0 l0_1 l0_2 true).bind fun bt596 => ((laws_toBox.f k a1_0 l1_1 l1_2 true).bind fun bt603 => ((impl_IsBoxInside.f k bt596.1 bt596.2.1 bt596.2.2 bt603.1 bt603.2.1 bt603.2.2).bind fun bt610 => (if (bt610.1 != bt560.1) = true then (none) else (if (bt610.2 != bt560.2) = true then (none) else (some true)))))) else (none)))) else (none))))))))))) = some r := H
   have A19 := Aside0.mk A190
   clear A190
   replace H := Option.bind_eq_some_iff.mp H
   obtain ⟨⟨t553, t554, t557⟩, A200, H⟩ := H
   replace H : ((spec_IsBoxInside.f k t546 t547 t550 t553 t554 t557).bind fun bt560 => ((laws_toBox.f k a0_0 l0_1 l0_2 false).bind fun bt562 => ((laws_toBox.f k a1_0 l1_1 l1_2 false).bind fun bt570 => ((impl_IsBoxInside.f k bt562.1 bt562.2.1 bt562.2.2 bt570.1 bt570.2.1 bt570.2.2).bind fun bt578 => (if (bt578.1 != bt560.1) = true then (none) else (if (bt578.2 != bt560.2) = true then (none) else ((laws_toBox.f k a0_0 l0_1 l0_2 false).bind fun bt580 => ((laws_intactBox.f bt562.1 bt562.2.1 bt562.2.2 bt580.1 bt580.2.1 bt580.2.2).bind fun t587 => (if t587 = true then ((laws_toBox.f k a1_0 l1_1 l1_2 false).bind fun bt588 => ((laws_intactBox.f bt570.1 bt570.2.1 bt570.2.2 bt588.1 bt588.2.1 bt588.2.2).bind fun t595 => (if t595 = true then ((laws_toBox.f k a0_0 l0_1 l0_2 true).bind fun bt596 => ((laws_toBox.f k a1_0 l1_1 l1_2 true).bind fun bt603 => ((impl_IsBoxInside.f k bt596.1 bt596.2.1 bt596.2.2 bt603.1 bt603.2.1 bt603.2.2).bind fun bt610 => (if (bt610.1 != bt560.1) = true then (none) else (if (bt610.2 != bt560.2) = true then (none) else (some true)))))) else (none)))) else (none)))))))))) = some r := H
   have A20 := Aside0.mk A200
   clear A200
   replace H := Option.bind_eq_some_iff.mp H
   obtain ⟨⟨t560, t561⟩, A210, H⟩ := H
   replace H : ((laws_toBox.f k a0_0 l0_1 l0_2 false).bind fun bt562 => ((laws_toBox.f k a1_0 l1_1 l1_2 false).bind fun bt570 => ((impl_IsBoxInside.f k bt562.1 bt562.2.1 bt562.2.2 bt570.1 bt570.2.1 bt570.2.2).bind fun bt578 => (if (bt578.1 != t560) = true then (none) else (if (bt578.2 != t561) = true then (none) else ((laws_toBox.f k a0_0 l0_1 l0_2 false).bind fun bt580 => ((laws_intactBox.f bt562.1 bt562.2.1 bt562.2.2 bt580.1 bt580.2.1 bt580.2.2).bind fun t587 => (if t587 = true then ((laws_toBox.f k a1_0 l1_1 l1_2 false).bind fun bt588 => ((laws_intactBox.f bt570.1 bt570.2.1 bt570.2.2 bt588.1 bt588.2.1 bt588.2.2).bind fun t595 => (if t595 = true then ((laws_toBox.f k a0_0 l0_1 l0_2 true).bind fun bt596 => ((laws_toBox.f k a1_0 l1_1 l1_2 true).bind fun bt603 => ((impl_IsBoxInside.f k bt596.1 bt596.2.1 bt596.2.2 bt603.1 bt603.2.1 bt603.2.2).bind fun bt610 => (if (bt610.1 != t560) = true then (none) else (if (bt610.2 != t561) = true then (none) else (some true)))))) else (none)))) else (none))))))))) = some r := H
   have A21 := Aside0.mk A210
   clear A210
   replace H := Option.bind_eq_some_iff.mp H
   obtain ⟨⟨t562, t563, t566⟩, A220, H⟩ := H
   replace H : ((laws_toBox.f k a1_0 l1_1 l1_2 false).bind fun bt570 => ((impl_IsBoxInside.f k t562 t563 t566 bt570.1 bt570.2.1 bt570.2.2).bind fun bt578 => (if (bt578.1 != t560) = true then (none) else (if (bt578.2 != t561) = true then (none) else ((laws_toBox.f k a0_0 l0_1 l0_2 false).bind fun bt580 => ((laws_intactBox.f t562 t563 t566 bt580.1 bt580.2.1 bt580.2.2).bind fun t587 => (if t587 = true then ((laws_toBox.f k a1_0 l1_1 l1_2 false).bind fun bt588 => ((laws_intactBox.f bt570.1 bt570.2.1 bt570.2.2 bt588.1 bt588.2.1 bt588.2.2).bind fun t595 => (if t595 = true then ((laws_toBox.f k a0_0 l0_1 l0_2 true).bind fun bt596 => ((laws_toBox.f k a1_0 l1_1 l1_2 true).bind fun bt603 => ((impl_IsBoxInside.f k bt596.1 bt596.2.1 bt596.2.2 bt603.1 bt603.2.1 bt603.2.2).bind fun bt610 => (if (bt610.1 != t560) = true then (none) else (if (bt610.2 != t561) = true then (none) else (some true)))))) else (none)))) else (none)))))))) = some r := H
   have A22 := Aside0.mk A220
   clear A220
   replace H := Option.bind_eq_some_iff.mp H
   obtain ⟨⟨t570, t571, t574⟩, A230, H⟩ := H
   replace H : ((impl_IsBoxInside.f k t562 t563 t566 t570 t571 t574).bind fun bt578 => (if (bt578.1 != t560) = true then (none) else (if (bt578.2 != t561) = true then (none) else ((laws_toBox.f k a0_0 l0_1 l0_2 false).bind fun bt580 => ((laws_intactBox.f t562 t563 t566 bt580.1 bt580.2.1 bt580.2.2).bind fun t587 => (if t587 = true then ((laws_toBox.f k a1_0 l1_1 l1_2 false).bind fun bt588 => ((laws_intactBox.f t570 t571 t574 bt588.1 bt588.2.1 bt588.2.2).bind fun t595 => (if t595 = true then ((laws_toBox.f k a0_0 l0_1 l0_2 true).bind fun bt596 => ((laws_toBox.f k a1_0 l1_1 l1_2 true).bind fun bt603 => ((impl_IsBoxInside.f k bt596.1 bt596.2.1 bt596.2.2 bt603.1 bt603.2.1 bt603.2.2).bind fun bt610 => (if (bt610.1 != t560) = true then (none) else (if (bt610.2 != t561) = true then (none) else (some true)))))) else (none)))) else (none))))))) = some r := H
   have A23 := Aside0.mk A230
   clear A230
   replace H := Option.bind_eq_some_iff.mp H
   obtain ⟨⟨t578, t579⟩, A240, H⟩ := H
   replace H : (if (t578 != t560) = true then (none) else (if (t579 != t561) = true then (none) else ((laws_toBox.f k a0_0 l0_1 l0_2 false).bind fun bt580 => ((laws_intactBox.f t562 t563 t566 bt580.1 bt580.2.1 bt580.2.2).bind fun t587 => (if t587 = true then ((laws_toBox.f k a1_0 l1_1 l1_2 false).bind fun bt588 => ((laws_intactBox.f t570 t571 t574 bt588.1 bt588.2.1 bt588.2.2).bind fun t595 => (if t595 = true then ((laws_toBox.f k a0_0 l0_1 l0_2 true).bind fun bt596 => ((laws_toBox.f k a1_0 l1_1 l1_2 true).bind fun bt603 => ((impl_IsBoxInside.f k bt596.1 bt596.2.1 bt596.2.2 bt603.1 bt603.2.1 bt603.2.2).bind fun bt610 => (if (bt610.1 != t560) = true then (none) else (if (bt610.2 != t561) = true then (none) else (some true)))))) else (none)))) else (none)))))) = some r := H
   have A24 := Aside0.mk A240
   clear A240
   by_cases c25 : (t578 != t560) = true
   ·
    rw [if_pos c25] at H
    exact absurd H (by simp)
   ·
    rw [if_neg c25] at H
    have c25b0 : (t578 != t560) = false := by simpa using c25
    (try (have c25b1 : decide (t578 = t560) = true := by simpa using c25))
    (try (have c25b2 : (t578 == t560) = true := by simpa using c25))
    clear c25
    by_cases c26 : (t579 != t561) = true
    ·
     rw [if_pos c26] at H
     exact absurd H (by simp)
    ·
     rw [if_neg c26] at H
     have c26b0 : (t579 != t561) = false := by simpa using c26
     (try (have c26b1 : decide (t579 = t561) = true := by simpa using c26))
     (try (have c26b2 : (t579 == t561) = true := by simpa using c26))
     clear c26
     replace H := Option.bind_eq_some_iff.mp H
     obtain ⟨⟨t580, t581, t584⟩, A270, H⟩ := H
     replace H : ((laws_intactBox.f t562 t563 t566 t580 t581 t584).bind fun t587 => (if t587 = true then ((laws_toBox.f k a1_0 l1_1 l1_2 false).bind fun bt588 => ((laws_intactBox.f t570 t571 t574 bt588.1 bt588.2.1 bt588.2.2).bind fun t595 => (if t595 = true then ((laws_toBox.f k a0_0 l0_1 l0_2 true).bind fun bt596 => ((laws_toBox.f k a1_0 l1_1 l1_2 true).bind fun bt603 => ((impl_IsBoxInside.f k bt596.1 bt596.2.1 bt596.2.2 bt603.1 bt603.2.1 bt603.2.2).bind fun bt610 => (if (bt610.1 != t560) = true then (none) else (if (bt610.2 != t561) = true then (none) else (some true)))))) else (none)))) else (none))) = some r := H
     have A27 := Aside0.mk A270
     clear A270
     replace H := Option.bind_eq_some_iff.mp H
     obtain ⟨t587, A280, H⟩ := H
     replace H : (if t587 = true then ((laws_toBox.f k a1_0 l1_1 l1_2 false).bind fun bt588 => ((laws_intactBox.f t570 t571 t574 bt588.1 bt588.2.1 bt588.2.2).bind fun t595 => (if t595 = true then ((laws_toBox.f k a0_0 l0_1 l0_2 true).bind fun bt596 => ((laws_toBox.f k a1_0 l1_1 l1_2 true).bind fun bt603 => ((impl_IsBoxInside.f k bt596.1 bt596.2.1 bt596.2.2 bt603.1 bt603.2.1 bt603.2.2).bind fun bt610 => (if (bt610.1 != t560) = true then (none) else (if (bt610.2 != t561) = true then (none) else (some true)))))) else (none)))) else (none)) = some r := H
     have A28 := Aside0.mk A280
     clear A280
     by_cases c29 : t587 = true
     ·
      subst c29
      have H1 : ((laws_toBox.f k a1_0 l1_1 l1_2 false).bind fun bt588 => ((laws_intactBox.f t570 t571 t574 bt588.1 bt588.2.1 bt588.2.2).bind fun t595 => (if t595 = true then ((laws_toBox.f k a0_0 l0_1 l0_2 true).bind fun bt596 => ((laws_toBox.f k a1_0 l1_1 l1_2 true).bind fun bt603 => ((impl_IsBoxInside.f k bt596.1 bt596.2.1 bt596.2.2 bt603.1 bt603.2.1 bt603.2.2).bind fun bt610 => (if (bt610.1 != t560) = true then (none) else (if (bt610.2 != t561) = true then (none) else (some true)))))) else (none)))) = some r := by rw [if_pos rfl] at H; exact H
      clear H
      have H := H1
      clear H1
      replace H := Option.bind_eq_some_iff.mp H
      obtain ⟨⟨t588, t589, t592⟩, A300, H⟩ := H
      replace H : ((laws_intactBox.f t570 t571 t574 t588 t589 t592).bind fun t595 => (if t595 = true then ((laws_toBox.f k a0_0 l0_1 l0_2 true).bind fun bt596 => ((laws_toBox.f k a1_0 l1_1 l1_2 true).bind fun bt603 => ((impl_IsBoxInside.f k bt596.1 bt596.2.1 bt596.2.2 bt603.1 bt603.2.1 bt603.2.2).bind fun bt610 => (if (bt610.1 != t560) = true then (none) else (if (bt610.2 != t561) = true then (none) else (some true)))))) else (none))) = some r := H
      have A30 := Aside0.mk A300
      clear A300
      replace H := Option.bind_eq_some_iff.mp H
      obtain ⟨t595, A310, H⟩ := H
      replace H : (if t595 = true then ((laws_toBox.f k a0_0 l0_1 l0_2 true).bind fun bt596 => ((laws_toBox.f k a1_0 l1_1 l1_2 true).bind fun bt603 => ((impl_IsBoxInside.f k bt596.1 bt596.2.1 bt596.2.2 bt603.1 bt603.2.1 bt603.2.2).bind fun bt610 => (if (bt610.1 != t560) = true then (none) else (if (bt610.2 != t561) = true then (none) else (some true)))))) else (none)) = some r := H
      have A31 := Aside0.mk A310
      clear A310
      by_cases c32 : t595 = true
      ·
       subst c32
       have H1 : ((laws_toBox.f k a0_0 l0_1 l0_2 true).bind fun bt596 => ((laws_toBox.f k a1_0 l1_1 l1_2 true).bind fun bt603 => ((impl_IsBoxInside.f k bt596.1 bt596.2.1 bt596.2.2 bt603.1 bt603.2.1 bt603.2.2).bind fun bt610 => (if (bt610.1 != t560) = true then (none) else (if (bt610.2 != t561) = true then (none) else (some true)))))) = some r := by rw [if_pos rfl] at H; exact H
       clear H
       have H := H1
       clear H1
       replace H := Option.bind_eq_some_iff.mp H
       obtain ⟨⟨t596, t597, t600⟩, A330, H⟩ := H
       replace H : ((laws_toBox.f k a1_0 l1_1 l1_2 true).bind fun bt603 => ((impl_IsBoxInside.f k t596 t597 t600 bt603.1 bt603.2.1 bt603.2.2).bind fun bt610 => (if (bt610.1 != t560) = true then (none) else (if (bt610.2 != t561) = true then (none) else (some true))))) = some r := H
       have A33 := Aside0.mk A330
       clear A330
       replace H := Option.bind_eq_some_iff.mp H
       obtain ⟨⟨t603, t604, t607⟩, A340, H⟩ := H
       replace H : ((impl_IsBoxInside.f k t596 t597 t600 t603 t604 t607).bind fun bt610 => (if (bt610.1 != t560) = true then (none) else (if (bt610.2 != t561) = true then (none) else (some true)))) = some r := H
       have A34 := Aside0.mk A340
       clear A340
       replace H := Option.bind_eq_some_iff.mp H
       obtain ⟨⟨t610, t611⟩, A350, H⟩ := H
       replace H : (if (t610 != t560) = true then (none) else (if (t611 != t561) = true then (none) else (some true))) = some r := H
       have A35 := Aside0.mk A350
       clear A350
       by_cases c36 : (t610 != t560) = true
       ·
        rw [if_pos c36] at H
        exact absurd H (by simp)
       ·
        rw [if_neg c36] at H
        have c36b0 : (t610 != t560) = false := by simpa using c36
        (try (have c36b1 : decide (t610 = t560) = true := by simpa using c36))
        (try (have c36b2 : (t610 == t560) = true := by simpa using c36))
        clear c36
        by_cases c37 : (t611 != t561) = true
        ·
         rw [if_pos c37] at H
         exact absurd H (by simp)
        ·
         rw [if_neg c37] at H
         have c37b0 : (t611 != t561) = false := by simpa using c37
         (try (have c37b1 : decide (t611 = t561) = true := by simpa using c37))
         (try (have c37b2 : (t611 == t561) = true := by simpa using c37))
         clear c37
         obtain rfl := Option.some.inj H
         go_enter Try.func5, Try.ntmps5
         try go_wp2_with (first | ((with_reducible refine gate_dst (N := 2) rfl ?_); refine zbe (N := 2) (cs := #[.int .i64 a0_0, .slice A0_1 l0_1.length c0_1, .slice A0_2 l0_2.length c0_2]) (t := 24) ?_; intro gb542 hg w38 hbox hb; have BK542 := Aside0.mk (hbox); have GW542 := Aside0.mk (zge (zb0 HB) hg); have GE542 := GW542; replace HB := Aside0.mk (below_step (zb0 HB) hb); clear hb hbox hg) | ((with_reducible refine gate_dst (N := 3) rfl ?_); refine zbe (N := 3) (cs := #[.int .i64 a1_0, .slice A1_1 l1_1.length c1_1, .slice A1_2 l1_2.length c1_2]) (t := 24) ?_; intro gb543 hg w39 hbox hb; have BK543 := Aside0.mk (hbox); have GW543 := Aside0.mk (zge (zb1 HB) hg); have GE543 := GW543; have NB542_543 := Aside0.mk (zlt BK542 hg); have NB543_542 := Aside0.mk (zgt BK542 hg); replace BK542 := Aside0.mk (zbb BK542 hb); replace HB := Aside0.mk (below_step (zb1 HB) hb); clear hb hbox hg; have hnb40 := NB542_543.out; have hnc40 := NB543_542.out; have hcz41_0 : w39.cell? ⟨gb542, 0, none⟩ = some (.int .i64 a0_0) := zc BK542 0; have hcz41_1 : w39.cell? ⟨gb542, 1, none⟩ = some (.slice A0_1 l0_1.length c0_1) := zc BK542 1; have hcz41_2 : w39.cell? ⟨gb542, 2, none⟩ = some (.slice A0_2 l0_2.length c0_2) := zc BK542 2; have hfz41_0 := blk_frozen BK542.out 0; have hfz41_1 := blk_frozen BK542.out 1; have hfz41_2 := blk_frozen BK542.out 2) | ((with_reducible refine gate_callee (f := 14) rfl ?_); refine goesL_ (some 16) rfl rfl Try.func14 (by kernel_rfl) rfl #[.agg #[.int .i64 a0_0, .slice A0_1 l0_1.length c0_1, .slice A0_2 l0_2.length c0_2], .int .i64 1000000] rfl zq6 ?_; (with_reducible refine (laws_szBox.calls a0_0 _ _ l0_1 _ _ l0_2 1000000 t544 _ ?side1 ?side2 ?side3 ?side4 A3.out).mono ?_); (case side1 => repeat (first | exact (Kd.C_below HR0_1.out HB.out) | (with_reducible refine Kd.C_alloc ?_ _) | (with_reducible refine Kd.C_drewN ?_ _) | (with_reducible refine Kd.C_drew ?_))); (case side2 => exact HC0_1.out); (case side3 => repeat (first | exact (Kd.C_below HR0_2.out HB.out) | (with_reducible refine Kd.C_alloc ?_ _) | (with_reducible refine Kd.C_drewN ?_ _) | (with_reducible refine Kd.C_drew ?_))); (case side4 => exact HC0_2.out); rintro e w42 ⟨rfl, hb⟩; refine ⟨_, rfl, ?_⟩; replace BK542 := Aside0.mk (zbb BK542 hb); replace BK543 := Aside0.mk (zbb BK543 hb); replace HB := Aside0.mk (below_step (zb1 HB) hb); (try clear hb); (try clear hb2); (try clear hk); (try clear hi); have hcz43_0 : w42.cell? ⟨gb543, 0, none⟩ = some (.int .i64 a1_0) := zc BK543 0; have hcz43_1 : w42.cell? ⟨gb543, 1, none⟩ = some (.slice A1_1 l1_1.length c1_1) := zc BK543 1; have hcz43_2 : w42.cell? ⟨gb543, 2, none⟩ = some (.slice A1_2 l1_2.length c1_2) := zc BK543 2; have hfz43_0 := blk_frozen BK543.out 0; have hfz43_1 := blk_frozen BK543.out 1; have hfz43_2 := blk_frozen BK543.out 2) | ((with_reducible refine gate_callee (f := 14) rfl ?_); refine goesL_ (some 21) rfl rfl Try.func14 (by kernel_rfl) rfl #[.agg #[.int .i64 a1_0, .slice A1_1 l1_1.length c1_1, .slice A1_2 l1_2.length c1_2], .int .i64 t544] rfl zq6 ?_; (with_reducible refine (laws_szBox.calls a1_0 _ _ l1_1 _ _ l1_2 t544 t545 _ ?side1 ?side2 ?side3 ?side4 A10.out).mono ?_); (case side1 => repeat (first | exact (Kd.C_below HR1_1.out HB.out) | (with_reducible refine Kd.C_alloc ?_ _) | (with_reducible refine Kd.C_drewN ?_ _) | (with_reducible refine Kd.C_drew ?_))); (case side2 => exact HC1_1.out); (case side3 => repeat (first | exact (Kd.C_below HR1_2.out HB.out) | (with_reducible refine Kd.C_alloc ?_ _) | (with_reducible refine Kd.C_drewN ?_ _) | (with_reducible refine Kd.C_drew ?_))); (case side4 => exact HC1_2.out); rintro e w44 ⟨rfl, hb⟩; refine ⟨_, rfl, ?_⟩; replace BK542 := Aside0.mk (zbb BK542 hb); replace BK543 := Aside0.mk (zbb BK543 hb); replace HB := Aside0.mk (below_step (zb1 HB) hb); (try clear hb); (try clear hb2); (try clear hk); (try clear hi)))
         replace BK542 := Aside0.mk (blk_drew BK542.out); replace BK543 := Aside0.mk (blk_drew BK543.out); replace HB := Aside0.mk (below_drew1 HB.out)
         refine start_ (n := 10) (S := fun w' => w'.cell? ⟨gb542, 0, none⟩ = some (.int .i64 a0_0) ∧ w'.cell? ⟨gb542, 1, none⟩ = some (.slice A0_1 l0_1.length c0_1) ∧ w'.cell? ⟨gb542, 2, none⟩ = some (.slice A0_2 l0_2.length c0_2) ∧ w'.cell? ⟨gb543, 0, none⟩ = some (.int .i64 a1_0) ∧ w'.cell? ⟨gb543, 1, none⟩ = some (.slice A1_1 l1_1.length c1_1) ∧ w'.cell? ⟨gb543, 2, none⟩ = some (.slice A1_2 l1_2.length c1_2)) (ds := []) #[false, false, false, false, false, false, false, false, false, false] (by kernel_rfl) rfl rfl ⟨zc BK542 0, zc BK542 1, zc BK542 2, zc BK543 0, zc BK543 1, zc BK543 2⟩ (fun hHeld => ?_); refine with_tabW laws_FnExactIsBoxInside.tab8 laws_FnExactIsBoxInside.bits8 (fun HT_ HW_ => ?_)
         generalize w44.drew = w45 at BK542 BK543 HB hHeld ⊢
         refine take_ (i := 0) (N := some 25) (v := ?_) (a' := ?_) #[true, false, false, false, false, false, false, false, false, false] rfl rfl (take_ofW HT_.out HW_.out (by kernel_rfl)) (fun _ _ _ h => h) (Or.inl ⟨by rfl, ?_⟩) hHeld ?_ ?_
         rotate_left
         ·
          rintro w' ⟨s0, s1, s2, s3, s4, s5⟩
          go_simp
          with_reducible rfl
         rotate_left
         ·
          simp only [Act.put, List.setIfInBounds_toArray, List.set_cons_zero, List.set_cons_succ, i64_w, i32_w]
          rfl
         refine take_ (i := 2) (N := some 27) (v := ?_) (a' := ?_) #[true, false, true, false, false, false, false, false, false, false] rfl rfl (take_ofW HT_.out HW_.out (by kernel_rfl)) (fun _ _ _ h => h) (Or.inl ⟨by rfl, ?_⟩) hHeld ?_ ?_
         rotate_left
         ·
          rintro w' ⟨s0, s1, s2, s3, s4, s5⟩
          go_simp
          with_reducible rfl
         rotate_left
         ·
          simp only [Act.put, List.setIfInBounds_toArray, List.set_cons_zero, List.set_cons_succ, i64_w, i32_w]
          rfl
         refine one_ (i := 1) (N := some 26) #[true, true, true, false, false, false, false, false, false, false] rfl rfl (one_of HT_.out (by kernel_rfl)) (by decide) (fun K hK => ?_)
         refine goes_ Try.func16 (by kernel_rfl) rfl #[.agg #[.int .i64 a0_0, .slice A0_1 l0_1.length c0_1, .slice A0_2 l0_2.length c0_2], .bool false] (by rfl) rfl rfl zq6 ?_
         with_reducible refine (laws_toBox.calls k a0_0 _ _ l0_1 _ _ l0_2 false t546 t547 t550 _ ?side1 ?side2 ?side3 ?side4 A19.out).mono ?_
         (case side1 => repeat (first | exact (Kd.C_below HR0_1.out HB.out) | (with_reducible refine Kd.C_alloc ?_ _) | (with_reducible refine Kd.C_drewN ?_ _) | (with_reducible refine Kd.C_drew ?_)))
         (case side2 => exact HC0_1.out)
         (case side3 => repeat (first | exact (Kd.C_below HR0_2.out HB.out) | (with_reducible refine Kd.C_alloc ?_ _) | (with_reducible refine Kd.C_drewN ?_ _) | (with_reducible refine Kd.C_drew ?_)))
         (case side4 => exact HC0_2.out)
         rintro e w46 ⟨v548, v551, rfl, ho0, ho1, hb, ho0F, ho1F⟩
         refine ⟨_, rfl, ?_⟩
         have n0_ := Aside0.mk (Kd.R_lower ho0 (below_size (zb1 HB)))
         have n0F_ := Aside0.mk (Kd.R_lower ho0F (below_size (zb1 HB)))
         have n1_ := Aside0.mk (Kd.R_lower ho1 (below_size (zb1 HB)))
         have n1F_ := Aside0.mk (Kd.R_lower ho1F (below_size (zb1 HB)))
         have n2_ := Aside0.mk (zbb BK542 hb)
         have n3_ := Aside0.mk (zbb BK543 hb)
         have n4_ := Aside0.mk (below_step (zb1 HB) hb)
         clear BK542 BK543 HB
         have HO549 := n0_; have HO549F := n0F_; have HO552 := n1_; have HO552F := n1F_; have BK542 := n2_; have BK543 := n3_; have HB := n4_
         clear n0_ n1_ n2_ n3_ n4_ n0F_ n1F_
         (try clear hb)
         (try clear hb2)
         (try clear hk)
         (try clear hi)
         (try clear ho0)
         (try clear ho0F)
         (try clear ho1)
         (try clear ho1F)
         refine hK.out _ _ ⟨zc BK542 0, zc BK542 1, zc BK542 2, zc BK543 0, zc BK543 1, zc BK543 2⟩ (fun hHeld => ?_)
         clear hK K
         refine norm_ (a' := ?_) ?_ ?_
         rotate_left
         ·
          show Act.put _ (some 26) _ = _
          simp only [Act.put, List.setIfInBounds_toArray, List.set_cons_zero, List.set_cons_succ, i64_w, i32_w]; rfl
         refine one_ (i := 3) (N := some 28) #[true, true, true, true, false, false, false, false, false, false] rfl rfl (one_of HT_.out (by kernel_rfl)) (by decide) (fun K hK => ?_)
         refine goes_ Try.func16 (by kernel_rfl) rfl #[.agg #[.int .i64 a1_0, .slice A1_1 l1_1.length c1_1, .slice A1_2 l1_2.length c1_2], .bool false] (by rfl) rfl rfl zq6 ?_
         with_reducible refine (laws_toBox.calls k a1_0 _ _ l1_1 _ _ l1_2 false t553 t554 t557 _ ?side1 ?side2 ?side3 ?side4 A20.out).mono ?_
         (case side1 => repeat (first | exact (Kd.C_below HR1_1.out HB.out) | (with_reducible refine Kd.C_alloc ?_ _) | (with_reducible refine Kd.C_drewN ?_ _) | (with_reducible refine Kd.C_drew ?_)))
         (case side2 => exact HC1_1.out)
         (case side3 => repeat (first | exact (Kd.C_below HR1_2.out HB.out) | (with_reducible refine Kd.C_alloc ?_ _) | (with_reducible refine Kd.C_drewN ?_ _) | (with_reducible refine Kd.C_drew ?_)))
         (case side4 => exact HC1_2.out)
         rintro e w47 ⟨v555, v558, rfl, ho0, ho1, hb, ho0F, ho1F⟩
         refine ⟨_, rfl, ?_⟩
         have n0_ := Aside0.mk (Kd.R_mono (Kd.R_told (Kd.R_told (Kd.R_old (zq3 HO549) hb) (Kd.R_base ho0)) (Kd.R_base ho1)) (fun _ h_ => h_.1))
         have n0F_ := Aside0.mk (Kd.R_mono (Kd.R_told (Kd.R_told (Kd.R_old (zq3 HO549F) hb) (Kd.R_base ho0)) (Kd.R_base ho1)) (fun _ h_ => h_.1))
         have n1_ := Aside0.mk (Kd.R_mono (Kd.R_told (Kd.R_told (Kd.R_old (zq3 HO552) hb) (Kd.R_base ho0)) (Kd.R_base ho1)) (fun _ h_ => h_.1))
         have n1F_ := Aside0.mk (Kd.R_mono (Kd.R_told (Kd.R_told (Kd.R_old (zq3 HO552F) hb) (Kd.R_base ho0)) (Kd.R_base ho1)) (fun _ h_ => h_.1))
         have n2_ := Aside0.mk (Kd.R_lower (Kd.R_new' (Kd.R_new' ho0 (Kd.R_lt (zq3 HO549))) (Kd.R_lt (zq3 HO552))) (below_size (zb1 HB)))
         have n2F_ := Aside0.mk (Kd.R_lower (Kd.R_new' (Kd.R_new' ho0F (Kd.R_lt (zq3 HO549))) (Kd.R_lt (zq3 HO552))) (below_size (zb1 HB)))
         have n3_ := Aside0.mk (Kd.R_lower (Kd.R_new' (Kd.R_new' ho1 (Kd.R_lt (zq3 HO549))) (Kd.R_lt (zq3 HO552))) (below_size (zb1 HB)))
         have n3F_ := Aside0.mk (Kd.R_lower (Kd.R_new' (Kd.R_new' ho1F (Kd.R_lt (zq3 HO549))) (Kd.R_lt (zq3 HO552))) (below_size (zb1 HB)))
         have n4_ := Aside0.mk (zbb BK542 hb)
         have n5_ := Aside0.mk (zbb BK543 hb)
         have n6_ := Aside0.mk (below_step (zb1 HB) hb)
         clear HO549 HO549F HO552 HO552F BK542 BK543 HB
         have HO549 := n0_; have HO549F := n0F_; have HO552 := n1_; have HO552F := n1F_; have HO556 := n2_; have HO556F := n2F_; have HO559 := n3_; have HO559F := n3F_; have BK542 := n4_; have BK543 := n5_; have HB := n6_
         clear n0_ n1_ n2_ n3_ n4_ n5_ n6_ n0F_ n1F_ n2F_ n3F_
         (try clear hb)
         (try clear hb2)
         (try clear hk)
         (try clear hi)
         (try clear ho0)
         (try clear ho0F)
         (try clear ho1)
         (try clear ho1F)
         obtain ⟨Ao48, co48, eo48⟩ := Kd.R_slice HO549.out
         (first | subst eo48 | (injection eo48 with f1_ f2_ f3_; have f4_ := f1_.symm; have f5_ := f3_.symm; clear f1_ f2_ f3_; subst f4_; subst f5_))
         obtain ⟨Ao49, co49, eo49⟩ := Kd.R_slice HO552.out
         (first | subst eo49 | (injection eo49 with f1_ f2_ f3_; have f4_ := f1_.symm; have f5_ := f3_.symm; clear f1_ f2_ f3_; subst f4_; subst f5_))
         obtain ⟨Ao50, co50, eo50⟩ := Kd.R_slice HO556.out
         (first | subst eo50 | (injection eo50 with f1_ f2_ f3_; have f4_ := f1_.symm; have f5_ := f3_.symm; clear f1_ f2_ f3_; subst f4_; subst f5_))
         obtain ⟨Ao51, co51, eo51⟩ := Kd.R_slice HO559.out
         (first | subst eo51 | (injection eo51 with f1_ f2_ f3_; have f4_ := f1_.symm; have f5_ := f3_.symm; clear f1_ f2_ f3_; subst f4_; subst f5_))
         refine hK.out _ _ ⟨zc BK542 0, zc BK542 1, zc BK542 2, zc BK543 0, zc BK543 1, zc BK543 2⟩ (fun hHeld => ?_)
         clear hK K
         refine norm_ (a' := ?_) ?_ ?_
         rotate_left
         ·
          show Act.put _ (some 28) _ = _
          simp only [Act.put, List.setIfInBounds_toArray, List.set_cons_zero, List.set_cons_succ, i64_w, i32_w]; rfl
         refine one_ (i := 4) (N := some 29) #[true, true, true, true, true, false, false, false, false, false] rfl rfl (one_of HT_.out (by kernel_rfl)) (by decide) (fun K hK => ?_)
         refine goes_ Try.func21 (by kernel_rfl) rfl #[.agg #[.int .i64 t546, .slice Ao48 t547.length co48, .slice Ao49 t550.length co49], .agg #[.int .i64 t553, .slice Ao50 t554.length co50, .slice Ao51 t557.length co51]] (by rfl) rfl rfl zq6 ?_
         with_reducible refine (spec_IsBoxInside.calls k t546 _ _ t547 _ _ t550 t553 _ _ t554 _ _ t557 t560 t561 _ ?side1 ?side2 ?side3 ?side4 ?side5 ?side6 ?side7 ?side8 A21.out).mono ?_
         (case side1 => repeat (first | exact (Kd.R_reads' HO549.out).2.2 | (with_reducible refine Kd.C_alloc ?_ _) | (with_reducible refine Kd.C_drewN ?_ _) | (with_reducible refine Kd.C_drew ?_)))
         (case side2 => exact (Kd.R_reads' HO549.out).2.1)
         (case side3 => repeat (first | exact (Kd.R_reads' HO552.out).2.2 | (with_reducible refine Kd.C_alloc ?_ _) | (with_reducible refine Kd.C_drewN ?_ _) | (with_reducible refine Kd.C_drew ?_)))
         (case side4 => exact (Kd.R_reads' HO552.out).2.1)
         (case side5 => repeat (first | exact (Kd.R_reads' HO556.out).2.2 | (with_reducible refine Kd.C_alloc ?_ _) | (with_reducible refine Kd.C_drewN ?_ _) | (with_reducible refine Kd.C_drew ?_)))
         (case side6 => exact (Kd.R_reads' HO556.out).2.1)
         (case side7 => repeat (first | exact (Kd.R_reads' HO559.out).2.2 | (with_reducible refine Kd.C_alloc ?_ _) | (with_reducible refine Kd.C_drewN ?_ _) | (with_reducible refine Kd.C_drew ?_)))
         (case side8 => exact (Kd.R_reads' HO559.out).2.1)
         rintro e w52 ⟨rfl, hb⟩
         refine ⟨_, rfl, ?_⟩
         have n0_ := Aside0.mk (Kd.R_below (zq3 HO549) hb)
         have n0F_ := Aside0.mk (Kd.R_below (zq3 HO549F) hb)
         have n1_ := Aside0.mk (Kd.R_below (zq3 HO552) hb)
         have n1F_ := Aside0.mk (Kd.R_below (zq3 HO552F) hb)
         have n2_ := Aside0.mk (Kd.R_below (zq3 HO556) hb)
         have n2F_ := Aside0.mk (Kd.R_below (zq3 HO556F) hb)
         have n3_ := Aside0.mk (Kd.R_below (zq3 HO559) hb)
         have n3F_ := Aside0.mk (Kd.R_below (zq3 HO559F) hb)
         have n4_ := Aside0.mk (zbb BK542 hb)
         have n5_ := Aside0.mk (zbb BK543 hb)
         have n6_ := Aside0.mk (below_step (zb1 HB) hb)
         clear HO549 HO549F HO552 HO552F HO556 HO556F HO559 HO559F BK542 BK543 HB
         have HO549 := n0_; have HO549F := n0F_; have HO552 := n1_; have HO552F := n1F_; have HO556 := n2_; have HO556F := n2F_; have HO559 := n3_; have HO559F := n3F_; have BK542 := n4_; have BK543 := n5_; have HB := n6_
         clear n0_ n1_ n2_ n3_ n4_ n5_ n6_ n0F_ n1F_ n2F_ n3F_
         (try clear hb)
         (try clear hb2)
         (try clear hk)
         (try clear hi)
         refine hK.out _ _ ⟨zc BK542 0, zc BK542 1, zc BK542 2, zc BK543 0, zc BK543 1, zc BK543 2⟩ (fun hHeld => ?_)
         clear hK K
         refine norm_ (a' := ?_) ?_ ?_
         rotate_left
         ·
          show Act.put _ (some 29) _ = _
          simp only [Act.put, List.setIfInBounds_toArray, List.set_cons_zero, List.set_cons_succ, i64_w, i32_w]; rfl
         refine zp (i := 5) (N := some 24) #[true, true, true, true, true, true, false, false, false, false] (any_of HT_.out (by kernel_rfl)) ?_
         refine zp (i := 6) (N := some 30) #[true, true, true, true, true, true, true, false, false, false] (any_of HT_.out (by kernel_rfl)) ?_
         refine zp (i := 7) (N := some 31) #[true, true, true, true, true, true, true, true, false, false] (any_of HT_.out (by kernel_rfl)) ?_
         refine zp (i := 8) (N := some 6) #[true, true, true, true, true, true, true, true, true, false] (any_of HT_.out (by kernel_rfl)) ?_
         refine zp (i := 9) (N := some 7) #[true, true, true, true, true, true, true, true, true, true] (any_of HT_.out (by kernel_rfl)) ?_
         refine done_ (done_of HT_.out (by kernel_rfl)) ?_
         have hcz53_0 : w52.cell? ⟨gb542, 0, none⟩ = some (.int .i64 a0_0) := zc BK542 0
         have hcz53_1 : w52.cell? ⟨gb542, 1, none⟩ = some (.slice A0_1 l0_1.length c0_1) := zc BK542 1
         have hcz53_2 : w52.cell? ⟨gb542, 2, none⟩ = some (.slice A0_2 l0_2.length c0_2) := zc BK542 2
         have hfz53_0 := blk_frozen BK542.out 0
         have hfz53_1 := blk_frozen BK542.out 1
         have hfz53_2 := blk_frozen BK542.out 2
         try go_wp2_with (first | ((with_reducible refine gate_callee (f := 16) rfl ?_); refine goesL_ (some 33) rfl rfl Try.func16 (by kernel_rfl) rfl #[.agg #[.int .i64 a0_0, .slice A0_1 l0_1.length c0_1, .slice A0_2 l0_2.length c0_2], .bool false] rfl zq6 ?_; (with_reducible refine (laws_toBox.calls k a0_0 _ _ l0_1 _ _ l0_2 false t562 t563 t566 _ ?side1 ?side2 ?side3 ?side4 A22.out).mono ?_); (case side1 => repeat (first | exact (Kd.C_below HR0_1.out HB.out) | (with_reducible refine Kd.C_alloc ?_ _) | (with_reducible refine Kd.C_drewN ?_ _) | (with_reducible refine Kd.C_drew ?_))); (case side2 => exact HC0_1.out); (case side3 => repeat (first | exact (Kd.C_below HR0_2.out HB.out) | (with_reducible refine Kd.C_alloc ?_ _) | (with_reducible refine Kd.C_drewN ?_ _) | (with_reducible refine Kd.C_drew ?_))); (case side4 => exact HC0_2.out); rintro e w54 ⟨v564, v567, rfl, ho0, ho1, hb, ho0F, ho1F⟩; refine ⟨_, rfl, ?_⟩; have n0_ := Aside0.mk (Kd.R_mono (Kd.R_told (Kd.R_told (Kd.R_old (zq3 HO549) hb) (Kd.R_base ho0)) (Kd.R_base ho1)) (fun _ h_ => h_.1)); have n0F_ := Aside0.mk (Kd.R_mono (Kd.R_told (Kd.R_told (Kd.R_old (zq3 HO549F) hb) (Kd.R_base ho0)) (Kd.R_base ho1)) (fun _ h_ => h_.1)); have n1_ := Aside0.mk (Kd.R_mono (Kd.R_told (Kd.R_told (Kd.R_old (zq3 HO552) hb) (Kd.R_base ho0)) (Kd.R_base ho1)) (fun _ h_ => h_.1)); have n1F_ := Aside0.mk (Kd.R_mono (Kd.R_told (Kd.R_told (Kd.R_old (zq3 HO552F) hb) (Kd.R_base ho0)) (Kd.R_base ho1)) (fun _ h_ => h_.1)); have n2_ := Aside0.mk (Kd.R_mono (Kd.R_told (Kd.R_told (Kd.R_old (zq3 HO556) hb) (Kd.R_base ho0)) (Kd.R_base ho1)) (fun _ h_ => h_.1)); have n2F_ := Aside0.mk (Kd.R_mono (Kd.R_told (Kd.R_told (Kd.R_old (zq3 HO556F) hb) (Kd.R_base ho0)) (Kd.R_base ho1)) (fun _ h_ => h_.1)); have n3_ := Aside0.mk (Kd.R_mono (Kd.R_told (Kd.R_told (Kd.R_old (zq3 HO559) hb) (Kd.R_base ho0)) (Kd.R_base ho1)) (fun _ h_ => h_.1)); have n3F_ := Aside0.mk (Kd.R_mono (Kd.R_told (Kd.R_told (Kd.R_old (zq3 HO559F) hb) (Kd.R_base ho0)) (Kd.R_base ho1)) (fun _ h_ => h_.1)); have n4_ := Aside0.mk (Kd.R_lower (Kd.R_new' (Kd.R_new' (Kd.R_new' (Kd.R_new' ho0 (Kd.R_lt (zq3 HO549))) (Kd.R_lt (zq3 HO552))) (Kd.R_lt (zq3 HO556))) (Kd.R_lt (zq3 HO559))) (below_size (zb1 HB))); have n4F_ := Aside0.mk (Kd.R_lower (Kd.R_new' (Kd.R_new' (Kd.R_new' (Kd.R_new' ho0F (Kd.R_lt (zq3 HO549))) (Kd.R_lt (zq3 HO552))) (Kd.R_lt (zq3 HO556))) (Kd.R_lt (zq3 HO559))) (below_size (zb1 HB))); have n5_ := Aside0.mk (Kd.R_lower (Kd.R_new' (Kd.R_new' (Kd.R_new' (Kd.R_new' ho1 (Kd.R_lt (zq3 HO549))) (Kd.R_lt (zq3 HO552))) (Kd.R_lt (zq3 HO556))) (Kd.R_lt (zq3 HO559))) (below_size (zb1 HB))); have n5F_ := Aside0.mk (Kd.R_lower (Kd.R_new' (Kd.R_new' (Kd.R_new' (Kd.R_new' ho1F (Kd.R_lt (zq3 HO549))) (Kd.R_lt (zq3 HO552))) (Kd.R_lt (zq3 HO556))) (Kd.R_lt (zq3 HO559))) (below_size (zb1 HB))); have n6_ := Aside0.mk (zbb BK542 hb); have n7_ := Aside0.mk (zbb BK543 hb); have n8_ := Aside0.mk (below_step (zb1 HB) hb); clear HO549 HO549F; clear HO552 HO552F; clear HO556 HO556F; clear HO559 HO559F; clear BK542; clear BK543; clear HB; have HO549 := n0_; have HO549F := n0F_; have HO552 := n1_; have HO552F := n1F_; have HO556 := n2_; have HO556F := n2F_; have HO559 := n3_; have HO559F := n3F_; have HO565 := n4_; have HO565F := n4F_; have HO568 := n5_; have HO568F := n5F_; have BK542 := n6_; have BK543 := n7_; have HB := n8_; clear n0_ n1_ n2_ n3_ n4_ n5_ n6_ n7_ n8_ n0F_ n1F_ n2F_ n3F_ n4F_ n5F_; (try clear hb); (try clear hb2); (try clear hk); (try clear hi); (try clear ho0); (try clear ho0F); (try clear ho1); (try clear ho1F)) | ((with_reducible refine gate_dst (N := 8) rfl ?_); refine zbe (N := 8) (cs := #[.int .i64 0, .slice none 0 0, .slice none 0 0]) (t := 27) ?_; intro gb569 hg w55 hbox hb; have n0_ := Aside0.mk (Kd.R_below (zq3 HO549) hb); have n0F_ := Aside0.mk (Kd.R_below (zq3 HO549F) hb); have n1_ := Aside0.mk (Kd.R_below (zq3 HO552) hb); have n1F_ := Aside0.mk (Kd.R_below (zq3 HO552F) hb); have n2_ := Aside0.mk (Kd.R_below (zq3 HO556) hb); have n2F_ := Aside0.mk (Kd.R_below (zq3 HO556F) hb); have n3_ := Aside0.mk (Kd.R_below (zq3 HO559) hb); have n3F_ := Aside0.mk (Kd.R_below (zq3 HO559F) hb); have n4_ := Aside0.mk (Kd.R_below (zq3 HO565) hb); have n4F_ := Aside0.mk (Kd.R_below (zq3 HO565F) hb); have n5_ := Aside0.mk (Kd.R_below (zq3 HO568) hb); have n5F_ := Aside0.mk (Kd.R_below (zq3 HO568F) hb); have n6_ := Aside0.mk (zbb BK542 hb); have n7_ := Aside0.mk (zbb BK543 hb); have n8_ := Aside0.mk (below_step (zb1 HB) hb); have n9_ := Aside0.mk (hbox); have n10_ := Aside0.mk (zge (zb1 HB) hg); have n11_ := Aside0.mk (zge (zb1 HB) hg); have n12_ := Aside0.mk (zlt BK542 hg); have n13_ := Aside0.mk (zgt BK542 hg); have n14_ := Aside0.mk (zlt BK543 hg); have n15_ := Aside0.mk (zgt BK543 hg); clear HO549 HO549F; clear HO552 HO552F; clear HO556 HO556F; clear HO559 HO559F; clear HO565 HO565F; clear HO568 HO568F; clear BK542; clear BK543; clear HB; have HO549 := n0_; have HO549F := n0F_; have HO552 := n1_; have HO552F := n1F_; have HO556 := n2_; have HO556F := n2F_; have HO559 := n3_; have HO559F := n3F_; have HO565 := n4_; have HO565F := n4F_; have HO568 := n5_; have HO568F := n5F_; have BK542 := n6_; have BK543 := n7_; have HB := n8_; have BK569 := n9_; have GW569 := n10_; have GE569 := n11_; have NB542_569 := n12_; have NB569_542 := n13_; have NB543_569 := n14_; have NB569_543 := n15_; clear n0_ n1_ n2_ n3_ n4_ n5_ n6_ n7_ n8_ n9_ n10_ n11_ n12_ n13_ n14_ n15_ n0F_ n1F_ n2F_ n3F_ n4F_ n5F_; clear hb hbox hg; have hnb56 := NB569_542.out; have hnc56 := NB542_569.out; have hnb57 := NB569_543.out; have hnc57 := NB543_569.out; have hcz58_0 : w55.cell? ⟨gb569, 0, none⟩ = some (.int .i64 0) := zc BK569 0; have hcz58_1 : w55.cell? ⟨gb569, 1, none⟩ = some (.slice none 0 0) := zc BK569 1; have hcz58_2 : w55.cell? ⟨gb569, 2, none⟩ = some (.slice none 0 0) := zc BK569 2; have hfz58_0 := blk_frozen BK569.out 0; have hfz58_1 := blk_frozen BK569.out 1; have hfz58_2 := blk_frozen BK569.out 2; obtain ⟨Ao59, co59, eo59⟩ := Kd.R_slice HO565.out; subst eo59; obtain ⟨Ao60, co60, eo60⟩ := Kd.R_slice HO568.out; subst eo60; have hcz61_0 : w55.cell? ⟨gb543, 0, none⟩ = some (.int .i64 a1_0) := zc BK543 0; have hcz61_1 : w55.cell? ⟨gb543, 1, none⟩ = some (.slice A1_1 l1_1.length c1_1) := zc BK543 1; have hcz61_2 : w55.cell? ⟨gb543, 2, none⟩ = some (.slice A1_2 l1_2.length c1_2) := zc BK543 2; have hfz61_0 := blk_frozen BK543.out 0; have hfz61_1 := blk_frozen BK543.out 1; have hfz61_2 := blk_frozen BK543.out 2) | ((with_reducible refine gate_callee (f := 16) rfl ?_); refine goesL_ (some 35) rfl rfl Try.func16 (by kernel_rfl) rfl #[.agg #[.int .i64 a1_0, .slice A1_1 l1_1.length c1_1, .slice A1_2 l1_2.length c1_2], .bool false] rfl zq6 ?_; (with_reducible refine (laws_toBox.calls k a1_0 _ _ l1_1 _ _ l1_2 false t570 t571 t574 _ ?side1 ?side2 ?side3 ?side4 A23.out).mono ?_); (case side1 => exact Kd.C_below HR1_1.out (zb1 HB)); (case side2 => exact HC1_1.out); (case side3 => exact Kd.C_below HR1_2.out (zb1 HB)); (case side4 => exact HC1_2.out); rintro e w62 ⟨v572, v575, rfl, ho0, ho1, hb, ho0F, ho1F⟩; refine ⟨_, rfl, ?_⟩; have n0_ := Aside0.mk (Kd.R_mono (Kd.R_told (Kd.R_told (Kd.R_old (by (with_reducible repeat (first | apply Kd.R_alloc | apply Kd.R_drewN | apply Kd.R_drew)); exact (Kd.R_mono (Kd.R_far (p := ⟨gb569, 2, none⟩) (Kd.R_far (p := ⟨gb569, 1, none⟩) (Kd.R_far (p := ⟨gb569, 0, none⟩) (Kd.R_types HO549.out BK569.out (by decide)) (fun _ hk => hk.2) (.int .i64 t562)) (fun _ hk => hk.2) (.slice Ao59 t563.length co59)) (fun _ hk => hk.2) (.slice Ao60 t566.length co60)) (fun _ h_ => h_.1))) hb) (Kd.R_base ho0)) (Kd.R_base ho1)) (fun _ h_ => h_.1)); have n0F_ := Aside0.mk (Kd.R_mono (Kd.R_told (Kd.R_told (Kd.R_old (by (with_reducible repeat (first | apply Kd.R_alloc | apply Kd.R_drewN | apply Kd.R_drew)); exact (Kd.R_mono (Kd.R_far (p := ⟨gb569, 2, none⟩) (Kd.R_far (p := ⟨gb569, 1, none⟩) (Kd.R_far (p := ⟨gb569, 0, none⟩) (Kd.R_types HO549F.out BK569.out (by decide)) (fun _ hk => hk.2) (.int .i64 t562)) (fun _ hk => hk.2) (.slice Ao59 t563.length co59)) (fun _ hk => hk.2) (.slice Ao60 t566.length co60)) (fun _ h_ => h_.1))) hb) (Kd.R_base ho0)) (Kd.R_base ho1)) (fun _ h_ => h_.1)); have n1_ := Aside0.mk (Kd.R_mono (Kd.R_told (Kd.R_told (Kd.R_old (by (with_reducible repeat (first | apply Kd.R_alloc | apply Kd.R_drewN | apply Kd.R_drew)); exact (Kd.R_mono (Kd.R_far (p := ⟨gb569, 2, none⟩) (Kd.R_far (p := ⟨gb569, 1, none⟩) (Kd.R_far (p := ⟨gb569, 0, none⟩) (Kd.R_types HO552.out BK569.out (by decide)) (fun _ hk => hk.2) (.int .i64 t562)) (fun _ hk => hk.2) (.slice Ao59 t563.length co59)) (fun _ hk => hk.2) (.slice Ao60 t566.length co60)) (fun _ h_ => h_.1))) hb) (Kd.R_base ho0)) (Kd.R_base ho1)) (fun _ h_ => h_.1)); have n1F_ := Aside0.mk (Kd.R_mono (Kd.R_told (Kd.R_told (Kd.R_old (by (with_reducible repeat (first | apply Kd.R_alloc | apply Kd.R_drewN | apply Kd.R_drew)); exact (Kd.R_mono (Kd.R_far (p := ⟨gb569, 2, none⟩) (Kd.R_far (p := ⟨gb569, 1, none⟩) (Kd.R_far (p := ⟨gb569, 0, none⟩) (Kd.R_types HO552F.out BK569.out (by decide)) (fun _ hk => hk.2) (.int .i64 t562)) (fun _ hk => hk.2) (.slice Ao59 t563.length co59)) (fun _ hk => hk.2) (.slice Ao60 t566.length co60)) (fun _ h_ => h_.1))) hb) (Kd.R_base ho0)) (Kd.R_base ho1)) (fun _ h_ => h_.1)); have n2_ := Aside0.mk (Kd.R_mono (Kd.R_told (Kd.R_told (Kd.R_old (by (with_reducible repeat (first | apply Kd.R_alloc | apply Kd.R_drewN | apply Kd.R_drew)); exact (Kd.R_mono (Kd.R_far (p := ⟨gb569, 2, none⟩) (Kd.R_far (p := ⟨gb569, 1, none⟩) (Kd.R_far (p := ⟨gb569, 0, none⟩) (Kd.R_types HO556.out BK569.out (by decide)) (fun _ hk => hk.2) (.int .i64 t562)) (fun _ hk => hk.2) (.slice Ao59 t563.length co59)) (fun _ hk => hk.2) (.slice Ao60 t566.length co60)) (fun _ h_ => h_.1))) hb) (Kd.R_base ho0)) (Kd.R_base ho1)) (fun _ h_ => h_.1)); have n2F_ := Aside0.mk (Kd.R_mono (Kd.R_told (Kd.R_told (Kd.R_old (by (with_reducible repeat (first | apply Kd.R_alloc | apply Kd.R_drewN | apply Kd.R_drew)); exact (Kd.R_mono (Kd.R_far (p := ⟨gb569, 2, none⟩) (Kd.R_far (p := ⟨gb569, 1, none⟩) (Kd.R_far (p := ⟨gb569, 0, none⟩) (Kd.R_types HO556F.out BK569.out (by decide)) (fun _ hk => hk.2) (.int .i64 t562)) (fun _ hk => hk.2) (.slice Ao59 t563.length co59)) (fun _ hk => hk.2) (.slice Ao60 t566.length co60)) (fun _ h_ => h_.1))) hb) (Kd.R_base ho0)) (Kd.R_base ho1)) (fun _ h_ => h_.1)); have n3_ := Aside0.mk (Kd.R_mono (Kd.R_told (Kd.R_told (Kd.R_old (by (with_reducible repeat (first | apply Kd.R_alloc | apply Kd.R_drewN | apply Kd.R_drew)); exact (Kd.R_mono (Kd.R_far (p := ⟨gb569, 2, none⟩) (Kd.R_far (p := ⟨gb569, 1, none⟩) (Kd.R_far (p := ⟨gb569, 0, none⟩) (Kd.R_types HO559.out BK569.out (by decide)) (fun _ hk => hk.2) (.int .i64 t562)) (fun _ hk => hk.2) (.slice Ao59 t563.length co59)) (fun _ hk => hk.2) (.slice Ao60 t566.length co60)) (fun _ h_ => h_.1))) hb) (Kd.R_base ho0)) (Kd.R_base ho1)) (fun _ h_ => h_.1)); have n3F_ := Aside0.mk (Kd.R_mono (Kd.R_told (Kd.R_told (Kd.R_old (by (with_reducible repeat (first | apply Kd.R_alloc | apply Kd.R_drewN | apply Kd.R_drew)); exact (Kd.R_mono (Kd.R_far (p := ⟨gb569, 2, none⟩) (Kd.R_far (p := ⟨gb569, 1, none⟩) (Kd.R_far (p := ⟨gb569, 0, none⟩) (Kd.R_types HO559F.out BK569.out (by decide)) (fun _ hk => hk.2) (.int .i64 t562)) (fun _ hk => hk.2) (.slice Ao59 t563.length co59)) (fun _ hk => hk.2) (.slice Ao60 t566.length co60)) (fun _ h_ => h_.1))) hb) (Kd.R_base ho0)) (Kd.R_base ho1)) (fun _ h_ => h_.1)); have n4_ := Aside0.mk (Kd.R_mono (Kd.R_told (Kd.R_told (Kd.R_old (by (with_reducible repeat (first | apply Kd.R_alloc | apply Kd.R_drewN | apply Kd.R_drew)); exact (Kd.R_mono (Kd.R_far (p := ⟨gb569, 2, none⟩) (Kd.R_far (p := ⟨gb569, 1, none⟩) (Kd.R_far (p := ⟨gb569, 0, none⟩) (Kd.R_types HO565.out BK569.out (by decide)) (fun _ hk => hk.2) (.int .i64 t562)) (fun _ hk => hk.2) (.slice Ao59 t563.length co59)) (fun _ hk => hk.2) (.slice Ao60 t566.length co60)) (fun _ h_ => h_.1))) hb) (Kd.R_base ho0)) (Kd.R_base ho1)) (fun _ h_ => h_.1)); have n4F_ := Aside0.mk (Kd.R_mono (Kd.R_told (Kd.R_told (Kd.R_old (by (with_reducible repeat (first | apply Kd.R_alloc | apply Kd.R_drewN | apply Kd.R_drew)); exact (Kd.R_mono (Kd.R_far (p := ⟨gb569, 2, none⟩) (Kd.R_far (p := ⟨gb569, 1, none⟩) (Kd.R_far (p := ⟨gb569, 0, none⟩) (Kd.R_types HO565F.out BK569.out (by decide)) (fun _ hk => hk.2) (.int .i64 t562)) (fun _ hk => hk.2) (.slice Ao59 t563.length co59)) (fun _ hk => hk.2) (.slice Ao60 t566.length co60)) (fun _ h_ => h_.1))) hb) (Kd.R_base ho0)) (Kd.R_base ho1)) (fun _ h_ => h_.1)); have n5_ := Aside0.mk (Kd.R_mono (Kd.R_told (Kd.R_told (Kd.R_old (by (with_reducible repeat (first | apply Kd.R_alloc | apply Kd.R_drewN | apply Kd.R_drew)); exact (Kd.R_mono (Kd.R_far (p := ⟨gb569, 2, none⟩) (Kd.R_far (p := ⟨gb569, 1, none⟩) (Kd.R_far (p := ⟨gb569, 0, none⟩) (Kd.R_types HO568.out BK569.out (by decide)) (fun _ hk => hk.2) (.int .i64 t562)) (fun _ hk => hk.2) (.slice Ao59 t563.length co59)) (fun _ hk => hk.2) (.slice Ao60 t566.length co60)) (fun _ h_ => h_.1))) hb) (Kd.R_base ho0)) (Kd.R_base ho1)) (fun _ h_ => h_.1)); have n5F_ := Aside0.mk (Kd.R_mono (Kd.R_told (Kd.R_told (Kd.R_old (by (with_reducible repeat (first | apply Kd.R_alloc | apply Kd.R_drewN | apply Kd.R_drew)); exact (Kd.R_mono (Kd.R_far (p := ⟨gb569, 2, none⟩) (Kd.R_far (p := ⟨gb569, 1, none⟩) (Kd.R_far (p := ⟨gb569, 0, none⟩) (Kd.R_types HO568F.out BK569.out (by decide)) (fun _ hk => hk.2) (.int .i64 t562)) (fun _ hk => hk.2) (.slice Ao59 t563.length co59)) (fun _ hk => hk.2) (.slice Ao60 t566.length co60)) (fun _ h_ => h_.1))) hb) (Kd.R_base ho0)) (Kd.R_base ho1)) (fun _ h_ => h_.1)); have n6_ := Aside0.mk (Kd.R_lower (Kd.R_new' (Kd.R_new' (Kd.R_new' (Kd.R_new' (Kd.R_new' (Kd.R_new' ho0 (Kd.R_lt (by (with_reducible repeat (first | apply Kd.R_alloc | apply Kd.R_drewN | apply Kd.R_drew)); exact (Kd.R_mono (Kd.R_far (p := ⟨gb569, 2, none⟩) (Kd.R_far (p := ⟨gb569, 1, none⟩) (Kd.R_far (p := ⟨gb569, 0, none⟩) (Kd.R_types HO549.out BK569.out (by decide)) (fun _ hk => hk.2) (.int .i64 t562)) (fun _ hk => hk.2) (.slice Ao59 t563.length co59)) (fun _ hk => hk.2) (.slice Ao60 t566.length co60)) (fun _ h_ => h_.1))))) (Kd.R_lt (by (with_reducible repeat (first | apply Kd.R_alloc | apply Kd.R_drewN | apply Kd.R_drew)); exact (Kd.R_mono (Kd.R_far (p := ⟨gb569, 2, none⟩) (Kd.R_far (p := ⟨gb569, 1, none⟩) (Kd.R_far (p := ⟨gb569, 0, none⟩) (Kd.R_types HO552.out BK569.out (by decide)) (fun _ hk => hk.2) (.int .i64 t562)) (fun _ hk => hk.2) (.slice Ao59 t563.length co59)) (fun _ hk => hk.2) (.slice Ao60 t566.length co60)) (fun _ h_ => h_.1))))) (Kd.R_lt (by (with_reducible repeat (first | apply Kd.R_alloc | apply Kd.R_drewN | apply Kd.R_drew)); exact (Kd.R_mono (Kd.R_far (p := ⟨gb569, 2, none⟩) (Kd.R_far (p := ⟨gb569, 1, none⟩) (Kd.R_far (p := ⟨gb569, 0, none⟩) (Kd.R_types HO556.out BK569.out (by decide)) (fun _ hk => hk.2) (.int .i64 t562)) (fun _ hk => hk.2) (.slice Ao59 t563.length co59)) (fun _ hk => hk.2) (.slice Ao60 t566.length co60)) (fun _ h_ => h_.1))))) (Kd.R_lt (by (with_reducible repeat (first | apply Kd.R_alloc | apply Kd.R_drewN | apply Kd.R_drew)); exact (Kd.R_mono (Kd.R_far (p := ⟨gb569, 2, none⟩) (Kd.R_far (p := ⟨gb569, 1, none⟩) (Kd.R_far (p := ⟨gb569, 0, none⟩) (Kd.R_types HO559.out BK569.out (by decide)) (fun _ hk => hk.2) (.int .i64 t562)) (fun _ hk => hk.2) (.slice Ao59 t563.length co59)) (fun _ hk => hk.2) (.slice Ao60 t566.length co60)) (fun _ h_ => h_.1))))) (Kd.R_lt (by (with_reducible repeat (first | apply Kd.R_alloc | apply Kd.R_drewN | apply Kd.R_drew)); exact (Kd.R_mono (Kd.R_far (p := ⟨gb569, 2, none⟩) (Kd.R_far (p := ⟨gb569, 1, none⟩) (Kd.R_far (p := ⟨gb569, 0, none⟩) (Kd.R_types HO565.out BK569.out (by decide)) (fun _ hk => hk.2) (.int .i64 t562)) (fun _ hk => hk.2) (.slice Ao59 t563.length co59)) (fun _ hk => hk.2) (.slice Ao60 t566.length co60)) (fun _ h_ => h_.1))))) (Kd.R_lt (by (with_reducible repeat (first | apply Kd.R_alloc | apply Kd.R_drewN | apply Kd.R_drew)); exact (Kd.R_mono (Kd.R_far (p := ⟨gb569, 2, none⟩) (Kd.R_far (p := ⟨gb569, 1, none⟩) (Kd.R_far (p := ⟨gb569, 0, none⟩) (Kd.R_types HO568.out BK569.out (by decide)) (fun _ hk => hk.2) (.int .i64 t562)) (fun _ hk => hk.2) (.slice Ao59 t563.length co59)) (fun _ hk => hk.2) (.slice Ao60 t566.length co60)) (fun _ h_ => h_.1))))) (below_size (zb1 HB))); have n6F_ := Aside0.mk (Kd.R_lower (Kd.R_new' (Kd.R_new' (Kd.R_new' (Kd.R_new' (Kd.R_new' (Kd.R_new' ho0F (Kd.R_lt (by (with_reducible repeat (first | apply Kd.R_alloc | apply Kd.R_drewN | apply Kd.R_drew)); exact (Kd.R_mono (Kd.R_far (p := ⟨gb569, 2, none⟩) (Kd.R_far (p := ⟨gb569, 1, none⟩) (Kd.R_far (p := ⟨gb569, 0, none⟩) (Kd.R_types HO549.out BK569.out (by decide)) (fun _ hk => hk.2) (.int .i64 t562)) (fun _ hk => hk.2) (.slice Ao59 t563.length co59)) (fun _ hk => hk.2) (.slice Ao60 t566.length co60)) (fun _ h_ => h_.1))))) (Kd.R_lt (by (with_reducible repeat (first | apply Kd.R_alloc | apply Kd.R_drewN | apply Kd.R_drew)); exact (Kd.R_mono (Kd.R_far (p := ⟨gb569, 2, none⟩) (Kd.R_far (p := ⟨gb569, 1, none⟩) (Kd.R_far (p := ⟨gb569, 0, none⟩) (Kd.R_types HO552.out BK569.out (by decide)) (fun _ hk => hk.2) (.int .i64 t562)) (fun _ hk => hk.2) (.slice Ao59 t563.length co59)) (fun _ hk => hk.2) (.slice Ao60 t566.length co60)) (fun _ h_ => h_.1))))) (Kd.R_lt (by (with_reducible repeat (first | apply Kd.R_alloc | apply Kd.R_drewN | apply Kd.R_drew)); exact (Kd.R_mono (Kd.R_far (p := ⟨gb569, 2, none⟩) (Kd.R_far (p := ⟨gb569, 1, none⟩) (Kd.R_far (p := ⟨gb569, 0, none⟩) (Kd.R_types HO556.out BK569.out (by decide)) (fun _ hk => hk.2) (.int .i64 t562)) (fun _ hk => hk.2) (.slice Ao59 t563.length co59)) (fun _ hk => hk.2) (.slice Ao60 t566.length co60)) (fun _ h_ => h_.1))))) (Kd.R_lt (by (with_reducible repeat (first | apply Kd.R_alloc | apply Kd.R_drewN | apply Kd.R_drew)); exact (Kd.R_mono (Kd.R_far (p := ⟨gb569, 2, none⟩) (Kd.R_far (p := ⟨gb569, 1, none⟩) (Kd.R_far (p := ⟨gb569, 0, none⟩) (Kd.R_types HO559.out BK569.out (by decide)) (fun _ hk => hk.2) (.int .i64 t562)) (fun _ hk => hk.2) (.slice Ao59 t563.length co59)) (fun _ hk => hk.2) (.slice Ao60 t566.length co60)) (fun _ h_ => h_.1))))) (Kd.R_lt (by (with_reducible repeat (first | apply Kd.R_alloc | apply Kd.R_drewN | apply Kd.R_drew)); exact (Kd.R_mono (Kd.R_far (p := ⟨gb569, 2, none⟩) (Kd.R_far (p := ⟨gb569, 1, none⟩) (Kd.R_far (p := ⟨gb569, 0, none⟩) (Kd.R_types HO565.out BK569.out (by decide)) (fun _ hk => hk.2) (.int .i64 t562)) (fun _ hk => hk.2) (.slice Ao59 t563.length co59)) (fun _ hk => hk.2) (.slice Ao60 t566.length co60)) (fun _ h_ => h_.1))))) (Kd.R_lt (by (with_reducible repeat (first | apply Kd.R_alloc | apply Kd.R_drewN | apply Kd.R_drew)); exact (Kd.R_mono (Kd.R_far (p := ⟨gb569, 2, none⟩) (Kd.R_far (p := ⟨gb569, 1, none⟩) (Kd.R_far (p := ⟨gb569, 0, none⟩) (Kd.R_types HO568.out BK569.out (by decide)) (fun _ hk => hk.2) (.int .i64 t562)) (fun _ hk => hk.2) (.slice Ao59 t563.length co59)) (fun _ hk => hk.2) (.slice Ao60 t566.length co60)) (fun _ h_ => h_.1))))) (below_size (zb1 HB))); have n7_ := Aside0.mk (Kd.R_lower (Kd.R_new' (Kd.R_new' (Kd.R_new' (Kd.R_new' (Kd.R_new' (Kd.R_new' ho1 (Kd.R_lt (by (with_reducible repeat (first | apply Kd.R_alloc | apply Kd.R_drewN | apply Kd.R_drew)); exact (Kd.R_mono (Kd.R_far (p := ⟨gb569, 2, none⟩) (Kd.R_far (p := ⟨gb569, 1, none⟩) (Kd.R_far (p := ⟨gb569, 0, none⟩) (Kd.R_types HO549.out BK569.out (by decide)) (fun _ hk => hk.2) (.int .i64 t562)) (fun _ hk => hk.2) (.slice Ao59 t563.length co59)) (fun _ hk => hk.2) (.slice Ao60 t566.length co60)) (fun _ h_ => h_.1))))) (Kd.R_lt (by (with_reducible repeat (first | apply Kd.R_alloc | apply Kd.R_drewN | apply Kd.R_drew)); exact (Kd.R_mono (Kd.R_far (p := ⟨gb569, 2, none⟩) (Kd.R_far (p := ⟨gb569, 1, none⟩) (Kd.R_far (p := ⟨gb569, 0, none⟩) (Kd.R_types HO552.out BK569.out (by decide)) (fun _ hk => hk.2) (.int .i64 t562)) (fun _ hk => hk.2) (.slice Ao59 t563.length co59)) (fun _ hk => hk.2) (.slice Ao60 t566.length co60)) (fun _ h_ => h_.1))))) (Kd.R_lt (by (with_reducible repeat (first | apply Kd.R_alloc | apply Kd.R_drewN | apply Kd.R_drew)); exact (Kd.R_mono (Kd.R_far (p := ⟨gb569, 2, none⟩) (Kd.R_far (p := ⟨gb569, 1, none⟩) (Kd.R_far (p := ⟨gb569, 0, none⟩) (Kd.R_types HO556.out BK569.out (by decide)) (fun _ hk => hk.2) (.int .i64 t562)) (fun _ hk => hk.2) (.slice Ao59 t563.length co59)) (fun _ hk => hk.2) (.slice Ao60 t566.length co60)) (fun _ h_ => h_.1))))) (Kd.R_lt (by (with_reducible repeat (first | apply Kd.R_alloc | apply Kd.R_drewN | apply Kd.R_drew)); exact (Kd.R_mono (Kd.R_far (p := ⟨gb569, 2, none⟩) (Kd.R_far (p := ⟨gb569, 1, none⟩) (Kd.R_far (p := ⟨gb569, 0, none⟩) (Kd.R_types HO559.out BK569.out (by decide)) (fun _ hk => hk.2) (.int .i64 t562)) (fun _ hk => hk.2) (.slice Ao59 t563.length co59)) (fun _ hk => hk.2) (.slice Ao60 t566.length co60)) (fun _ h_ => h_.1))))) (Kd.R_lt (by (with_reducible repeat (first | apply Kd.R_alloc | apply Kd.R_drewN | apply Kd.R_drew)); exact (Kd.R_mono (Kd.R_far (p := ⟨gb569, 2, none⟩) (Kd.R_far (p := ⟨gb569, 1, none⟩) (Kd.R_far (p := ⟨gb569, 0, none⟩) (Kd.R_types HO565.out BK569.out (by decide)) (fun _ hk => hk.2) (.int .i64 t562)) (fun _ hk => hk.2) (.slice Ao59 t563.length co59)) (fun _ hk => hk.2) (.slice Ao60 t566.length co60)) (fun _ h_ => h_.1))))) (Kd.R_lt (by (with_reducible repeat (first | apply Kd.R_alloc | apply Kd.R_drewN | apply Kd.R_drew)); exact (Kd.R_mono (Kd.R_far (p := ⟨gb569, 2, none⟩) (Kd.R_far (p := ⟨gb569, 1, none⟩) (Kd.R_far (p := ⟨gb569, 0, none⟩) (Kd.R_types HO568.out BK569.out (by decide)) (fun _ hk => hk.2) (.int .i64 t562)) (fun _ hk => hk.2) (.slice Ao59 t563.length co59)) (fun _ hk => hk.2) (.slice Ao60 t566.length co60)) (fun _ h_ => h_.1))))) (below_size (zb1 HB))); have n7F_ := Aside0.mk (Kd.R_lower (Kd.R_new' (Kd.R_new' (Kd.R_new' (Kd.R_new' (Kd.R_new' (Kd.R_new' ho1F (Kd.R_lt (by (with_reducible repeat (first | apply Kd.R_alloc | apply Kd.R_drewN | apply Kd.R_drew)); exact (Kd.R_mono (Kd.R_far (p := ⟨gb569, 2, none⟩) (Kd.R_far (p := ⟨gb569, 1, none⟩) (Kd.R_far (p := ⟨gb569, 0, none⟩) (Kd.R_types HO549.out BK569.out (by decide)) (fun _ hk => hk.2) (.int .i64 t562)) (fun _ hk => hk.2) (.slice Ao59 t563.length co59)) (fun _ hk => hk.2) (.slice Ao60 t566.length co60)) (fun _ h_ => h_.1))))) (Kd.R_lt (by (with_reducible repeat (first | apply Kd.R_alloc | apply Kd.R_drewN | apply Kd.R_drew)); exact (Kd.R_mono (Kd.R_far (p := ⟨gb569, 2, none⟩) (Kd.R_far (p := ⟨gb569, 1, none⟩) (Kd.R_far (p := ⟨gb569, 0, none⟩) (Kd.R_types HO552.out BK569.out (by decide)) (fun _ hk => hk.2) (.int .i64 t562)) (fun _ hk => hk.2) (.slice Ao59 t563.length co59)) (fun _ hk => hk.2) (.slice Ao60 t566.length co60)) (fun _ h_ => h_.1))))) (Kd.R_lt (by (with_reducible repeat (first | apply Kd.R_alloc | apply Kd.R_drewN | apply Kd.R_drew)); exact (Kd.R_mono (Kd.R_far (p := ⟨gb569, 2, none⟩) (Kd.R_far (p := ⟨gb569, 1, none⟩) (Kd.R_far (p := ⟨gb569, 0, none⟩) (Kd.R_types HO556.out BK569.out (by decide)) (fun _ hk => hk.2) (.int .i64 t562)) (fun _ hk => hk.2) (.slice Ao59 t563.length co59)) (fun _ hk => hk.2) (.slice Ao60 t566.length co60)) (fun _ h_ => h_.1))))) (Kd.R_lt (by (with_reducible repeat (first | apply Kd.R_alloc | apply Kd.R_drewN | apply Kd.R_drew)); exact (Kd.R_mono (Kd.R_far (p := ⟨gb569, 2, none⟩) (Kd.R_far (p := ⟨gb569, 1, none⟩) (Kd.R_far (p := ⟨gb569, 0, none⟩) (Kd.R_types HO559.out BK569.out (by decide)) (fun _ hk => hk.2) (.int .i64 t562)) (fun _ hk => hk.2) (.slice Ao59 t563.length co59)) (fun _ hk => hk.2) (.slice Ao60 t566.length co60)) (fun _ h_ => h_.1))))) (Kd.R_lt (by (with_reducible repeat (first | apply Kd.R_alloc | apply Kd.R_drewN | apply Kd.R_drew)); exact (Kd.R_mono (Kd.R_far (p := ⟨gb569, 2, none⟩) (Kd.R_far (p := ⟨gb569, 1, none⟩) (Kd.R_far (p := ⟨gb569, 0, none⟩) (Kd.R_types HO565.out BK569.out (by decide)) (fun _ hk => hk.2) (.int .i64 t562)) (fun _ hk => hk.2) (.slice Ao59 t563.length co59)) (fun _ hk => hk.2) (.slice Ao60 t566.length co60)) (fun _ h_ => h_.1))))) (Kd.R_lt (by (with_reducible repeat (first | apply Kd.R_alloc | apply Kd.R_drewN | apply Kd.R_drew)); exact (Kd.R_mono (Kd.R_far (p := ⟨gb569, 2, none⟩) (Kd.R_far (p := ⟨gb569, 1, none⟩) (Kd.R_far (p := ⟨gb569, 0, none⟩) (Kd.R_types HO568.out BK569.out (by decide)) (fun _ hk => hk.2) (.int .i64 t562)) (fun _ hk => hk.2) (.slice Ao59 t563.length co59)) (fun _ hk => hk.2) (.slice Ao60 t566.length co60)) (fun _ h_ => h_.1))))) (below_size (zb1 HB))); have n8_ := Aside0.mk (blk_below (g := gb542) (o := .cells #[.int .i64 a0_0, .slice A0_1 l0_1.length c0_1, .slice A0_2 l0_2.length c0_2] 24 (0, 0)) (zq5 BK542) hb); have n9_ := Aside0.mk (blk_below (g := gb543) (o := .cells #[.int .i64 a1_0, .slice A1_1 l1_1.length c1_1, .slice A1_2 l1_2.length c1_2] 24 (0, 0)) (zq5 BK543) hb); have n10_ := Aside0.mk (blk_below (g := gb569) (o := .cells #[.int .i64 t562, .slice Ao59 t563.length co59, .slice Ao60 t566.length co60] 27 (0, 0)) (by (with_reducible repeat (first | refine blk_drewN ?_ _ | refine blk_drew ?_ | refine blk_alloc ?_ _)); refine blk_put (cs := #[.int .i64 t562, .slice Ao59 t563.length co59, .slice none 0 0]) ?_ 2 _ rfl; (with_reducible repeat (first | refine blk_drewN ?_ _ | refine blk_drew ?_ | refine blk_alloc ?_ _)); refine blk_put (cs := #[.int .i64 t562, .slice none 0 0, .slice none 0 0]) ?_ 1 _ rfl; (with_reducible repeat (first | refine blk_drewN ?_ _ | refine blk_drew ?_ | refine blk_alloc ?_ _)); refine blk_put (cs := #[.int .i64 0, .slice none 0 0, .slice none 0 0]) ?_ 0 _ rfl; (with_reducible repeat (first | refine blk_drewN ?_ _ | refine blk_drew ?_ | refine blk_alloc ?_ _)); exact BK569.out) hb); have n11_ := Aside0.mk (below_step (zb1 HB) hb); clear HO549 HO549F; clear HO552 HO552F; clear HO556 HO556F; clear HO559 HO559F; clear HO565 HO565F; clear HO568 HO568F; clear BK542; clear BK543; clear BK569; clear HB; have HO549 := n0_; have HO549F := n0F_; have HO552 := n1_; have HO552F := n1F_; have HO556 := n2_; have HO556F := n2F_; have HO559 := n3_; have HO559F := n3F_; have HO565 := n4_; have HO565F := n4F_; have HO568 := n5_; have HO568F := n5F_; have HO573 := n6_; have HO573F := n6F_; have HO576 := n7_; have HO576F := n7F_; have BK542 := n8_; have BK543 := n9_; have BK569 := n10_; have HB := n11_; clear n0_ n1_ n2_ n3_ n4_ n5_ n6_ n7_ n8_ n9_ n10_ n11_ n0F_ n1F_ n2F_ n3F_ n4F_ n5F_ n6F_ n7F_; (try clear hb); (try clear hb2); (try clear hk); (try clear hi); (try clear ho0); (try clear ho0F); (try clear ho1); (try clear ho1F)) | ((with_reducible refine gate_dst (N := 9) rfl ?_); refine zbe (N := 9) (cs := #[.int .i64 0, .slice none 0 0, .slice none 0 0]) (t := 27) ?_; intro gb577 hg w63 hbox hb; have n0_ := Aside0.mk (Kd.R_below (zq3 HO549) hb); have n0F_ := Aside0.mk (Kd.R_below (zq3 HO549F) hb); have n1_ := Aside0.mk (Kd.R_below (zq3 HO552) hb); have n1F_ := Aside0.mk (Kd.R_below (zq3 HO552F) hb); have n2_ := Aside0.mk (Kd.R_below (zq3 HO556) hb); have n2F_ := Aside0.mk (Kd.R_below (zq3 HO556F) hb); have n3_ := Aside0.mk (Kd.R_below (zq3 HO559) hb); have n3F_ := Aside0.mk (Kd.R_below (zq3 HO559F) hb); have n4_ := Aside0.mk (Kd.R_below (zq3 HO565) hb); have n4F_ := Aside0.mk (Kd.R_below (zq3 HO565F) hb); have n5_ := Aside0.mk (Kd.R_below (zq3 HO568) hb); have n5F_ := Aside0.mk (Kd.R_below (zq3 HO568F) hb); have n6_ := Aside0.mk (Kd.R_below (zq3 HO573) hb); have n6F_ := Aside0.mk (Kd.R_below (zq3 HO573F) hb); have n7_ := Aside0.mk (Kd.R_below (zq3 HO576) hb); have n7F_ := Aside0.mk (Kd.R_below (zq3 HO576F) hb); have n8_ := Aside0.mk (zbb BK542 hb); have n9_ := Aside0.mk (zbb BK543 hb); have n10_ := Aside0.mk (zbb BK569 hb); have n11_ := Aside0.mk (below_step (zb1 HB) hb); have n12_ := Aside0.mk (hbox); have n13_ := Aside0.mk (zge (zb1 HB) hg); have n14_ := Aside0.mk (zge (zb1 HB) hg); have n15_ := Aside0.mk (zlt BK542 hg); have n16_ := Aside0.mk (zgt BK542 hg); have n17_ := Aside0.mk (zlt BK543 hg); have n18_ := Aside0.mk (zgt BK543 hg); have n19_ := Aside0.mk (zlt BK569 hg); have n20_ := Aside0.mk (zgt BK569 hg); clear HO549 HO549F; clear HO552 HO552F; clear HO556 HO556F; clear HO559 HO559F; clear HO565 HO565F; clear HO568 HO568F; clear HO573 HO573F; clear HO576 HO576F; clear BK542; clear BK543; clear BK569; clear HB; have HO549 := n0_; have HO549F := n0F_; have HO552 := n1_; have HO552F := n1F_; have HO556 := n2_; have HO556F := n2F_; have HO559 := n3_; have HO559F := n3F_; have HO565 := n4_; have HO565F := n4F_; have HO568 := n5_; have HO568F := n5F_; have HO573 := n6_; have HO573F := n6F_; have HO576 := n7_; have HO576F := n7F_; have BK542 := n8_; have BK543 := n9_; have BK569 := n10_; have HB := n11_; have BK577 := n12_; have GW577 := n13_; have GE577 := n14_; have NB542_577 := n15_; have NB577_542 := n16_; have NB543_577 := n17_; have NB577_543 := n18_; have NB569_577 := n19_; have NB577_569 := n20_; clear n0_ n1_ n2_ n3_ n4_ n5_ n6_ n7_ n8_ n9_ n10_ n11_ n12_ n13_ n14_ n15_ n16_ n17_ n18_ n19_ n20_ n0F_ n1F_ n2F_ n3F_ n4F_ n5F_ n6F_ n7F_; clear hb hbox hg; have hnb64 := NB577_542.out; have hnc64 := NB542_577.out; have hnb65 := NB577_543.out; have hnc65 := NB543_577.out; have hnb66 := NB577_569.out; have hnc66 := NB569_577.out; have hcz67_0 : w63.cell? ⟨gb577, 0, none⟩ = some (.int .i64 0) := zc BK577 0; have hcz67_1 : w63.cell? ⟨gb577, 1, none⟩ = some (.slice none 0 0) := zc BK577 1; have hcz67_2 : w63.cell? ⟨gb577, 2, none⟩ = some (.slice none 0 0) := zc BK577 2; have hfz67_0 := blk_frozen BK577.out 0; have hfz67_1 := blk_frozen BK577.out 1; have hfz67_2 := blk_frozen BK577.out 2; obtain ⟨Ao68, co68, eo68⟩ := Kd.R_slice HO573.out; subst eo68; obtain ⟨Ao69, co69, eo69⟩ := Kd.R_slice HO576.out; subst eo69; have hcz70_0 : w63.cell? ⟨gb569, 0, none⟩ = some (.int .i64 t562) := zc BK569 0; have hcz70_1 : w63.cell? ⟨gb569, 1, none⟩ = some (.slice Ao59 t563.length co59) := zc BK569 1; have hcz70_2 : w63.cell? ⟨gb569, 2, none⟩ = some (.slice Ao60 t566.length co60) := zc BK569 2; have hfz70_0 := blk_frozen BK569.out 0; have hfz70_1 := blk_frozen BK569.out 1; have hfz70_2 := blk_frozen BK569.out 2) | ((with_reducible refine gate_callee (f := 22) rfl ?_); refine goesL_ (some 39) rfl rfl Try.func22 (by kernel_rfl) rfl #[.agg #[.int .i64 t562, .slice Ao59 t563.length co59, .slice Ao60 t566.length co60], .agg #[.int .i64 t570, .slice Ao68 t571.length co68, .slice Ao69 t574.length co69]] rfl zq6 ?_; (with_reducible refine (impl_IsBoxInside.calls k t562 _ _ t563 _ _ t566 t570 _ _ t571 _ _ t574 t578 t579 _ ?side1 ?side2 ?side3 ?side4 ?side5 ?side6 ?side7 ?side8 A24.out).mono ?_); (case side1 => refine (Kd.R_reads' (e := 3) (base := w.heap.size) (ok := fun k_ => ((((((some k_ ≠ (.slice Ao60 t566.length co60 : Value).ownBlock ∧ some k_ ≠ (.slice Ao48 t547.length co48 : Value).ownBlock) ∧ some k_ ≠ (.slice Ao49 t550.length co49 : Value).ownBlock) ∧ some k_ ≠ (.slice Ao50 t554.length co50 : Value).ownBlock) ∧ some k_ ≠ (.slice Ao51 t557.length co51 : Value).ownBlock) ∧ some k_ ≠ (.slice Ao68 t571.length co68 : Value).ownBlock) ∧ some k_ ≠ (.slice Ao69 t574.length co69 : Value).ownBlock)) (n := t563.length) (c := co59) ?_).2.2; exact (by (with_reducible repeat (first | apply Kd.R_alloc | apply Kd.R_drewN | apply Kd.R_drew)); exact (Kd.R_mono (Kd.R_far (p := ⟨gb577, 2, none⟩) (Kd.R_far (p := ⟨gb577, 1, none⟩) (Kd.R_far (p := ⟨gb577, 0, none⟩) (Kd.R_types HO565.out BK577.out (by decide)) (fun _ hk => hk.2) (.int .i64 t570)) (fun _ hk => hk.2) (.slice Ao68 t571.length co68)) (fun _ hk => hk.2) (.slice Ao69 t574.length co69)) (fun _ h_ => h_.1)))); (case side2 => exact (Kd.R_reads' HO565.out).2.1); (case side3 => refine (Kd.R_reads' (e := 3) (base := w.heap.size) (ok := fun k_ => ((((((some k_ ≠ (.slice Ao59 t563.length co59 : Value).ownBlock ∧ some k_ ≠ (.slice Ao48 t547.length co48 : Value).ownBlock) ∧ some k_ ≠ (.slice Ao49 t550.length co49 : Value).ownBlock) ∧ some k_ ≠ (.slice Ao50 t554.length co50 : Value).ownBlock) ∧ some k_ ≠ (.slice Ao51 t557.length co51 : Value).ownBlock) ∧ some k_ ≠ (.slice Ao68 t571.length co68 : Value).ownBlock) ∧ some k_ ≠ (.slice Ao69 t574.length co69 : Value).ownBlock)) (n := t566.length) (c := co60) ?_).2.2; exact (by (with_reducible repeat (first | apply Kd.R_alloc | apply Kd.R_drewN | apply Kd.R_drew)); exact (Kd.R_mono (Kd.R_far (p := ⟨gb577, 2, none⟩) (Kd.R_far (p := ⟨gb577, 1, none⟩) (Kd.R_far (p := ⟨gb577, 0, none⟩) (Kd.R_types HO568.out BK577.out (by decide)) (fun _ hk => hk.2) (.int .i64 t570)) (fun _ hk => hk.2) (.slice Ao68 t571.length co68)) (fun _ hk => hk.2) (.slice Ao69 t574.length co69)) (fun _ h_ => h_.1)))); (case side4 => exact (Kd.R_reads' HO568.out).2.1); (case side5 => refine (Kd.R_reads' (e := 3) (base := w.heap.size) (ok := fun k_ => ((((((some k_ ≠ (.slice Ao69 t574.length co69 : Value).ownBlock ∧ some k_ ≠ (.slice Ao48 t547.length co48 : Value).ownBlock) ∧ some k_ ≠ (.slice Ao49 t550.length co49 : Value).ownBlock) ∧ some k_ ≠ (.slice Ao50 t554.length co50 : Value).ownBlock) ∧ some k_ ≠ (.slice Ao51 t557.length co51 : Value).ownBlock) ∧ some k_ ≠ (.slice Ao59 t563.length co59 : Value).ownBlock) ∧ some k_ ≠ (.slice Ao60 t566.length co60 : Value).ownBlock)) (n := t571.length) (c := co68) ?_).2.2; exact (by (with_reducible repeat (first | apply Kd.R_alloc | apply Kd.R_drewN | apply Kd.R_drew)); exact (Kd.R_mono (Kd.R_far (p := ⟨gb577, 2, none⟩) (Kd.R_far (p := ⟨gb577, 1, none⟩) (Kd.R_far (p := ⟨gb577, 0, none⟩) (Kd.R_types HO573.out BK577.out (by decide)) (fun _ hk => hk.2) (.int .i64 t570)) (fun _ hk => hk.2) (.slice Ao68 t571.length co68)) (fun _ hk => hk.2) (.slice Ao69 t574.length co69)) (fun _ h_ => h_.1)))); (case side6 => exact (Kd.R_reads' HO573.out).2.1); (case side7 => refine (Kd.R_reads' (e := 3) (base := w.heap.size) (ok := fun k_ => ((((((some k_ ≠ (.slice Ao68 t571.length co68 : Value).ownBlock ∧ some k_ ≠ (.slice Ao48 t547.length co48 : Value).ownBlock) ∧ some k_ ≠ (.slice Ao49 t550.length co49 : Value).ownBlock) ∧ some k_ ≠ (.slice Ao50 t554.length co50 : Value).ownBlock) ∧ some k_ ≠ (.slice Ao51 t557.length co51 : Value).ownBlock) ∧ some k_ ≠ (.slice Ao59 t563.length co59 : Value).ownBlock) ∧ some k_ ≠ (.slice Ao60 t566.length co60 : Value).ownBlock)) (n := t574.length) (c := co69) ?_).2.2; exact (by (with_reducible repeat (first | apply Kd.R_alloc | apply Kd.R_drewN | apply Kd.R_drew)); exact (Kd.R_mono (Kd.R_far (p := ⟨gb577, 2, none⟩) (Kd.R_far (p := ⟨gb577, 1, none⟩) (Kd.R_far (p := ⟨gb577, 0, none⟩) (Kd.R_types HO576.out BK577.out (by decide)) (fun _ hk => hk.2) (.int .i64 t570)) (fun _ hk => hk.2) (.slice Ao68 t571.length co68)) (fun _ hk => hk.2) (.slice Ao69 t574.length co69)) (fun _ h_ => h_.1)))); (case side8 => exact (Kd.R_reads' HO576.out).2.1); rintro e w71 ⟨rfl, hb⟩; refine ⟨_, rfl, ?_⟩; have n0_ := Aside0.mk (Kd.R_below (by (with_reducible repeat (first | apply Kd.R_alloc | apply Kd.R_drewN | apply Kd.R_drew)); exact (Kd.R_mono (Kd.R_far (p := ⟨gb577, 2, none⟩) (Kd.R_far (p := ⟨gb577, 1, none⟩) (Kd.R_far (p := ⟨gb577, 0, none⟩) (Kd.R_types HO549.out BK577.out (by decide)) (fun _ hk => hk.2) (.int .i64 t570)) (fun _ hk => hk.2) (.slice Ao68 t571.length co68)) (fun _ hk => hk.2) (.slice Ao69 t574.length co69)) (fun _ h_ => h_.1))) hb); have n0F_ := Aside0.mk (Kd.R_below (by (with_reducible repeat (first | apply Kd.R_alloc | apply Kd.R_drewN | apply Kd.R_drew)); exact (Kd.R_mono (Kd.R_far (p := ⟨gb577, 2, none⟩) (Kd.R_far (p := ⟨gb577, 1, none⟩) (Kd.R_far (p := ⟨gb577, 0, none⟩) (Kd.R_types HO549F.out BK577.out (by decide)) (fun _ hk => hk.2) (.int .i64 t570)) (fun _ hk => hk.2) (.slice Ao68 t571.length co68)) (fun _ hk => hk.2) (.slice Ao69 t574.length co69)) (fun _ h_ => h_.1))) hb); have n1_ := Aside0.mk (Kd.R_below (by (with_reducible repeat (first | apply Kd.R_alloc | apply Kd.R_drewN | apply Kd.R_drew)); exact (Kd.R_mono (Kd.R_far (p := ⟨gb577, 2, none⟩) (Kd.R_far (p := ⟨gb577, 1, none⟩) (Kd.R_far (p := ⟨gb577, 0, none⟩) (Kd.R_types HO552.out BK577.out (by decide)) (fun _ hk => hk.2) (.int .i64 t570)) (fun _ hk => hk.2) (.slice Ao68 t571.length co68)) (fun _ hk => hk.2) (.slice Ao69 t574.length co69)) (fun _ h_ => h_.1))) hb); have n1F_ := Aside0.mk (Kd.R_below (by (with_reducible repeat (first | apply Kd.R_alloc | apply Kd.R_drewN | apply Kd.R_drew)); exact (Kd.R_mono (Kd.R_far (p := ⟨gb577, 2, none⟩) (Kd.R_far (p := ⟨gb577, 1, none⟩) (Kd.R_far (p := ⟨gb577, 0, none⟩) (Kd.R_types HO552F.out BK577.out (by decide)) (fun _ hk => hk.2) (.int .i64 t570)) (fun _ hk => hk.2) (.slice Ao68 t571.length co68)) (fun _ hk => hk.2) (.slice Ao69 t574.length co69)) (fun _ h_ => h_.1))) hb); have n2_ := Aside0.mk (Kd.R_below (by (with_reducible repeat (first | apply Kd.R_alloc | apply Kd.R_drewN | apply Kd.R_drew)); exact (Kd.R_mono (Kd.R_far (p := ⟨gb577, 2, none⟩) (Kd.R_far (p := ⟨gb577, 1, none⟩) (Kd.R_far (p := ⟨gb577, 0, none⟩) (Kd.R_types HO556.out BK577.out (by decide)) (fun _ hk => hk.2) (.int .i64 t570)) (fun _ hk => hk.2) (.slice Ao68 t571.length co68)) (fun _ hk => hk.2) (.slice Ao69 t574.length co69)) (fun _ h_ => h_.1))) hb); have n2F_ := Aside0.mk (Kd.R_below (by (with_reducible repeat (first | apply Kd.R_alloc | apply Kd.R_drewN | apply Kd.R_drew)); exact (Kd.R_mono (Kd.R_far (p := ⟨gb577, 2, none⟩) (Kd.R_far (p := ⟨gb577, 1, none⟩) (Kd.R_far (p := ⟨gb577, 0, none⟩) (Kd.R_types HO556F.out BK577.out (by decide)) (fun _ hk => hk.2) (.int .i64 t570)) (fun _ hk => hk.2) (.slice Ao68 t571.length co68)) (fun _ hk => hk.2) (.slice Ao69 t574.length co69)) (fun _ h_ => h_.1))) hb); have n3_ := Aside0.mk (Kd.R_below (by (with_reducible repeat (first | apply Kd.R_alloc | apply Kd.R_drewN | apply Kd.R_drew)); exact (Kd.R_mono (Kd.R_far (p := ⟨gb577, 2, none⟩) (Kd.R_far (p := ⟨gb577, 1, none⟩) (Kd.R_far (p := ⟨gb577, 0, none⟩) (Kd.R_types HO559.out BK577.out (by decide)) (fun _ hk => hk.2) (.int .i64 t570)) (fun _ hk => hk.2) (.slice Ao68 t571.length co68)) (fun _ hk => hk.2) (.slice Ao69 t574.length co69)) (fun _ h_ => h_.1))) hb); have n3F_ := Aside0.mk (Kd.R_below (by (with_reducible repeat (first | apply Kd.R_alloc | apply Kd.R_drewN | apply Kd.R_drew)); exact (Kd.R_mono (Kd.R_far (p := ⟨gb577, 2, none⟩) (Kd.R_far (p := ⟨gb577, 1, none⟩) (Kd.R_far (p := ⟨gb577, 0, none⟩) (Kd.R_types HO559F.out BK577.out (by decide)) (fun _ hk => hk.2) (.int .i64 t570)) (fun _ hk => hk.2) (.slice Ao68 t571.length co68)) (fun _ hk => hk.2) (.slice Ao69 t574.length co69)) (fun _ h_ => h_.1))) hb); have n4_ := Aside0.mk (Kd.R_below (by (with_reducible repeat (first | apply Kd.R_alloc | apply Kd.R_drewN | apply Kd.R_drew)); exact (Kd.R_mono (Kd.R_far (p := ⟨gb577, 2, none⟩) (Kd.R_far (p := ⟨gb577, 1, none⟩) (Kd.R_far (p := ⟨gb577, 0, none⟩) (Kd.R_types HO565.out BK577.out (by decide)) (fun _ hk => hk.2) (.int .i64 t570)) (fun _ hk => hk.2) (.slice Ao68 t571.length co68)) (fun _ hk => hk.2) (.slice Ao69 t574.length co69)) (fun _ h_ => h_.1))) hb); have n4F_ := Aside0.mk (Kd.R_below (by (with_reducible repeat (first | apply Kd.R_alloc | apply Kd.R_drewN | apply Kd.R_drew)); exact (Kd.R_mono (Kd.R_far (p := ⟨gb577, 2, none⟩) (Kd.R_far (p := ⟨gb577, 1, none⟩) (Kd.R_far (p := ⟨gb577, 0, none⟩) (Kd.R_types HO565F.out BK577.out (by decide)) (fun _ hk => hk.2) (.int .i64 t570)) (fun _ hk => hk.2) (.slice Ao68 t571.length co68)) (fun _ hk => hk.2) (.slice Ao69 t574.length co69)) (fun _ h_ => h_.1))) hb); have n5_ := Aside0.mk (Kd.R_below (by (with_reducible repeat (first | apply Kd.R_alloc | apply Kd.R_drewN | apply Kd.R_drew)); exact (Kd.R_mono (Kd.R_far (p := ⟨gb577, 2, none⟩) (Kd.R_far (p := ⟨gb577, 1, none⟩) (Kd.R_far (p := ⟨gb577, 0, none⟩) (Kd.R_types HO568.out BK577.out (by decide)) (fun _ hk => hk.2) (.int .i64 t570)) (fun _ hk => hk.2) (.slice Ao68 t571.length co68)) (fun _ hk => hk.2) (.slice Ao69 t574.length co69)) (fun _ h_ => h_.1))) hb); have n5F_ := Aside0.mk (Kd.R_below (by (with_reducible repeat (first | apply Kd.R_alloc | apply Kd.R_drewN | apply Kd.R_drew)); exact (Kd.R_mono (Kd.R_far (p := ⟨gb577, 2, none⟩) (Kd.R_far (p := ⟨gb577, 1, none⟩) (Kd.R_far (p := ⟨gb577, 0, none⟩) (Kd.R_types HO568F.out BK577.out (by decide)) (fun _ hk => hk.2) (.int .i64 t570)) (fun _ hk => hk.2) (.slice Ao68 t571.length co68)) (fun _ hk => hk.2) (.slice Ao69 t574.length co69)) (fun _ h_ => h_.1))) hb); have n6_ := Aside0.mk (Kd.R_below (by (with_reducible repeat (first | apply Kd.R_alloc | apply Kd.R_drewN | apply Kd.R_drew)); exact (Kd.R_mono (Kd.R_far (p := ⟨gb577, 2, none⟩) (Kd.R_far (p := ⟨gb577, 1, none⟩) (Kd.R_far (p := ⟨gb577, 0, none⟩) (Kd.R_types HO573.out BK577.out (by decide)) (fun _ hk => hk.2) (.int .i64 t570)) (fun _ hk => hk.2) (.slice Ao68 t571.length co68)) (fun _ hk => hk.2) (.slice Ao69 t574.length co69)) (fun _ h_ => h_.1))) hb); have n6F_ := Aside0.mk (Kd.R_below (by (with_reducible repeat (first | apply Kd.R_alloc | apply Kd.R_drewN | apply Kd.R_drew)); exact (Kd.R_mono (Kd.R_far (p := ⟨gb577, 2, none⟩) (Kd.R_far (p := ⟨gb577, 1, none⟩) (Kd.R_far (p := ⟨gb577, 0, none⟩) (Kd.R_types HO573F.out BK577.out (by decide)) (fun _ hk => hk.2) (.int .i64 t570)) (fun _ hk => hk.2) (.slice Ao68 t571.length co68)) (fun _ hk => hk.2) (.slice Ao69 t574.length co69)) (fun _ h_ => h_.1))) hb); have n7_ := Aside0.mk (Kd.R_below (by (with_reducible repeat (first | apply Kd.R_alloc | apply Kd.R_drewN | apply Kd.R_drew)); exact (Kd.R_mono (Kd.R_far (p := ⟨gb577, 2, none⟩) (Kd.R_far (p := ⟨gb577, 1, none⟩) (Kd.R_far (p := ⟨gb577, 0, none⟩) (Kd.R_types HO576.out BK577.out (by decide)) (fun _ hk => hk.2) (.int .i64 t570)) (fun _ hk => hk.2) (.slice Ao68 t571.length co68)) (fun _ hk => hk.2) (.slice Ao69 t574.length co69)) (fun _ h_ => h_.1))) hb); have n7F_ := Aside0.mk (Kd.R_below (by (with_reducible repeat (first | apply Kd.R_alloc | apply Kd.R_drewN | apply Kd.R_drew)); exact (Kd.R_mono (Kd.R_far (p := ⟨gb577, 2, none⟩) (Kd.R_far (p := ⟨gb577, 1, none⟩) (Kd.R_far (p := ⟨gb577, 0, none⟩) (Kd.R_types HO576F.out BK577.out (by decide)) (fun _ hk => hk.2) (.int .i64 t570)) (fun _ hk => hk.2) (.slice Ao68 t571.length co68)) (fun _ hk => hk.2) (.slice Ao69 t574.length co69)) (fun _ h_ => h_.1))) hb); have n8_ := Aside0.mk (blk_below (g := gb542) (o := .cells #[.int .i64 a0_0, .slice A0_1 l0_1.length c0_1, .slice A0_2 l0_2.length c0_2] 24 (0, 0)) (zq5 BK542) hb); have n9_ := Aside0.mk (blk_below (g := gb543) (o := .cells #[.int .i64 a1_0, .slice A1_1 l1_1.length c1_1, .slice A1_2 l1_2.length c1_2] 24 (0, 0)) (zq5 BK543) hb); have n10_ := Aside0.mk (blk_below (g := gb569) (o := .cells #[.int .i64 t562, .slice Ao59 t563.length co59, .slice Ao60 t566.length co60] 27 (0, 0)) (zq5 BK569) hb); have n11_ := Aside0.mk (blk_below (g := gb577) (o := .cells #[.int .i64 t570, .slice Ao68 t571.length co68, .slice Ao69 t574.length co69] 27 (0, 0)) (by (with_reducible repeat (first | refine blk_drewN ?_ _ | refine blk_drew ?_ | refine blk_alloc ?_ _)); refine blk_put (cs := #[.int .i64 t570, .slice Ao68 t571.length co68, .slice none 0 0]) ?_ 2 _ rfl; (with_reducible repeat (first | refine blk_drewN ?_ _ | refine blk_drew ?_ | refine blk_alloc ?_ _)); refine blk_put (cs := #[.int .i64 t570, .slice none 0 0, .slice none 0 0]) ?_ 1 _ rfl; (with_reducible repeat (first | refine blk_drewN ?_ _ | refine blk_drew ?_ | refine blk_alloc ?_ _)); refine blk_put (cs := #[.int .i64 0, .slice none 0 0, .slice none 0 0]) ?_ 0 _ rfl; (with_reducible repeat (first | refine blk_drewN ?_ _ | refine blk_drew ?_ | refine blk_alloc ?_ _)); exact BK577.out) hb); have n12_ := Aside0.mk (below_step (zb1 HB) hb); clear HO549 HO549F; clear HO552 HO552F; clear HO556 HO556F; clear HO559 HO559F; clear HO565 HO565F; clear HO568 HO568F; clear HO573 HO573F; clear HO576 HO576F; clear BK542; clear BK543; clear BK569; clear BK577; clear HB; have HO549 := n0_; have HO549F := n0F_; have HO552 := n1_; have HO552F := n1F_; have HO556 := n2_; have HO556F := n2F_; have HO559 := n3_; have HO559F := n3F_; have HO565 := n4_; have HO565F := n4F_; have HO568 := n5_; have HO568F := n5F_; have HO573 := n6_; have HO573F := n6F_; have HO576 := n7_; have HO576F := n7F_; have BK542 := n8_; have BK543 := n9_; have BK569 := n10_; have BK577 := n11_; have HB := n12_; clear n0_ n1_ n2_ n3_ n4_ n5_ n6_ n7_ n8_ n9_ n10_ n11_ n12_ n0F_ n1F_ n2F_ n3F_ n4F_ n5F_ n6F_ n7F_; (try clear hb); (try clear hb2); (try clear hk); (try clear hi)))
         have n0_ := Aside0.mk (Kd.R_drew HO549.out)
         have n0F_ := Aside0.mk (Kd.R_drew HO549F.out)
         have n1_ := Aside0.mk (Kd.R_drew HO552.out)
         have n1F_ := Aside0.mk (Kd.R_drew HO552F.out)
         have n2_ := Aside0.mk (Kd.R_drew HO556.out)
         have n2F_ := Aside0.mk (Kd.R_drew HO556F.out)
         have n3_ := Aside0.mk (Kd.R_drew HO559.out)
         have n3F_ := Aside0.mk (Kd.R_drew HO559F.out)
         have n4_ := Aside0.mk (Kd.R_drew HO565.out)
         have n4F_ := Aside0.mk (Kd.R_drew HO565F.out)
         have n5_ := Aside0.mk (Kd.R_drew HO568.out)
         have n5F_ := Aside0.mk (Kd.R_drew HO568F.out)
         have n6_ := Aside0.mk (Kd.R_drew HO573.out)
         have n6F_ := Aside0.mk (Kd.R_drew HO573F.out)
         have n7_ := Aside0.mk (Kd.R_drew HO576.out)
         have n7F_ := Aside0.mk (Kd.R_drew HO576F.out)
         have n8_ := Aside0.mk (blk_drew BK542.out)
         have n9_ := Aside0.mk (blk_drew BK543.out)
         have n10_ := Aside0.mk (blk_drew BK569.out)
         have n11_ := Aside0.mk (blk_drew BK577.out)
         have n12_ := Aside0.mk (below_drew1 HB.out)
         clear HO549 HO549F HO552 HO552F HO556 HO556F HO559 HO559F HO565 HO565F HO568 HO568F HO573 HO573F HO576 HO576F BK542 BK543 BK569 BK577 HB
         have HO549 := n0_; have HO549F := n0F_; have HO552 := n1_; have HO552F := n1F_; have HO556 := n2_; have HO556F := n2F_; have HO559 := n3_; have HO559F := n3F_; have HO565 := n4_; have HO565F := n4F_; have HO568 := n5_; have HO568F := n5F_; have HO573 := n6_; have HO573F := n6F_; have HO576 := n7_; have HO576F := n7F_; have BK542 := n8_; have BK543 := n9_; have BK569 := n10_; have BK577 := n11_; have HB := n12_
         clear n0_ n1_ n2_ n3_ n4_ n5_ n6_ n7_ n8_ n9_ n10_ n11_ n12_ n0F_ n1F_ n2F_ n3F_ n4F_ n5F_ n6F_ n7F_
         refine start_ (n := 5) (S := fun w' => w'.cell? ⟨gb569, 0, none⟩ = some (.int .i64 t562) ∧ w'.cell? ⟨gb569, 1, none⟩ = some (.slice Ao59 t563.length co59) ∧ w'.cell? ⟨gb569, 2, none⟩ = some (.slice Ao60 t566.length co60) ∧ w'.cell? ⟨gb542, 0, none⟩ = some (.int .i64 a0_0) ∧ w'.cell? ⟨gb542, 1, none⟩ = some (.slice A0_1 l0_1.length c0_1) ∧ w'.cell? ⟨gb542, 2, none⟩ = some (.slice A0_2 l0_2.length c0_2)) (ds := []) #[false, false, false, false, false] (by kernel_rfl) rfl rfl ⟨zc BK569 0, zc BK569 1, zc BK569 2, zc BK542 0, zc BK542 1, zc BK542 2⟩ (fun hHeld => ?_)
         generalize w71.drew = w72 at HO549 HO552 HO556 HO559 HO565 HO568 HO573 HO576 BK542 BK543 BK569 BK577 HB hHeld HO549F HO552F HO556F HO559F HO565F HO568F HO573F HO576F ⊢
         refine take_ (i := 0) (N := some 50) (v := ?_) (a' := ?_) #[true, false, false, false, false] rfl rfl (by kernel_rfl) (fun _ _ _ h => h) (Or.inl ⟨by rfl, ?_⟩) hHeld ?_ ?_
         rotate_left
         ·
          rintro w' ⟨s0, s1, s2, s3, s4, s5⟩
          go_simp
          with_reducible rfl
         rotate_left
         ·
          simp only [Act.put, List.setIfInBounds_toArray, List.set_cons_zero, List.set_cons_succ, i64_w, i32_w]
          rfl
         refine take_ (i := 1) (N := some 51) (v := ?_) (a' := ?_) #[true, true, false, false, false] rfl rfl (by kernel_rfl) (fun _ _ _ h => h) (Or.inl ⟨by rfl, ?_⟩) hHeld ?_ ?_
         rotate_left
         ·
          rintro w' ⟨s0, s1, s2, s3, s4, s5⟩
          go_simp
          with_reducible rfl
         rotate_left
         ·
          simp only [Act.put, List.setIfInBounds_toArray, List.set_cons_zero, List.set_cons_succ, i64_w, i32_w]
          rfl
         refine one_ (i := 2) (N := some 52) #[true, true, true, false, false] rfl rfl (by kernel_rfl) (by decide) (fun K hK => ?_)
         refine goes_ Try.func16 (by kernel_rfl) rfl #[.agg #[.int .i64 a0_0, .slice A0_1 l0_1.length c0_1, .slice A0_2 l0_2.length c0_2], .bool false] (by rfl) rfl rfl zq6 ?_
         with_reducible refine (laws_toBox.calls k a0_0 _ _ l0_1 _ _ l0_2 false t580 t581 t584 _ ?side1 ?side2 ?side3 ?side4 A27.out).mono ?_
         (case side1 => repeat (first | exact (Kd.C_below HR0_1.out HB.out) | (with_reducible refine Kd.C_alloc ?_ _) | (with_reducible refine Kd.C_drewN ?_ _) | (with_reducible refine Kd.C_drew ?_)))
         (case side2 => exact HC0_1.out)
         (case side3 => repeat (first | exact (Kd.C_below HR0_2.out HB.out) | (with_reducible refine Kd.C_alloc ?_ _) | (with_reducible refine Kd.C_drewN ?_ _) | (with_reducible refine Kd.C_drew ?_)))
         (case side4 => exact HC0_2.out)
         rintro e w73 ⟨v582, v585, rfl, ho0, ho1, hb, ho0F, ho1F⟩
         refine ⟨_, rfl, ?_⟩
         have n0_ := Aside0.mk (Kd.R_mono (Kd.R_told (Kd.R_told (Kd.R_old (zq3 HO549) hb) (Kd.R_base ho0)) (Kd.R_base ho1)) (fun _ h_ => h_.1))
         have n0F_ := Aside0.mk (Kd.R_mono (Kd.R_told (Kd.R_told (Kd.R_old (zq3 HO549F) hb) (Kd.R_base ho0)) (Kd.R_base ho1)) (fun _ h_ => h_.1))
         have n1_ := Aside0.mk (Kd.R_mono (Kd.R_told (Kd.R_told (Kd.R_old (zq3 HO552) hb) (Kd.R_base ho0)) (Kd.R_base ho1)) (fun _ h_ => h_.1))
         have n1F_ := Aside0.mk (Kd.R_mono (Kd.R_told (Kd.R_told (Kd.R_old (zq3 HO552F) hb) (Kd.R_base ho0)) (Kd.R_base ho1)) (fun _ h_ => h_.1))
         have n2_ := Aside0.mk (Kd.R_mono (Kd.R_told (Kd.R_told (Kd.R_old (zq3 HO556) hb) (Kd.R_base ho0)) (Kd.R_base ho1)) (fun _ h_ => h_.1))
         have n2F_ := Aside0.mk (Kd.R_mono (Kd.R_told (Kd.R_told (Kd.R_old (zq3 HO556F) hb) (Kd.R_base ho0)) (Kd.R_base ho1)) (fun _ h_ => h_.1))
         have n3_ := Aside0.mk (Kd.R_mono (Kd.R_told (Kd.R_told (Kd.R_old (zq3 HO559) hb) (Kd.R_base ho0)) (Kd.R_base ho1)) (fun _ h_ => h_.1))
         have n3F_ := Aside0.mk (Kd.R_mono (Kd.R_told (Kd.R_told (Kd.R_old (zq3 HO559F) hb) (Kd.R_base ho0)) (Kd.R_base ho1)) (fun _ h_ => h_.1))
         have n4_ := Aside0.mk (Kd.R_mono (Kd.R_told (Kd.R_told (Kd.R_old (zq3 HO565) hb) (Kd.R_base ho0)) (Kd.R_base ho1)) (fun _ h_ => h_.1))
         have n4F_ := Aside0.mk (Kd.R_mono (Kd.R_told (Kd.R_told (Kd.R_old (zq3 HO565F) hb) (Kd.R_base ho0)) (Kd.R_base ho1)) (fun _ h_ => h_.1))
         have n5_ := Aside0.mk (Kd.R_mono (Kd.R_told (Kd.R_told (Kd.R_old (zq3 HO568) hb) (Kd.R_base ho0)) (Kd.R_base ho1)) (fun _ h_ => h_.1))
         have n5F_ := Aside0.mk (Kd.R_mono (Kd.R_told (Kd.R_told (Kd.R_old (zq3 HO568F) hb) (Kd.R_base ho0)) (Kd.R_base ho1)) (fun _ h_ => h_.1))
         have n6_ := Aside0.mk (Kd.R_mono (Kd.R_told (Kd.R_told (Kd.R_old (zq3 HO573) hb) (Kd.R_base ho0)) (Kd.R_base ho1)) (fun _ h_ => h_.1))
         have n6F_ := Aside0.mk (Kd.R_mono (Kd.R_told (Kd.R_told (Kd.R_old (zq3 HO573F) hb) (Kd.R_base ho0)) (Kd.R_base ho1)) (fun _ h_ => h_.1))
         have n7_ := Aside0.mk (Kd.R_mono (Kd.R_told (Kd.R_told (Kd.R_old (zq3 HO576) hb) (Kd.R_base ho0)) (Kd.R_base ho1)) (fun _ h_ => h_.1))
         have n7F_ := Aside0.mk (Kd.R_mono (Kd.R_told (Kd.R_told (Kd.R_old (zq3 HO576F) hb) (Kd.R_base ho0)) (Kd.R_base ho1)) (fun _ h_ => h_.1))
         have n8_ := Aside0.mk (Kd.R_lower (Kd.R_new' (Kd.R_new' (Kd.R_new' (Kd.R_new' (Kd.R_new' (Kd.R_new' (Kd.R_new' (Kd.R_new' ho0 (Kd.R_lt (zq3 HO549))) (Kd.R_lt (zq3 HO552))) (Kd.R_lt (zq3 HO556))) (Kd.R_lt (zq3 HO559))) (Kd.R_lt (zq3 HO565))) (Kd.R_lt (zq3 HO568))) (Kd.R_lt (zq3 HO573))) (Kd.R_lt (zq3 HO576))) (below_size (zb1 HB)))
         have n8F_ := Aside0.mk (Kd.R_lower (Kd.R_new' (Kd.R_new' (Kd.R_new' (Kd.R_new' (Kd.R_new' (Kd.R_new' (Kd.R_new' (Kd.R_new' ho0F (Kd.R_lt (zq3 HO549))) (Kd.R_lt (zq3 HO552))) (Kd.R_lt (zq3 HO556))) (Kd.R_lt (zq3 HO559))) (Kd.R_lt (zq3 HO565))) (Kd.R_lt (zq3 HO568))) (Kd.R_lt (zq3 HO573))) (Kd.R_lt (zq3 HO576))) (below_size (zb1 HB)))
         have n9_ := Aside0.mk (Kd.R_lower (Kd.R_new' (Kd.R_new' (Kd.R_new' (Kd.R_new' (Kd.R_new' (Kd.R_new' (Kd.R_new' (Kd.R_new' ho1 (Kd.R_lt (zq3 HO549))) (Kd.R_lt (zq3 HO552))) (Kd.R_lt (zq3 HO556))) (Kd.R_lt (zq3 HO559))) (Kd.R_lt (zq3 HO565))) (Kd.R_lt (zq3 HO568))) (Kd.R_lt (zq3 HO573))) (Kd.R_lt (zq3 HO576))) (below_size (zb1 HB)))
         have n9F_ := Aside0.mk (Kd.R_lower (Kd.R_new' (Kd.R_new' (Kd.R_new' (Kd.R_new' (Kd.R_new' (Kd.R_new' (Kd.R_new' (Kd.R_new' ho1F (Kd.R_lt (zq3 HO549))) (Kd.R_lt (zq3 HO552))) (Kd.R_lt (zq3 HO556))) (Kd.R_lt (zq3 HO559))) (Kd.R_lt (zq3 HO565))) (Kd.R_lt (zq3 HO568))) (Kd.R_lt (zq3 HO573))) (Kd.R_lt (zq3 HO576))) (below_size (zb1 HB)))
         have n10_ := Aside0.mk (zbb BK542 hb)
         have n11_ := Aside0.mk (zbb BK543 hb)
         have n12_ := Aside0.mk (zbb BK569 hb)
         have n13_ := Aside0.mk (zbb BK577 hb)
         have n14_ := Aside0.mk (below_step (zb1 HB) hb)
         clear HO549 HO549F HO552 HO552F HO556 HO556F HO559 HO559F HO565 HO565F HO568 HO568F HO573 HO573F HO576 HO576F BK542 BK543 BK569 BK577 HB
         have HO549 := n0_; have HO549F := n0F_; have HO552 := n1_; have HO552F := n1F_; have HO556 := n2_; have HO556F := n2F_; have HO559 := n3_; have HO559F := n3F_; have HO565 := n4_; have HO565F := n4F_; have HO568 := n5_; have HO568F := n5F_; have HO573 := n6_; have HO573F := n6F_; have HO576 := n7_; have HO576F := n7F_; have HO583 := n8_; have HO583F := n8F_; have HO586 := n9_; have HO586F := n9F_; have BK542 := n10_; have BK543 := n11_; have BK569 := n12_; have BK577 := n13_; have HB := n14_
         clear n0_ n1_ n2_ n3_ n4_ n5_ n6_ n7_ n8_ n9_ n10_ n11_ n12_ n13_ n14_ n0F_ n1F_ n2F_ n3F_ n4F_ n5F_ n6F_ n7F_ n8F_ n9F_
         (try clear hb)
         (try clear hb2)
         (try clear hk)
         (try clear hi)
         (try clear ho0)
         (try clear ho0F)
         (try clear ho1)
         (try clear ho1F)
         obtain ⟨Ao74, co74, eo74⟩ := Kd.R_slice HO583.out
         (first | subst eo74 | (injection eo74 with f1_ f2_ f3_; have f4_ := f1_.symm; have f5_ := f3_.symm; clear f1_ f2_ f3_; subst f4_; subst f5_))
         obtain ⟨Ao75, co75, eo75⟩ := Kd.R_slice HO586.out
         (first | subst eo75 | (injection eo75 with f1_ f2_ f3_; have f4_ := f1_.symm; have f5_ := f3_.symm; clear f1_ f2_ f3_; subst f4_; subst f5_))
         refine hK.out _ _ ⟨zc BK569 0, zc BK569 1, zc BK569 2, zc BK542 0, zc BK542 1, zc BK542 2⟩ (fun hHeld => ?_)
         clear hK K
         refine norm_ (a' := ?_) ?_ ?_
         rotate_left
         ·
          show Act.put _ (some 52) _ = _
          simp only [Act.put, List.setIfInBounds_toArray, List.set_cons_zero, List.set_cons_succ, i64_w, i32_w]; rfl
         refine one_ (i := 3) (N := some 53) #[true, true, true, true, false] rfl rfl (by kernel_rfl) (by decide) (fun K hK => ?_)
         refine goes_ Try.func18 (by kernel_rfl) rfl #[.agg #[.int .i64 t562, .slice Ao59 t563.length co59, .slice Ao60 t566.length co60], .agg #[.int .i64 t580, .slice Ao74 t581.length co74, .slice Ao75 t584.length co75]] (by rfl) rfl rfl zq6 ?_
         with_reducible refine (laws_intactBox.calls t562 _ _ t563 _ _ t566 t580 _ _ t581 _ _ t584 true _ ?side1 ?side2 ?side3 ?side4 ?side5 ?side6 ?side7 ?side8 A28.out ?sideF1 ?sideF2 ?sideF3 ?sideF4 ?sideF5 ?sideF6 ?sideF7 ?sideF8).mono ?_
         (case side1 => repeat (first | exact (Kd.R_reads' HO565.out).2.2 | (with_reducible refine Kd.C_alloc ?_ _) | (with_reducible refine Kd.C_drewN ?_ _) | (with_reducible refine Kd.C_drew ?_)))
         (case side2 => exact (Kd.R_reads' HO565.out).2.1)
         (case side3 => repeat (first | exact (Kd.R_reads' HO568.out).2.2 | (with_reducible refine Kd.C_alloc ?_ _) | (with_reducible refine Kd.C_drewN ?_ _) | (with_reducible refine Kd.C_drew ?_)))
         (case side4 => exact (Kd.R_reads' HO568.out).2.1)
         (case side5 => repeat (first | exact (Kd.R_reads' HO583.out).2.2 | (with_reducible refine Kd.C_alloc ?_ _) | (with_reducible refine Kd.C_drewN ?_ _) | (with_reducible refine Kd.C_drew ?_)))
         (case side6 => exact (Kd.R_reads' HO583.out).2.1)
         (case side7 => repeat (first | exact (Kd.R_reads' HO586.out).2.2 | (with_reducible refine Kd.C_alloc ?_ _) | (with_reducible refine Kd.C_drewN ?_ _) | (with_reducible refine Kd.C_drew ?_)))
         (case side8 => exact (Kd.R_reads' HO586.out).2.1)
         (case sideF1 => repeat (first | exact (Kd.R_reads' HO565F.out).2.2 | (with_reducible refine Kd.C_alloc ?_ _) | (with_reducible refine Kd.C_drewN ?_ _) | (with_reducible refine Kd.C_drew ?_)))
         (case sideF2 => exact (Kd.R_reads' HO565F.out).2.1)
         (case sideF3 => repeat (first | exact (Kd.R_reads' HO568F.out).2.2 | (with_reducible refine Kd.C_alloc ?_ _) | (with_reducible refine Kd.C_drewN ?_ _) | (with_reducible refine Kd.C_drew ?_)))
         (case sideF4 => exact (Kd.R_reads' HO568F.out).2.1)
         (case sideF5 => repeat (first | exact (Kd.R_reads' HO583F.out).2.2 | (with_reducible refine Kd.C_alloc ?_ _) | (with_reducible refine Kd.C_drewN ?_ _) | (with_reducible refine Kd.C_drew ?_)))
         (case sideF6 => exact (Kd.R_reads' HO583F.out).2.1)
         (case sideF7 => repeat (first | exact (Kd.R_reads' HO586F.out).2.2 | (with_reducible refine Kd.C_alloc ?_ _) | (with_reducible refine Kd.C_drewN ?_ _) | (with_reducible refine Kd.C_drew ?_)))
         (case sideF8 => exact (Kd.R_reads' HO586F.out).2.1)
         rintro e w76 ⟨rfl, hb⟩
         refine ⟨_, rfl, ?_⟩
         have n0_ := Aside0.mk (Kd.R_below (zq3 HO549) hb)
         have n0F_ := Aside0.mk (Kd.R_below (zq3 HO549F) hb)
         have n1_ := Aside0.mk (Kd.R_below (zq3 HO552) hb)
         have n1F_ := Aside0.mk (Kd.R_below (zq3 HO552F) hb)
         have n2_ := Aside0.mk (Kd.R_below (zq3 HO556) hb)
         have n2F_ := Aside0.mk (Kd.R_below (zq3 HO556F) hb)
         have n3_ := Aside0.mk (Kd.R_below (zq3 HO559) hb)
         have n3F_ := Aside0.mk (Kd.R_below (zq3 HO559F) hb)
         have n4_ := Aside0.mk (Kd.R_below (zq3 HO565) hb)
         have n4F_ := Aside0.mk (Kd.R_below (zq3 HO565F) hb)
         have n5_ := Aside0.mk (Kd.R_below (zq3 HO568) hb)
         have n5F_ := Aside0.mk (Kd.R_below (zq3 HO568F) hb)
         have n6_ := Aside0.mk (Kd.R_below (zq3 HO573) hb)
         have n6F_ := Aside0.mk (Kd.R_below (zq3 HO573F) hb)
         have n7_ := Aside0.mk (Kd.R_below (zq3 HO576) hb)
         have n7F_ := Aside0.mk (Kd.R_below (zq3 HO576F) hb)
         have n8_ := Aside0.mk (Kd.R_below (zq3 HO583) hb)
         have n8F_ := Aside0.mk (Kd.R_below (zq3 HO583F) hb)
         have n9_ := Aside0.mk (Kd.R_below (zq3 HO586) hb)
         have n9F_ := Aside0.mk (Kd.R_below (zq3 HO586F) hb)
         have n10_ := Aside0.mk (zbb BK542 hb)
         have n11_ := Aside0.mk (zbb BK543 hb)
         have n12_ := Aside0.mk (zbb BK569 hb)
         have n13_ := Aside0.mk (zbb BK577 hb)
         have n14_ := Aside0.mk (below_step (zb1 HB) hb)
         clear HO549 HO549F HO552 HO552F HO556 HO556F HO559 HO559F HO565 HO565F HO568 HO568F HO573 HO573F HO576 HO576F HO583 HO583F HO586 HO586F BK542 BK543 BK569 BK577 HB
         have HO549 := n0_; have HO549F := n0F_; have HO552 := n1_; have HO552F := n1F_; have HO556 := n2_; have HO556F := n2F_; have HO559 := n3_; have HO559F := n3F_; have HO565 := n4_; have HO565F := n4F_; have HO568 := n5_; have HO568F := n5F_; have HO573 := n6_; have HO573F := n6F_; have HO576 := n7_; have HO576F := n7F_; have HO583 := n8_; have HO583F := n8F_; have HO586 := n9_; have HO586F := n9F_; have BK542 := n10_; have BK543 := n11_; have BK569 := n12_; have BK577 := n13_; have HB := n14_
         clear n0_ n1_ n2_ n3_ n4_ n5_ n6_ n7_ n8_ n9_ n10_ n11_ n12_ n13_ n14_ n0F_ n1F_ n2F_ n3F_ n4F_ n5F_ n6F_ n7F_ n8F_ n9F_
         (try clear hb)
         (try clear hb2)
         (try clear hk)
         (try clear hi)
         refine hK.out _ _ ⟨zc BK569 0, zc BK569 1, zc BK569 2, zc BK542 0, zc BK542 1, zc BK542 2⟩ (fun hHeld => ?_)
         clear hK K
         refine norm_ (a' := ?_) ?_ ?_
         rotate_left
         ·
          show Act.put _ (some 53) _ = _
          simp only [Act.put, List.setIfInBounds_toArray, List.set_cons_zero, List.set_cons_succ, i64_w, i32_w]; rfl
         refine pure_ (i := 4) (N := some 54) (v := ?_) (a' := ?_) #[true, true, true, true, true] rfl rfl (by kernel_rfl) (fun _ _ _ h => h) (Or.inl ⟨by rfl, ?_⟩) ?_ ?_
         rotate_left
         ·
          intro w'
          go_simp
          with_reducible rfl
         rotate_left
         ·
          simp only [Act.put, List.setIfInBounds_toArray, List.set_cons_zero, List.set_cons_succ, i64_w, i32_w]
          rfl
         refine done_ (by kernel_rfl) ?_
         try go_wp2
         have n0_ := Aside0.mk (Kd.R_drew HO549.out)
         have n0F_ := Aside0.mk (Kd.R_drew HO549F.out)
         have n1_ := Aside0.mk (Kd.R_drew HO552.out)
         have n1F_ := Aside0.mk (Kd.R_drew HO552F.out)
         have n2_ := Aside0.mk (Kd.R_drew HO556.out)
         have n2F_ := Aside0.mk (Kd.R_drew HO556F.out)
         have n3_ := Aside0.mk (Kd.R_drew HO559.out)
         have n3F_ := Aside0.mk (Kd.R_drew HO559F.out)
         have n4_ := Aside0.mk (Kd.R_drew HO565.out)
         have n4F_ := Aside0.mk (Kd.R_drew HO565F.out)
         have n5_ := Aside0.mk (Kd.R_drew HO568.out)
         have n5F_ := Aside0.mk (Kd.R_drew HO568F.out)
         have n6_ := Aside0.mk (Kd.R_drew HO573.out)
         have n6F_ := Aside0.mk (Kd.R_drew HO573F.out)
         have n7_ := Aside0.mk (Kd.R_drew HO576.out)
         have n7F_ := Aside0.mk (Kd.R_drew HO576F.out)
         have n8_ := Aside0.mk (Kd.R_drew HO583.out)
         have n8F_ := Aside0.mk (Kd.R_drew HO583F.out)
         have n9_ := Aside0.mk (Kd.R_drew HO586.out)
         have n9F_ := Aside0.mk (Kd.R_drew HO586F.out)
         have n10_ := Aside0.mk (blk_drew BK542.out)
         have n11_ := Aside0.mk (blk_drew BK543.out)
         have n12_ := Aside0.mk (blk_drew BK569.out)
         have n13_ := Aside0.mk (blk_drew BK577.out)
         have n14_ := Aside0.mk (below_drew1 HB.out)
         clear HO549 HO549F HO552 HO552F HO556 HO556F HO559 HO559F HO565 HO565F HO568 HO568F HO573 HO573F HO576 HO576F HO583 HO583F HO586 HO586F BK542 BK543 BK569 BK577 HB
         have HO549 := n0_; have HO549F := n0F_; have HO552 := n1_; have HO552F := n1F_; have HO556 := n2_; have HO556F := n2F_; have HO559 := n3_; have HO559F := n3F_; have HO565 := n4_; have HO565F := n4F_; have HO568 := n5_; have HO568F := n5F_; have HO573 := n6_; have HO573F := n6F_; have HO576 := n7_; have HO576F := n7F_; have HO583 := n8_; have HO583F := n8F_; have HO586 := n9_; have HO586F := n9F_; have BK542 := n10_; have BK543 := n11_; have BK569 := n12_; have BK577 := n13_; have HB := n14_
         clear n0_ n1_ n2_ n3_ n4_ n5_ n6_ n7_ n8_ n9_ n10_ n11_ n12_ n13_ n14_ n0F_ n1F_ n2F_ n3F_ n4F_ n5F_ n6F_ n7F_ n8F_ n9F_
         refine start_ (n := 5) (S := fun w' => w'.cell? ⟨gb577, 0, none⟩ = some (.int .i64 t570) ∧ w'.cell? ⟨gb577, 1, none⟩ = some (.slice Ao68 t571.length co68) ∧ w'.cell? ⟨gb577, 2, none⟩ = some (.slice Ao69 t574.length co69) ∧ w'.cell? ⟨gb543, 0, none⟩ = some (.int .i64 a1_0) ∧ w'.cell? ⟨gb543, 1, none⟩ = some (.slice A1_1 l1_1.length c1_1) ∧ w'.cell? ⟨gb543, 2, none⟩ = some (.slice A1_2 l1_2.length c1_2)) (ds := []) #[false, false, false, false, false] (by kernel_rfl) rfl rfl ⟨zc BK577 0, zc BK577 1, zc BK577 2, zc BK543 0, zc BK543 1, zc BK543 2⟩ (fun hHeld => ?_)
         generalize w76.drew = w77 at HO549 HO552 HO556 HO559 HO565 HO568 HO573 HO576 HO583 HO586 BK542 BK543 BK569 BK577 HB hHeld HO549F HO552F HO556F HO559F HO565F HO568F HO573F HO576F HO583F HO586F ⊢
         refine take_ (i := 0) (N := some 55) (v := ?_) (a' := ?_) #[true, false, false, false, false] rfl rfl (by kernel_rfl) (fun _ _ _ h => h) (Or.inl ⟨by rfl, ?_⟩) hHeld ?_ ?_
         rotate_left
         ·
          rintro w' ⟨s0, s1, s2, s3, s4, s5⟩
          go_simp
          with_reducible rfl
         rotate_left
         ·
          simp only [Act.put, List.setIfInBounds_toArray, List.set_cons_zero, List.set_cons_succ, i64_w, i32_w]
          rfl
         refine take_ (i := 1) (N := some 56) (v := ?_) (a' := ?_) #[true, true, false, false, false] rfl rfl (by kernel_rfl) (fun _ _ _ h => h) (Or.inl ⟨by rfl, ?_⟩) hHeld ?_ ?_
         rotate_left
         ·
          rintro w' ⟨s0, s1, s2, s3, s4, s5⟩
          go_simp
          with_reducible rfl
         rotate_left
         ·
          simp only [Act.put, List.setIfInBounds_toArray, List.set_cons_zero, List.set_cons_succ, i64_w, i32_w]
          rfl
         refine one_ (i := 2) (N := some 57) #[true, true, true, false, false] rfl rfl (by kernel_rfl) (by decide) (fun K hK => ?_)
         refine goes_ Try.func16 (by kernel_rfl) rfl #[.agg #[.int .i64 a1_0, .slice A1_1 l1_1.length c1_1, .slice A1_2 l1_2.length c1_2], .bool false] (by rfl) rfl rfl zq6 ?_
         with_reducible refine (laws_toBox.calls k a1_0 _ _ l1_1 _ _ l1_2 false t588 t589 t592 _ ?side1 ?side2 ?side3 ?side4 A30.out).mono ?_
         (case side1 => repeat (first | exact (Kd.C_below HR1_1.out HB.out) | (with_reducible refine Kd.C_alloc ?_ _) | (with_reducible refine Kd.C_drewN ?_ _) | (with_reducible refine Kd.C_drew ?_)))
         (case side2 => exact HC1_1.out)
         (case side3 => repeat (first | exact (Kd.C_below HR1_2.out HB.out) | (with_reducible refine Kd.C_alloc ?_ _) | (with_reducible refine Kd.C_drewN ?_ _) | (with_reducible refine Kd.C_drew ?_)))
         (case side4 => exact HC1_2.out)
         rintro e w78 ⟨v590, v593, rfl, ho0, ho1, hb, ho0F, ho1F⟩
         refine ⟨_, rfl, ?_⟩
         have n0_ := Aside0.mk (Kd.R_mono (Kd.R_told (Kd.R_told (Kd.R_old (zq3 HO549) hb) (Kd.R_base ho0)) (Kd.R_base ho1)) (fun _ h_ => h_.1))
         have n0F_ := Aside0.mk (Kd.R_mono (Kd.R_told (Kd.R_told (Kd.R_old (zq3 HO549F) hb) (Kd.R_base ho0)) (Kd.R_base ho1)) (fun _ h_ => h_.1))
         have n1_ := Aside0.mk (Kd.R_mono (Kd.R_told (Kd.R_told (Kd.R_old (zq3 HO552) hb) (Kd.R_base ho0)) (Kd.R_base ho1)) (fun _ h_ => h_.1))
         have n1F_ := Aside0.mk (Kd.R_mono (Kd.R_told (Kd.R_told (Kd.R_old (zq3 HO552F) hb) (Kd.R_base ho0)) (Kd.R_base ho1)) (fun _ h_ => h_.1))
         have n2_ := Aside0.mk (Kd.R_mono (Kd.R_told (Kd.R_told (Kd.R_old (zq3 HO556) hb) (Kd.R_base ho0)) (Kd.R_base ho1)) (fun _ h_ => h_.1))
         have n2F_ := Aside0.mk (Kd.R_mono (Kd.R_told (Kd.R_told (Kd.R_old (zq3 HO556F) hb) (Kd.R_base ho0)) (Kd.R_base ho1)) (fun _ h_ => h_.1))
         have n3_ := Aside0.mk (Kd.R_mono (Kd.R_told (Kd.R_told (Kd.R_old (zq3 HO559) hb) (Kd.R_base ho0)) (Kd.R_base ho1)) (fun _ h_ => h_.1))
         have n3F_ := Aside0.mk (Kd.R_mono (Kd.R_told (Kd.R_told (Kd.R_old (zq3 HO559F) hb) (Kd.R_base ho0)) (Kd.R_base ho1)) (fun _ h_ => h_.1))
         have n4_ := Aside0.mk (Kd.R_mono (Kd.R_told (Kd.R_told (Kd.R_old (zq3 HO565) hb) (Kd.R_base ho0)) (Kd.R_base ho1)) (fun _ h_ => h_.1))
         have n4F_ := Aside0.mk (Kd.R_mono (Kd.R_told (Kd.R_told (Kd.R_old (zq3 HO565F) hb) (Kd.R_base ho0)) (Kd.R_base ho1)) (fun _ h_ => h_.1))
         have n5_ := Aside0.mk (Kd.R_mono (Kd.R_told (Kd.R_told (Kd.R_old (zq3 HO568) hb) (Kd.R_base ho0)) (Kd.R_base ho1)) (fun _ h_ => h_.1))
         have n5F_ := Aside0.mk (Kd.R_mono (Kd.R_told (Kd.R_told (Kd.R_old (zq3 HO568F) hb) (Kd.R_base ho0)) (Kd.R_base ho1)) (fun _ h_ => h_.1))
         have n6_ := Aside0.mk (Kd.R_mono (Kd.R_told (Kd.R_told (Kd.R_old (zq3 HO573) hb) (Kd.R_base ho0)) (Kd.R_base ho1)) (fun _ h_ => h_.1))
         have n6F_ := Aside0.mk (Kd.R_mono (Kd.R_told (Kd.R_told (Kd.R_old (zq3 HO573F) hb) (Kd.R_base ho0)) (Kd.R_base ho1)) (fun _ h_ => h_.1))
         have n7_ := Aside0.mk (Kd.R_mono (Kd.R_told (Kd.R_told (Kd.R_old (zq3 HO576) hb) (Kd.R_base ho0)) (Kd.R_base ho1)) (fun _ h_ => h_.1))
         have n7F_ := Aside0.mk (Kd.R_mono (Kd.R_told (Kd.R_told (Kd.R_old (zq3 HO576F) hb) (Kd.R_base ho0)) (Kd.R_base ho1)) (fun _ h_ => h_.1))
         have n8_ := Aside0.mk (Kd.R_mono (Kd.R_told (Kd.R_told (Kd.R_old (zq3 HO583) hb) (Kd.R_base ho0)) (Kd.R_base ho1)) (fun _ h_ => h_.1))
         have n8F_ := Aside0.mk (Kd.R_mono (Kd.R_told (Kd.R_told (Kd.R_old (zq3 HO583F) hb) (Kd.R_base ho0)) (Kd.R_base ho1)) (fun _ h_ => h_.1))
         have n9_ := Aside0.mk (Kd.R_mono (Kd.R_told (Kd.R_told (Kd.R_old (zq3 HO586) hb) (Kd.R_base ho0)) (Kd.R_base ho1)) (fun _ h_ => h_.1))
         have n9F_ := Aside0.mk (Kd.R_mono (Kd.R_told (Kd.R_told (Kd.R_old (zq3 HO586F) hb) (Kd.R_base ho0)) (Kd.R_base ho1)) (fun _ h_ => h_.1))
         have n10_ := Aside0.mk (Kd.R_lower (Kd.R_new' (Kd.R_new' (Kd.R_new' (Kd.R_new' (Kd.R_new' (Kd.R_new' (Kd.R_new' (Kd.R_new' (Kd.R_new' (Kd.R_new' ho0 (Kd.R_lt (zq3 HO549))) (Kd.R_lt (zq3 HO552))) (Kd.R_lt (zq3 HO556))) (Kd.R_lt (zq3 HO559))) (Kd.R_lt (zq3 HO565))) (Kd.R_lt (zq3 HO568))) (Kd.R_lt (zq3 HO573))) (Kd.R_lt (zq3 HO576))) (Kd.R_lt (zq3 HO583))) (Kd.R_lt (zq3 HO586))) (below_size (zb1 HB)))
         have n10F_ := Aside0.mk (Kd.R_lower (Kd.R_new' (Kd.R_new' (Kd.R_new' (Kd.R_new' (Kd.R_new' (Kd.R_new' (Kd.R_new' (Kd.R_new' (Kd.R_new' (Kd.R_new' ho0F (Kd.R_lt (zq3 HO549))) (Kd.R_lt (zq3 HO552))) (Kd.R_lt (zq3 HO556))) (Kd.R_lt (zq3 HO559))) (Kd.R_lt (zq3 HO565))) (Kd.R_lt (zq3 HO568))) (Kd.R_lt (zq3 HO573))) (Kd.R_lt (zq3 HO576))) (Kd.R_lt (zq3 HO583))) (Kd.R_lt (zq3 HO586))) (below_size (zb1 HB)))
         have n11_ := Aside0.mk (Kd.R_lower (Kd.R_new' (Kd.R_new' (Kd.R_new' (Kd.R_new' (Kd.R_new' (Kd.R_new' (Kd.R_new' (Kd.R_new' (Kd.R_new' (Kd.R_new' ho1 (Kd.R_lt (zq3 HO549))) (Kd.R_lt (zq3 HO552))) (Kd.R_lt (zq3 HO556))) (Kd.R_lt (zq3 HO559))) (Kd.R_lt (zq3 HO565))) (Kd.R_lt (zq3 HO568))) (Kd.R_lt (zq3 HO573))) (Kd.R_lt (zq3 HO576))) (Kd.R_lt (zq3 HO583))) (Kd.R_lt (zq3 HO586))) (below_size (zb1 HB)))
         have n11F_ := Aside0.mk (Kd.R_lower (Kd.R_new' (Kd.R_new' (Kd.R_new' (Kd.R_new' (Kd.R_new' (Kd.R_new' (Kd.R_new' (Kd.R_new' (Kd.R_new' (Kd.R_new' ho1F (Kd.R_lt (zq3 HO549))) (Kd.R_lt (zq3 HO552))) (Kd.R_lt (zq3 HO556))) (Kd.R_lt (zq3 HO559))) (Kd.R_lt (zq3 HO565))) (Kd.R_lt (zq3 HO568))) (Kd.R_lt (zq3 HO573))) (Kd.R_lt (zq3 HO576))) (Kd.R_lt (zq3 HO583))) (Kd.R_lt (zq3 HO586))) (below_size (zb1 HB)))
         have n12_ := Aside0.mk (zbb BK542 hb)
         have n13_ := Aside0.mk (zbb BK543 hb)
         have n14_ := Aside0.mk (zbb BK569 hb)
         have n15_ := Aside0.mk (zbb BK577 hb)
         have n16_ := Aside0.mk (below_step (zb1 HB) hb)
         clear HO549 HO549F HO552 HO552F HO556 HO556F HO559 HO559F HO565 HO565F HO568 HO568F HO573 HO573F HO576 HO576F HO583 HO583F HO586 HO586F BK542 BK543 BK569 BK577 HB
         have HO549 := n0_; have HO549F := n0F_; have HO552 := n1_; have HO552F := n1F_; have HO556 := n2_; have HO556F := n2F_; have HO559 := n3_; have HO559F := n3F_; have HO565 := n4_; have HO565F := n4F_; have HO568 := n5_; have HO568F := n5F_; have HO573 := n6_; have HO573F := n6F_; have HO576 := n7_; have HO576F := n7F_; have HO583 := n8_; have HO583F := n8F_; have HO586 := n9_; have HO586F := n9F_; have HO591 := n10_; have HO591F := n10F_; have HO594 := n11_; have HO594F := n11F_; have BK542 := n12_; have BK543 := n13_; have BK569 := n14_; have BK577 := n15_; have HB := n16_
         clear n0_ n1_ n2_ n3_ n4_ n5_ n6_ n7_ n8_ n9_ n10_ n11_ n12_ n13_ n14_ n15_ n16_ n0F_ n1F_ n2F_ n3F_ n4F_ n5F_ n6F_ n7F_ n8F_ n9F_ n10F_ n11F_
         (try clear hb)
         (try clear hb2)
         (try clear hk)
         (try clear hi)
         (try clear ho0)
         (try clear ho0F)
         (try clear ho1)
         (try clear ho1F)
         obtain ⟨Ao79, co79, eo79⟩ := Kd.R_slice HO591.out
         (first | subst eo79 | (injection eo79 with f1_ f2_ f3_; have f4_ := f1_.symm; have f5_ := f3_.symm; clear f1_ f2_ f3_; subst f4_; subst f5_))
         obtain ⟨Ao80, co80, eo80⟩ := Kd.R_slice HO594.out
         (first | subst eo80 | (injection eo80 with f1_ f2_ f3_; have f4_ := f1_.symm; have f5_ := f3_.symm; clear f1_ f2_ f3_; subst f4_; subst f5_))
         refine hK.out _ _ ⟨zc BK577 0, zc BK577 1, zc BK577 2, zc BK543 0, zc BK543 1, zc BK543 2⟩ (fun hHeld => ?_)
         clear hK K
         refine norm_ (a' := ?_) ?_ ?_
         rotate_left
         ·
          show Act.put _ (some 57) _ = _
          simp only [Act.put, List.setIfInBounds_toArray, List.set_cons_zero, List.set_cons_succ, i64_w, i32_w]; rfl
         refine one_ (i := 3) (N := some 58) #[true, true, true, true, false] rfl rfl (by kernel_rfl) (by decide) (fun K hK => ?_)
         refine goes_ Try.func18 (by kernel_rfl) rfl #[.agg #[.int .i64 t570, .slice Ao68 t571.length co68, .slice Ao69 t574.length co69], .agg #[.int .i64 t588, .slice Ao79 t589.length co79, .slice Ao80 t592.length co80]] (by rfl) rfl rfl zq6 ?_
         with_reducible refine (laws_intactBox.calls t570 _ _ t571 _ _ t574 t588 _ _ t589 _ _ t592 true _ ?side1 ?side2 ?side3 ?side4 ?side5 ?side6 ?side7 ?side8 A31.out ?sideF1 ?sideF2 ?sideF3 ?sideF4 ?sideF5 ?sideF6 ?sideF7 ?sideF8).mono ?_
         (case side1 => repeat (first | exact (Kd.R_reads' HO573.out).2.2 | (with_reducible refine Kd.C_alloc ?_ _) | (with_reducible refine Kd.C_drewN ?_ _) | (with_reducible refine Kd.C_drew ?_)))
         (case side2 => exact (Kd.R_reads' HO573.out).2.1)
         (case side3 => repeat (first | exact (Kd.R_reads' HO576.out).2.2 | (with_reducible refine Kd.C_alloc ?_ _) | (with_reducible refine Kd.C_drewN ?_ _) | (with_reducible refine Kd.C_drew ?_)))
         (case side4 => exact (Kd.R_reads' HO576.out).2.1)
         (case side5 => repeat (first | exact (Kd.R_reads' HO591.out).2.2 | (with_reducible refine Kd.C_alloc ?_ _) | (with_reducible refine Kd.C_drewN ?_ _) | (with_reducible refine Kd.C_drew ?_)))
         (case side6 => exact (Kd.R_reads' HO591.out).2.1)
         (case side7 => repeat (first | exact (Kd.R_reads' HO594.out).2.2 | (with_reducible refine Kd.C_alloc ?_ _) | (with_reducible refine Kd.C_drewN ?_ _) | (with_reducible refine Kd.C_drew ?_)))
         (case side8 => exact (Kd.R_reads' HO594.out).2.1)
         (case sideF1 => repeat (first | exact (Kd.R_reads' HO573F.out).2.2 | (with_reducible refine Kd.C_alloc ?_ _) | (with_reducible refine Kd.C_drewN ?_ _) | (with_reducible refine Kd.C_drew ?_)))
         (case sideF2 => exact (Kd.R_reads' HO573F.out).2.1)
         (case sideF3 => repeat (first | exact (Kd.R_reads' HO576F.out).2.2 | (with_reducible refine Kd.C_alloc ?_ _) | (with_reducible refine Kd.C_drewN ?_ _) | (with_reducible refine Kd.C_drew ?_)))
         (case sideF4 => exact (Kd.R_reads' HO576F.out).2.1)
         (case sideF5 => repeat (first | exact (Kd.R_reads' HO591F.out).2.2 | (with_reducible refine Kd.C_alloc ?_ _) | (with_reducible refine Kd.C_drewN ?_ _) | (with_reducible refine Kd.C_drew ?_)))
         (case sideF6 => exact (Kd.R_reads' HO591F.out).2.1)
         (case sideF7 => repeat (first | exact (Kd.R_reads' HO594F.out).2.2 | (with_reducible refine Kd.C_alloc ?_ _) | (with_reducible refine Kd.C_drewN ?_ _) | (with_reducible refine Kd.C_drew ?_)))
         (case sideF8 => exact (Kd.R_reads' HO594F.out).2.1)
         rintro e w81 ⟨rfl, hb⟩
         refine ⟨_, rfl, ?_⟩
         have n0_ := Aside0.mk (Kd.R_below (zq3 HO549) hb)
         have n0F_ := Aside0.mk (Kd.R_below (zq3 HO549F) hb)
         have n1_ := Aside0.mk (Kd.R_below (zq3 HO552) hb)
         have n1F_ := Aside0.mk (Kd.R_below (zq3 HO552F) hb)
         have n2_ := Aside0.mk (Kd.R_below (zq3 HO556) hb)
         have n2F_ := Aside0.mk (Kd.R_below (zq3 HO556F) hb)
         have n3_ := Aside0.mk (Kd.R_below (zq3 HO559) hb)
         have n3F_ := Aside0.mk (Kd.R_below (zq3 HO559F) hb)
         have n4_ := Aside0.mk (Kd.R_below (zq3 HO565) hb)
         have n4F_ := Aside0.mk (Kd.R_below (zq3 HO565F) hb)
         have n5_ := Aside0.mk (Kd.R_below (zq3 HO568) hb)
         have n5F_ := Aside0.mk (Kd.R_below (zq3 HO568F) hb)
         have n6_ := Aside0.mk (Kd.R_below (zq3 HO573) hb)
         have n6F_ := Aside0.mk (Kd.R_below (zq3 HO573F) hb)
         have n7_ := Aside0.mk (Kd.R_below (zq3 HO576) hb)
         have n7F_ := Aside0.mk (Kd.R_below (zq3 HO576F) hb)
         have n8_ := Aside0.mk (Kd.R_below (zq3 HO583) hb)
         have n8F_ := Aside0.mk (Kd.R_below (zq3 HO583F) hb)
         have n9_ := Aside0.mk (Kd.R_below (zq3 HO586) hb)
         have n9F_ := Aside0.mk (Kd.R_below (zq3 HO586F) hb)
         have n10_ := Aside0.mk (Kd.R_below (zq3 HO591) hb)
         have n10F_ := Aside0.mk (Kd.R_below (zq3 HO591F) hb)
         have n11_ := Aside0.mk (Kd.R_below (zq3 HO594) hb)
         have n11F_ := Aside0.mk (Kd.R_below (zq3 HO594F) hb)
         have n12_ := Aside0.mk (zbb BK542 hb)
         have n13_ := Aside0.mk (zbb BK543 hb)
         have n14_ := Aside0.mk (zbb BK569 hb)
         have n15_ := Aside0.mk (zbb BK577 hb)
         have n16_ := Aside0.mk (below_step (zb1 HB) hb)
         clear HO549 HO549F HO552 HO552F HO556 HO556F HO559 HO559F HO565 HO565F HO568 HO568F HO573 HO573F HO576 HO576F HO583 HO583F HO586 HO586F HO591 HO591F HO594 HO594F BK542 BK543 BK569 BK577 HB
         have HO549 := n0_; have HO549F := n0F_; have HO552 := n1_; have HO552F := n1F_; have HO556 := n2_; have HO556F := n2F_; have HO559 := n3_; have HO559F := n3F_; have HO565 := n4_; have HO565F := n4F_; have HO568 := n5_; have HO568F := n5F_; have HO573 := n6_; have HO573F := n6F_; have HO576 := n7_; have HO576F := n7F_; have HO583 := n8_; have HO583F := n8F_; have HO586 := n9_; have HO586F := n9F_; have HO591 := n10_; have HO591F := n10F_; have HO594 := n11_; have HO594F := n11F_; have BK542 := n12_; have BK543 := n13_; have BK569 := n14_; have BK577 := n15_; have HB := n16_
         clear n0_ n1_ n2_ n3_ n4_ n5_ n6_ n7_ n8_ n9_ n10_ n11_ n12_ n13_ n14_ n15_ n16_ n0F_ n1F_ n2F_ n3F_ n4F_ n5F_ n6F_ n7F_ n8F_ n9F_ n10F_ n11F_
         (try clear hb)
         (try clear hb2)
         (try clear hk)
         (try clear hi)
         refine hK.out _ _ ⟨zc BK577 0, zc BK577 1, zc BK577 2, zc BK543 0, zc BK543 1, zc BK543 2⟩ (fun hHeld => ?_)
         clear hK K
         refine norm_ (a' := ?_) ?_ ?_
         rotate_left
         ·
          show Act.put _ (some 58) _ = _
          simp only [Act.put, List.setIfInBounds_toArray, List.set_cons_zero, List.set_cons_succ, i64_w, i32_w]; rfl
         refine pure_ (i := 4) (N := some 59) (v := ?_) (a' := ?_) #[true, true, true, true, true] rfl rfl (by kernel_rfl) (fun _ _ _ h => h) (Or.inl ⟨by rfl, ?_⟩) ?_ ?_
         rotate_left
         ·
          intro w'
          go_simp
          with_reducible rfl
         rotate_left
         ·
          simp only [Act.put, List.setIfInBounds_toArray, List.set_cons_zero, List.set_cons_succ, i64_w, i32_w]
          rfl
         refine done_ (by kernel_rfl) ?_
         try go_wp2
         have n0_ := Aside0.mk (Kd.R_drew HO549.out)
         have n0F_ := Aside0.mk (Kd.R_drew HO549F.out)
         have n1_ := Aside0.mk (Kd.R_drew HO552.out)
         have n1F_ := Aside0.mk (Kd.R_drew HO552F.out)
         have n2_ := Aside0.mk (Kd.R_drew HO556.out)
         have n2F_ := Aside0.mk (Kd.R_drew HO556F.out)
         have n3_ := Aside0.mk (Kd.R_drew HO559.out)
         have n3F_ := Aside0.mk (Kd.R_drew HO559F.out)
         have n4_ := Aside0.mk (Kd.R_drew HO565.out)
         have n4F_ := Aside0.mk (Kd.R_drew HO565F.out)
         have n5_ := Aside0.mk (Kd.R_drew HO568.out)
         have n5F_ := Aside0.mk (Kd.R_drew HO568F.out)
         have n6_ := Aside0.mk (Kd.R_drew HO573.out)
         have n6F_ := Aside0.mk (Kd.R_drew HO573F.out)
         have n7_ := Aside0.mk (Kd.R_drew HO576.out)
         have n7F_ := Aside0.mk (Kd.R_drew HO576F.out)
         have n8_ := Aside0.mk (Kd.R_drew HO583.out)
         have n8F_ := Aside0.mk (Kd.R_drew HO583F.out)
         have n9_ := Aside0.mk (Kd.R_drew HO586.out)
         have n9F_ := Aside0.mk (Kd.R_drew HO586F.out)
         have n10_ := Aside0.mk (Kd.R_drew HO591.out)
         have n10F_ := Aside0.mk (Kd.R_drew HO591F.out)
         have n11_ := Aside0.mk (Kd.R_drew HO594.out)
         have n11F_ := Aside0.mk (Kd.R_drew HO594F.out)
         have n12_ := Aside0.mk (blk_drew BK542.out)
         have n13_ := Aside0.mk (blk_drew BK543.out)
         have n14_ := Aside0.mk (blk_drew BK569.out)
         have n15_ := Aside0.mk (blk_drew BK577.out)
         have n16_ := Aside0.mk (below_drew1 HB.out)
         clear HO549 HO549F HO552 HO552F HO556 HO556F HO559 HO559F HO565 HO565F HO568 HO568F HO573 HO573F HO576 HO576F HO583 HO583F HO586 HO586F HO591 HO591F HO594 HO594F BK542 BK543 BK569 BK577 HB
         have HO549 := n0_; have HO549F := n0F_; have HO552 := n1_; have HO552F := n1F_; have HO556 := n2_; have HO556F := n2F_; have HO559 := n3_; have HO559F := n3F_; have HO565 := n4_; have HO565F := n4F_; have HO568 := n5_; have HO568F := n5F_; have HO573 := n6_; have HO573F := n6F_; have HO576 := n7_; have HO576F := n7F_; have HO583 := n8_; have HO583F := n8F_; have HO586 := n9_; have HO586F := n9F_; have HO591 := n10_; have HO591F := n10F_; have HO594 := n11_; have HO594F := n11F_; have BK542 := n12_; have BK543 := n13_; have BK569 := n14_; have BK577 := n15_; have HB := n16_
         clear n0_ n1_ n2_ n3_ n4_ n5_ n6_ n7_ n8_ n9_ n10_ n11_ n12_ n13_ n14_ n15_ n16_ n0F_ n1F_ n2F_ n3F_ n4F_ n5F_ n6F_ n7F_ n8F_ n9F_ n10F_ n11F_
         refine start_ (n := 10) (S := fun w' => w'.cell? ⟨gb542, 0, none⟩ = some (.int .i64 a0_0) ∧ w'.cell? ⟨gb542, 1, none⟩ = some (.slice A0_1 l0_1.length c0_1) ∧ w'.cell? ⟨gb542, 2, none⟩ = some (.slice A0_2 l0_2.length c0_2) ∧ w'.cell? ⟨gb543, 0, none⟩ = some (.int .i64 a1_0) ∧ w'.cell? ⟨gb543, 1, none⟩ = some (.slice A1_1 l1_1.length c1_1) ∧ w'.cell? ⟨gb543, 2, none⟩ = some (.slice A1_2 l1_2.length c1_2)) (ds := []) #[false, false, false, false, false, false, false, false, false, false] (by kernel_rfl) rfl rfl ⟨zc BK542 0, zc BK542 1, zc BK542 2, zc BK543 0, zc BK543 1, zc BK543 2⟩ (fun hHeld => ?_); refine with_tabW laws_FnExactIsBoxInside.tab18 laws_FnExactIsBoxInside.bits18 (fun HT_ HW_ => ?_)
         generalize w81.drew = w82 at HO549 HO552 HO556 HO559 HO565 HO568 HO573 HO576 HO583 HO586 HO591 HO594 BK542 BK543 BK569 BK577 HB hHeld HO549F HO552F HO556F HO559F HO565F HO568F HO573F HO576F HO583F HO586F HO591F HO594F ⊢
         refine take_ (i := 0) (N := some 61) (v := ?_) (a' := ?_) #[true, false, false, false, false, false, false, false, false, false] rfl rfl (take_ofW HT_.out HW_.out (by kernel_rfl)) (fun _ _ _ h => h) (Or.inl ⟨by rfl, ?_⟩) hHeld ?_ ?_
         rotate_left
         ·
          rintro w' ⟨s0, s1, s2, s3, s4, s5⟩
          go_simp
          with_reducible rfl
         rotate_left
         ·
          simp only [Act.put, List.setIfInBounds_toArray, List.set_cons_zero, List.set_cons_succ, i64_w, i32_w]
          rfl
         refine take_ (i := 2) (N := some 63) (v := ?_) (a' := ?_) #[true, false, true, false, false, false, false, false, false, false] rfl rfl (take_ofW HT_.out HW_.out (by kernel_rfl)) (fun _ _ _ h => h) (Or.inl ⟨by rfl, ?_⟩) hHeld ?_ ?_
         rotate_left
         ·
          rintro w' ⟨s0, s1, s2, s3, s4, s5⟩
          go_simp
          with_reducible rfl
         rotate_left
         ·
          simp only [Act.put, List.setIfInBounds_toArray, List.set_cons_zero, List.set_cons_succ, i64_w, i32_w]
          rfl
         refine one_ (i := 1) (N := some 62) #[true, true, true, false, false, false, false, false, false, false] rfl rfl (one_of HT_.out (by kernel_rfl)) (by decide) (fun K hK => ?_)
         refine goes_ Try.func16 (by kernel_rfl) rfl #[.agg #[.int .i64 a0_0, .slice A0_1 l0_1.length c0_1, .slice A0_2 l0_2.length c0_2], .bool true] (by rfl) rfl rfl zq6 ?_
         with_reducible refine (laws_toBox.calls k a0_0 _ _ l0_1 _ _ l0_2 true t596 t597 t600 _ ?side1 ?side2 ?side3 ?side4 A33.out).mono ?_
         (case side1 => repeat (first | exact (Kd.C_below HR0_1.out HB.out) | (with_reducible refine Kd.C_alloc ?_ _) | (with_reducible refine Kd.C_drewN ?_ _) | (with_reducible refine Kd.C_drew ?_)))
         (case side2 => exact HC0_1.out)
         (case side3 => repeat (first | exact (Kd.C_below HR0_2.out HB.out) | (with_reducible refine Kd.C_alloc ?_ _) | (with_reducible refine Kd.C_drewN ?_ _) | (with_reducible refine Kd.C_drew ?_)))
         (case side4 => exact HC0_2.out)
         rintro e w83 ⟨v598, v601, rfl, ho0, ho1, hb, ho0F, ho1F⟩
         refine ⟨_, rfl, ?_⟩
         have n0_ := Aside0.mk (Kd.R_mono (Kd.R_told (Kd.R_told (Kd.R_old (zq3 HO549) hb) (Kd.R_base ho0)) (Kd.R_base ho1)) (fun _ h_ => h_.1))
         have n0F_ := Aside0.mk (Kd.R_mono (Kd.R_told (Kd.R_told (Kd.R_old (zq3 HO549F) hb) (Kd.R_base ho0)) (Kd.R_base ho1)) (fun _ h_ => h_.1))
         have n1_ := Aside0.mk (Kd.R_mono (Kd.R_told (Kd.R_told (Kd.R_old (zq3 HO552) hb) (Kd.R_base ho0)) (Kd.R_base ho1)) (fun _ h_ => h_.1))
         have n1F_ := Aside0.mk (Kd.R_mono (Kd.R_told (Kd.R_told (Kd.R_old (zq3 HO552F) hb) (Kd.R_base ho0)) (Kd.R_base ho1)) (fun _ h_ => h_.1))
         have n2_ := Aside0.mk (Kd.R_mono (Kd.R_told (Kd.R_told (Kd.R_old (zq3 HO556) hb) (Kd.R_base ho0)) (Kd.R_base ho1)) (fun _ h_ => h_.1))
         have n2F_ := Aside0.mk (Kd.R_mono (Kd.R_told (Kd.R_told (Kd.R_old (zq3 HO556F) hb) (Kd.R_base ho0)) (Kd.R_base ho1)) (fun _ h_ => h_.1))
         have n3_ := Aside0.mk (Kd.R_mono (Kd.R_told (Kd.R_told (Kd.R_old (zq3 HO559) hb) (Kd.R_base ho0)) (Kd.R_base ho1)) (fun _ h_ => h_.1))
         have n3F_ := Aside0.mk (Kd.R_mono (Kd.R_told (Kd.R_told (Kd.R_old (zq3 HO559F) hb) (Kd.R_base ho0)) (Kd.R_base ho1)) (fun _ h_ => h_.1))
         have n4_ := Aside0.mk (Kd.R_mono (Kd.R_told (Kd.R_told (Kd.R_old (zq3 HO565) hb) (Kd.R_base ho0)) (Kd.R_base ho1)) (fun _ h_ => h_.1))
         have n4F_ := Aside0.mk (Kd.R_mono (Kd.R_told (Kd.R_told (Kd.R_old (zq3 HO565F) hb) (Kd.R_base ho0)) (Kd.R_base ho1)) (fun _ h_ => h_.1))
         have n5_ := Aside0.mk (Kd.R_mono (Kd.R_told (Kd.R_told (Kd.R_old (zq3 HO568) hb) (Kd.R_base ho0)) (Kd.R_base ho1)) (fun _ h_ => h_.1))
         have n5F_ := Aside0.mk (Kd.R_mono (Kd.R_told (Kd.R_told (Kd.R_old (zq3 HO568F) hb) (Kd.R_base ho0)) (Kd.R_base ho1)) (fun _ h_ => h_.1))
         have n6_ := Aside0.mk (Kd.R_mono (Kd.R_told (Kd.R_told (Kd.R_old (zq3 HO573) hb) (Kd.R_base ho0)) (Kd.R_base ho1)) (fun _ h_ => h_.1))
         have n6F_ := Aside0.mk (Kd.R_mono (Kd.R_told (Kd.R_told (Kd.R_old (zq3 HO573F) hb) (Kd.R_base ho0)) (Kd.R_base ho1)) (fun _ h_ => h_.1))
         have n7_ := Aside0.mk (Kd.R_mono (Kd.R_told (Kd.R_told (Kd.R_old (zq3 HO576) hb) (Kd.R_base ho0)) (Kd.R_base ho1)) (fun _ h_ => h_.1))
         have n7F_ := Aside0.mk (Kd.R_mono (Kd.R_told (Kd.R_told (Kd.R_old (zq3 HO576F) hb) (Kd.R_base ho0)) (Kd.R_base ho1)) (fun _ h_ => h_.1))
         have n8_ := Aside0.mk (Kd.R_mono (Kd.R_told (Kd.R_told (Kd.R_old (zq3 HO583) hb) (Kd.R_base ho0)) (Kd.R_base ho1)) (fun _ h_ => h_.1))
         have n8F_ := Aside0.mk (Kd.R_mono (Kd.R_told (Kd.R_told (Kd.R_old (zq3 HO583F) hb) (Kd.R_base ho0)) (Kd.R_base ho1)) (fun _ h_ => h_.1))
         have n9_ := Aside0.mk (Kd.R_mono (Kd.R_told (Kd.R_told (Kd.R_old (zq3 HO586) hb) (Kd.R_base ho0)) (Kd.R_base ho1)) (fun _ h_ => h_.1))
         have n9F_ := Aside0.mk (Kd.R_mono (Kd.R_told (Kd.R_told (Kd.R_old (zq3 HO586F) hb) (Kd.R_base ho0)) (Kd.R_base ho1)) (fun _ h_ => h_.1))
         have n10_ := Aside0.mk (Kd.R_mono (Kd.R_told (Kd.R_told (Kd.R_old (zq3 HO591) hb) (Kd.R_base ho0)) (Kd.R_base ho1)) (fun _ h_ => h_.1))
         have n10F_ := Aside0.mk (Kd.R_mono (Kd.R_told (Kd.R_told (Kd.R_old (zq3 HO591F) hb) (Kd.R_base ho0)) (Kd.R_base ho1)) (fun _ h_ => h_.1))
         have n11_ := Aside0.mk (Kd.R_mono (Kd.R_told (Kd.R_told (Kd.R_old (zq3 HO594) hb) (Kd.R_base ho0)) (Kd.R_base ho1)) (fun _ h_ => h_.1))
         have n11F_ := Aside0.mk (Kd.R_mono (Kd.R_told (Kd.R_told (Kd.R_old (zq3 HO594F) hb) (Kd.R_base ho0)) (Kd.R_base ho1)) (fun _ h_ => h_.1))
         have n12_ := Aside0.mk (Kd.R_lower (Kd.R_new' (Kd.R_new' (Kd.R_new' (Kd.R_new' (Kd.R_new' (Kd.R_new' (Kd.R_new' (Kd.R_new' (Kd.R_new' (Kd.R_new' (Kd.R_new' (Kd.R_new' ho0 (Kd.R_lt (zq3 HO549))) (Kd.R_lt (zq3 HO552))) (Kd.R_lt (zq3 HO556))) (Kd.R_lt (zq3 HO559))) (Kd.R_lt (zq3 HO565))) (Kd.R_lt (zq3 HO568))) (Kd.R_lt (zq3 HO573))) (Kd.R_lt (zq3 HO576))) (Kd.R_lt (zq3 HO583))) (Kd.R_lt (zq3 HO586))) (Kd.R_lt (zq3 HO591))) (Kd.R_lt (zq3 HO594))) (below_size (zb1 HB)))
         have n12F_ := Aside0.mk (Kd.R_lower (Kd.R_new' (Kd.R_new' (Kd.R_new' (Kd.R_new' (Kd.R_new' (Kd.R_new' (Kd.R_new' (Kd.R_new' (Kd.R_new' (Kd.R_new' (Kd.R_new' (Kd.R_new' ho0F (Kd.R_lt (zq3 HO549))) (Kd.R_lt (zq3 HO552))) (Kd.R_lt (zq3 HO556))) (Kd.R_lt (zq3 HO559))) (Kd.R_lt (zq3 HO565))) (Kd.R_lt (zq3 HO568))) (Kd.R_lt (zq3 HO573))) (Kd.R_lt (zq3 HO576))) (Kd.R_lt (zq3 HO583))) (Kd.R_lt (zq3 HO586))) (Kd.R_lt (zq3 HO591))) (Kd.R_lt (zq3 HO594))) (below_size (zb1 HB)))
         have n13_ := Aside0.mk (Kd.R_lower (Kd.R_new' (Kd.R_new' (Kd.R_new' (Kd.R_new' (Kd.R_new' (Kd.R_new' (Kd.R_new' (Kd.R_new' (Kd.R_new' (Kd.R_new' (Kd.R_new' (Kd.R_new' ho1 (Kd.R_lt (zq3 HO549))) (Kd.R_lt (zq3 HO552))) (Kd.R_lt (zq3 HO556))) (Kd.R_lt (zq3 HO559))) (Kd.R_lt (zq3 HO565))) (Kd.R_lt (zq3 HO568))) (Kd.R_lt (zq3 HO573))) (Kd.R_lt (zq3 HO576))) (Kd.R_lt (zq3 HO583))) (Kd.R_lt (zq3 HO586))) (Kd.R_lt (zq3 HO591))) (Kd.R_lt (zq3 HO594))) (below_size (zb1 HB)))
         have n13F_ := Aside0.mk (Kd.R_lower (Kd.R_new' (Kd.R_new' (Kd.R_new' (Kd.R_new' (Kd.R_new' (Kd.R_new' (Kd.R_new' (Kd.R_new' (Kd.R_new' (Kd.R_new' (Kd.R_new' (Kd.R_new' ho1F (Kd.R_lt (zq3 HO549))) (Kd.R_lt (zq3 HO552))) (Kd.R_lt (zq3 HO556))) (Kd.R_lt (zq3 HO559))) (Kd.R_lt (zq3 HO565))) (Kd.R_lt (zq3 HO568))) (Kd.R_lt (zq3 HO573))) (Kd.R_lt (zq3 HO576))) (Kd.R_lt (zq3 HO583))) (Kd.R_lt (zq3 HO586))) (Kd.R_lt (zq3 HO591))) (Kd.R_lt (zq3 HO594))) (below_size (zb1 HB)))
         have n14_ := Aside0.mk (zbb BK542 hb)
         have n15_ := Aside0.mk (zbb BK543 hb)
         have n16_ := Aside0.mk (zbb BK569 hb)
         have n17_ := Aside0.mk (zbb BK577 hb)
         have n18_ := Aside0.mk (below_step (zb1 HB) hb)
         clear HO549 HO549F HO552 HO552F HO556 HO556F HO559 HO559F HO565 HO565F HO568 HO568F HO573 HO573F HO576 HO576F HO583 HO583F HO586 HO586F HO591 HO591F HO594 HO594F BK542 BK543 BK569 BK577 HB
         have HO549 := n0_; have HO549F := n0F_; have HO552 := n1_; have HO552F := n1F_; have HO556 := n2_; have HO556F := n2F_; have HO559 := n3_; have HO559F := n3F_; have HO565 := n4_; have HO565F := n4F_; have HO568 := n5_; have HO568F := n5F_; have HO573 := n6_; have HO573F := n6F_; have HO576 := n7_; have HO576F := n7F_; have HO583 := n8_; have HO583F := n8F_; have HO586 := n9_; have HO586F := n9F_; have HO591 := n10_; have HO591F := n10F_; have HO594 := n11_; have HO594F := n11F_; have HO599 := n12_; have HO599F := n12F_; have HO602 := n13_; have HO602F := n13F_; have BK542 := n14_; have BK543 := n15_; have BK569 := n16_; have BK577 := n17_; have HB := n18_
         clear n0_ n1_ n2_ n3_ n4_ n5_ n6_ n7_ n8_ n9_ n10_ n11_ n12_ n13_ n14_ n15_ n16_ n17_ n18_ n0F_ n1F_ n2F_ n3F_ n4F_ n5F_ n6F_ n7F_ n8F_ n9F_ n10F_ n11F_ n12F_ n13F_
         (try clear hb)
         (try clear hb2)
         (try clear hk)
         (try clear hi)
         (try clear ho0)
         (try clear ho0F)
         (try clear ho1)
         (try clear ho1F)
         refine hK.out _ _ ⟨zc BK542 0, zc BK542 1, zc BK542 2, zc BK543 0, zc BK543 1, zc BK543 2⟩ (fun hHeld => ?_)
         clear hK K
         refine norm_ (a' := ?_) ?_ ?_
         rotate_left
         ·
          show Act.put _ (some 62) _ = _
          simp only [Act.put, List.setIfInBounds_toArray, List.set_cons_zero, List.set_cons_succ, i64_w, i32_w]; rfl
         refine one_ (i := 3) (N := some 64) #[true, true, true, true, false, false, false, false, false, false] rfl rfl (one_of HT_.out (by kernel_rfl)) (by decide) (fun K hK => ?_)
         refine goes_ Try.func16 (by kernel_rfl) rfl #[.agg #[.int .i64 a1_0, .slice A1_1 l1_1.length c1_1, .slice A1_2 l1_2.length c1_2], .bool true] (by rfl) rfl rfl zq6 ?_
         with_reducible refine (laws_toBox.calls k a1_0 _ _ l1_1 _ _ l1_2 true t603 t604 t607 _ ?side1 ?side2 ?side3 ?side4 A34.out).mono ?_
         (case side1 => repeat (first | exact (Kd.C_below HR1_1.out HB.out) | (with_reducible refine Kd.C_alloc ?_ _) | (with_reducible refine Kd.C_drewN ?_ _) | (with_reducible refine Kd.C_drew ?_)))
         (case side2 => exact HC1_1.out)
         (case side3 => repeat (first | exact (Kd.C_below HR1_2.out HB.out) | (with_reducible refine Kd.C_alloc ?_ _) | (with_reducible refine Kd.C_drewN ?_ _) | (with_reducible refine Kd.C_drew ?_)))
         (case side4 => exact HC1_2.out)
         rintro e w84 ⟨v605, v608, rfl, ho0, ho1, hb, ho0F, ho1F⟩
         refine ⟨_, rfl, ?_⟩
         have n0_ := Aside0.mk (Kd.R_mono (Kd.R_told (Kd.R_told (Kd.R_old (zq3 HO549) hb) (Kd.R_base ho0)) (Kd.R_base ho1)) (fun _ h_ => h_.1))
         have n0F_ := Aside0.mk (Kd.R_mono (Kd.R_told (Kd.R_told (Kd.R_old (zq3 HO549F) hb) (Kd.R_base ho0)) (Kd.R_base ho1)) (fun _ h_ => h_.1))
         have n1_ := Aside0.mk (Kd.R_mono (Kd.R_told (Kd.R_told (Kd.R_old (zq3 HO552) hb) (Kd.R_base ho0)) (Kd.R_base ho1)) (fun _ h_ => h_.1))
         have n1F_ := Aside0.mk (Kd.R_mono (Kd.R_told (Kd.R_told (Kd.R_old (zq3 HO552F) hb) (Kd.R_base ho0)) (Kd.R_base ho1)) (fun _ h_ => h_.1))
         have n2_ := Aside0.mk (Kd.R_mono (Kd.R_told (Kd.R_told (Kd.R_old (zq3 HO556) hb) (Kd.R_base ho0)) (Kd.R_base ho1)) (fun _ h_ => h_.1))
         have n2F_ := Aside0.mk (Kd.R_mono (Kd.R_told (Kd.R_told (Kd.R_old (zq3 HO556F) hb) (Kd.R_base ho0)) (Kd.R_base ho1)) (fun _ h_ => h_.1))
         have n3_ := Aside0.mk (Kd.R_mono (Kd.R_told (Kd.R_told (Kd.R_old (zq3 HO559) hb) (Kd.R_base ho0)) (Kd.R_base ho1)) (fun _ h_ => h_.1))
         have n3F_ := Aside0.mk (Kd.R_mono (Kd.R_told (Kd.R_told (Kd.R_old (zq3 HO559F) hb) (Kd.R_base ho0)) (Kd.R_base ho1)) (fun _ h_ => h_.1))
         have n4_ := Aside0.mk (Kd.R_mono (Kd.R_told (Kd.R_told (Kd.R_old (zq3 HO565) hb) (Kd.R_base ho0)) (Kd.R_base ho1)) (fun _ h_ => h_.1))
         have n4F_ := Aside0.mk (Kd.R_mono (Kd.R_told (Kd.R_told (Kd.R_old (zq3 HO565F) hb) (Kd.R_base ho0)) (Kd.R_base ho1)) (fun _ h_ => h_.1))
         have n5_ := Aside0.mk (Kd.R_mono (Kd.R_told (Kd.R_told (Kd.R_old (zq3 HO568) hb) (Kd.R_base ho0)) (Kd.R_base ho1)) (fun _ h_ => h_.1))
         have n5F_ := Aside0.mk (Kd.R_mono (Kd.R_told (Kd.R_told (Kd.R_old (zq3 HO568F) hb) (Kd.R_base ho0)) (Kd.R_base ho1)) (fun _ h_ => h_.1))
         have n6_ := Aside0.mk (Kd.R_mono (Kd.R_told (Kd.R_told (Kd.R_old (zq3 HO573) hb) (Kd.R_base ho0)) (Kd.R_base ho1)) (fun _ h_ => h_.1))
         have n6F_ := Aside0.mk (Kd.R_mono (Kd.R_told (Kd.R_told (Kd.R_old (zq3 HO573F) hb) (Kd.R_base ho0)) (Kd.R_base ho1)) (fun _ h_ => h_.1))
         have n7_ := Aside0.mk (Kd.R_mono (Kd.R_told (Kd.R_told (Kd.R_old (zq3 HO576) hb) (Kd.R_base ho0)) (Kd.R_base ho1)) (fun _ h_ => h_.1))
         have n7F_ := Aside0.mk (Kd.R_mono (Kd.R_told (Kd.R_told (Kd.R_old (zq3 HO576F) hb) (Kd.R_base ho0)) (Kd.R_base ho1)) (fun _ h_ => h_.1))
         have n8_ := Aside0.mk (Kd.R_mono (Kd.R_told (Kd.R_told (Kd.R_old (zq3 HO583) hb) (Kd.R_base ho0)) (Kd.R_base ho1)) (fun _ h_ => h_.1))
         have n8F_ := Aside0.mk (Kd.R_mono (Kd.R_told (Kd.R_told (Kd.R_old (zq3 HO583F) hb) (Kd.R_base ho0)) (Kd.R_base ho1)) (fun _ h_ => h_.1))
         have n9_ := Aside0.mk (Kd.R_mono (Kd.R_told (Kd.R_told (Kd.R_old (zq3 HO586) hb) (Kd.R_base ho0)) (Kd.R_base ho1)) (fun _ h_ => h_.1))
         have n9F_ := Aside0.mk (Kd.R_mono (Kd.R_told (Kd.R_told (Kd.R_old (zq3 HO586F) hb) (Kd.R_base ho0)) (Kd.R_base ho1)) (fun _ h_ => h_.1))
         have n10_ := Aside0.mk (Kd.R_mono (Kd.R_told (Kd.R_told (Kd.R_old (zq3 HO591) hb) (Kd.R_base ho0)) (Kd.R_base ho1)) (fun _ h_ => h_.1))
         have n10F_ := Aside0.mk (Kd.R_mono (Kd.R_told (Kd.R_told (Kd.R_old (zq3 HO591F) hb) (Kd.R_base ho0)) (Kd.R_base ho1)) (fun _ h_ => h_.1))
         have n11_ := Aside0.mk (Kd.R_mono (Kd.R_told (Kd.R_told (Kd.R_old (zq3 HO594) hb) (Kd.R_base ho0)) (Kd.R_base ho1)) (fun _ h_ => h_.1))
         have n11F_ := Aside0.mk (Kd.R_mono (Kd.R_told (Kd.R_told (Kd.R_old (zq3 HO594F) hb) (Kd.R_base ho0)) (Kd.R_base ho1)) (fun _ h_ => h_.1))
         have n12_ := Aside0.mk (Kd.R_mono (Kd.R_told (Kd.R_told (Kd.R_old (zq3 HO599) hb) (Kd.R_base ho0)) (Kd.R_base ho1)) (fun _ h_ => h_.1))
         have n12F_ := Aside0.mk (Kd.R_mono (Kd.R_told (Kd.R_told (Kd.R_old (zq3 HO599F) hb) (Kd.R_base ho0)) (Kd.R_base ho1)) (fun _ h_ => h_.1))
         have n13_ := Aside0.mk (Kd.R_mono (Kd.R_told (Kd.R_told (Kd.R_old (zq3 HO602) hb) (Kd.R_base ho0)) (Kd.R_base ho1)) (fun _ h_ => h_.1))
         have n13F_ := Aside0.mk (Kd.R_mono (Kd.R_told (Kd.R_told (Kd.R_old (zq3 HO602F) hb) (Kd.R_base ho0)) (Kd.R_base ho1)) (fun _ h_ => h_.1))
         have n14_ := Aside0.mk (Kd.R_lower (Kd.R_new' (Kd.R_new' (Kd.R_new' (Kd.R_new' (Kd.R_new' (Kd.R_new' (Kd.R_new' (Kd.R_new' (Kd.R_new' (Kd.R_new' (Kd.R_new' (Kd.R_new' (Kd.R_new' (Kd.R_new' ho0 (Kd.R_lt (zq3 HO549))) (Kd.R_lt (zq3 HO552))) (Kd.R_lt (zq3 HO556))) (Kd.R_lt (zq3 HO559))) (Kd.R_lt (zq3 HO565))) (Kd.R_lt (zq3 HO568))) (Kd.R_lt (zq3 HO573))) (Kd.R_lt (zq3 HO576))) (Kd.R_lt (zq3 HO583))) (Kd.R_lt (zq3 HO586))) (Kd.R_lt (zq3 HO591))) (Kd.R_lt (zq3 HO594))) (Kd.R_lt (zq3 HO599))) (Kd.R_lt (zq3 HO602))) (below_size (zb1 HB)))
         have n14F_ := Aside0.mk (Kd.R_lower (Kd.R_new' (Kd.R_new' (Kd.R_new' (Kd.R_new' (Kd.R_new' (Kd.R_new' (Kd.R_new' (Kd.R_new' (Kd.R_new' (Kd.R_new' (Kd.R_new' (Kd.R_new' (Kd.R_new' (Kd.R_new' ho0F (Kd.R_lt (zq3 HO549))) (Kd.R_lt (zq3 HO552))) (Kd.R_lt (zq3 HO556))) (Kd.R_lt (zq3 HO559))) (Kd.R_lt (zq3 HO565))) (Kd.R_lt (zq3 HO568))) (Kd.R_lt (zq3 HO573))) (Kd.R_lt (zq3 HO576))) (Kd.R_lt (zq3 HO583))) (Kd.R_lt (zq3 HO586))) (Kd.R_lt (zq3 HO591))) (Kd.R_lt (zq3 HO594))) (Kd.R_lt (zq3 HO599))) (Kd.R_lt (zq3 HO602))) (below_size (zb1 HB)))
         have n15_ := Aside0.mk (Kd.R_lower (Kd.R_new' (Kd.R_new' (Kd.R_new' (Kd.R_new' (Kd.R_new' (Kd.R_new' (Kd.R_new' (Kd.R_new' (Kd.R_new' (Kd.R_new' (Kd.R_new' (Kd.R_new' (Kd.R_new' (Kd.R_new' ho1 (Kd.R_lt (zq3 HO549))) (Kd.R_lt (zq3 HO552))) (Kd.R_lt (zq3 HO556))) (Kd.R_lt (zq3 HO559))) (Kd.R_lt (zq3 HO565))) (Kd.R_lt (zq3 HO568))) (Kd.R_lt (zq3 HO573))) (Kd.R_lt (zq3 HO576))) (Kd.R_lt (zq3 HO583))) (Kd.R_lt (zq3 HO586))) (Kd.R_lt (zq3 HO591))) (Kd.R_lt (zq3 HO594))) (Kd.R_lt (zq3 HO599))) (Kd.R_lt (zq3 HO602))) (below_size (zb1 HB)))
         have n15F_ := Aside0.mk (Kd.R_lower (Kd.R_new' (Kd.R_new' (Kd.R_new' (Kd.R_new' (Kd.R_new' (Kd.R_new' (Kd.R_new' (Kd.R_new' (Kd.R_new' (Kd.R_new' (Kd.R_new' (Kd.R_new' (Kd.R_new' (Kd.R_new' ho1F (Kd.R_lt (zq3 HO549))) (Kd.R_lt (zq3 HO552))) (Kd.R_lt (zq3 HO556))) (Kd.R_lt (zq3 HO559))) (Kd.R_lt (zq3 HO565))) (Kd.R_lt (zq3 HO568))) (Kd.R_lt (zq3 HO573))) (Kd.R_lt (zq3 HO576))) (Kd.R_lt (zq3 HO583))) (Kd.R_lt (zq3 HO586))) (Kd.R_lt (zq3 HO591))) (Kd.R_lt (zq3 HO594))) (Kd.R_lt (zq3 HO599))) (Kd.R_lt (zq3 HO602))) (below_size (zb1 HB)))
         have n16_ := Aside0.mk (zbb BK542 hb)
         have n17_ := Aside0.mk (zbb BK543 hb)
         have n18_ := Aside0.mk (zbb BK569 hb)
         have n19_ := Aside0.mk (zbb BK577 hb)
         have n20_ := Aside0.mk (below_step (zb1 HB) hb)
         clear HO549 HO549F HO552 HO552F HO556 HO556F HO559 HO559F HO565 HO565F HO568 HO568F HO573 HO573F HO576 HO576F HO583 HO583F HO586 HO586F HO591 HO591F HO594 HO594F HO599 HO599F HO602 HO602F BK542 BK543 BK569 BK577 HB
         have HO549 := n0_; have HO549F := n0F_; have HO552 := n1_; have HO552F := n1F_; have HO556 := n2_; have HO556F := n2F_; have HO559 := n3_; have HO559F := n3F_; have HO565 := n4_; have HO565F := n4F_; have HO568 := n5_; have HO568F := n5F_; have HO573 := n6_; have HO573F := n6F_; have HO576 := n7_; have HO576F := n7F_; have HO583 := n8_; have HO583F := n8F_; have HO586 := n9_; have HO586F := n9F_; have HO591 := n10_; have HO591F := n10F_; have HO594 := n11_; have HO594F := n11F_; have HO599 := n12_; have HO599F := n12F_; have HO602 := n13_; have HO602F := n13F_; have HO606 := n14_; have HO606F := n14F_; have HO609 := n15_; have HO609F := n15F_; have BK542 := n16_; have BK543 := n17_; have BK569 := n18_; have BK577 := n19_; have HB := n20_
         clear n0_ n1_ n2_ n3_ n4_ n5_ n6_ n7_ n8_ n9_ n10_ n11_ n12_ n13_ n14_ n15_ n16_ n17_ n18_ n19_ n20_ n0F_ n1F_ n2F_ n3F_ n4F_ n5F_ n6F_ n7F_ n8F_ n9F_ n10F_ n11F_ n12F_ n13F_ n14F_ n15F_
         (try clear hb)
         (try clear hb2)
         (try clear hk)
         (try clear hi)
         (try clear ho0)
         (try clear ho0F)
         (try clear ho1)
         (try clear ho1F)
         obtain ⟨Ao85, co85, eo85⟩ := Kd.R_slice HO599.out
         (first | subst eo85 | (injection eo85 with f1_ f2_ f3_; have f4_ := f1_.symm; have f5_ := f3_.symm; clear f1_ f2_ f3_; subst f4_; subst f5_))
         obtain ⟨Ao86, co86, eo86⟩ := Kd.R_slice HO602.out
         (first | subst eo86 | (injection eo86 with f1_ f2_ f3_; have f4_ := f1_.symm; have f5_ := f3_.symm; clear f1_ f2_ f3_; subst f4_; subst f5_))
         obtain ⟨Ao87, co87, eo87⟩ := Kd.R_slice HO606.out
         (first | subst eo87 | (injection eo87 with f1_ f2_ f3_; have f4_ := f1_.symm; have f5_ := f3_.symm; clear f1_ f2_ f3_; subst f4_; subst f5_))
         obtain ⟨Ao88, co88, eo88⟩ := Kd.R_slice HO609.out
         (first | subst eo88 | (injection eo88 with f1_ f2_ f3_; have f4_ := f1_.symm; have f5_ := f3_.symm; clear f1_ f2_ f3_; subst f4_; subst f5_))
         refine hK.out _ _ ⟨zc BK542 0, zc BK542 1, zc BK542 2, zc BK543 0, zc BK543 1, zc BK543 2⟩ (fun hHeld => ?_)
         clear hK K
         refine norm_ (a' := ?_) ?_ ?_
         rotate_left
         ·
          show Act.put _ (some 64) _ = _
          simp only [Act.put, List.setIfInBounds_toArray, List.set_cons_zero, List.set_cons_succ, i64_w, i32_w]; rfl
         refine one_ (i := 4) (N := some 65) #[true, true, true, true, true, false, false, false, false, false] rfl rfl (one_of HT_.out (by kernel_rfl)) (by decide) (fun K hK => ?_)
         refine goes_ Try.func22 (by kernel_rfl) rfl #[.agg #[.int .i64 t596, .slice Ao85 t597.length co85, .slice Ao86 t600.length co86], .agg #[.int .i64 t603, .slice Ao87 t604.length co87, .slice Ao88 t607.length co88]] (by rfl) rfl rfl zq6 ?_
         with_reducible refine (impl_IsBoxInside.calls k t596 _ _ t597 _ _ t600 t603 _ _ t604 _ _ t607 t610 t611 _ ?side1 ?side2 ?side3 ?side4 ?side5 ?side6 ?side7 ?side8 A35.out).mono ?_
         (case side1 => repeat (first | exact (Kd.R_reads' HO599.out).2.2 | (with_reducible refine Kd.C_alloc ?_ _) | (with_reducible refine Kd.C_drewN ?_ _) | (with_reducible refine Kd.C_drew ?_)))
         (case side2 => exact (Kd.R_reads' HO599.out).2.1)
         (case side3 => repeat (first | exact (Kd.R_reads' HO602.out).2.2 | (with_reducible refine Kd.C_alloc ?_ _) | (with_reducible refine Kd.C_drewN ?_ _) | (with_reducible refine Kd.C_drew ?_)))
         (case side4 => exact (Kd.R_reads' HO602.out).2.1)
         (case side5 => repeat (first | exact (Kd.R_reads' HO606.out).2.2 | (with_reducible refine Kd.C_alloc ?_ _) | (with_reducible refine Kd.C_drewN ?_ _) | (with_reducible refine Kd.C_drew ?_)))
         (case side6 => exact (Kd.R_reads' HO606.out).2.1)
         (case side7 => repeat (first | exact (Kd.R_reads' HO609.out).2.2 | (with_reducible refine Kd.C_alloc ?_ _) | (with_reducible refine Kd.C_drewN ?_ _) | (with_reducible refine Kd.C_drew ?_)))
         (case side8 => exact (Kd.R_reads' HO609.out).2.1)
         rintro e w89 ⟨rfl, hb⟩
         refine ⟨_, rfl, ?_⟩
         have n0_ := Aside0.mk (Kd.R_below (zq3 HO549) hb)
         have n0F_ := Aside0.mk (Kd.R_below (zq3 HO549F) hb)
         have n1_ := Aside0.mk (Kd.R_below (zq3 HO552) hb)
         have n1F_ := Aside0.mk (Kd.R_below (zq3 HO552F) hb)
         have n2_ := Aside0.mk (Kd.R_below (zq3 HO556) hb)
         have n2F_ := Aside0.mk (Kd.R_below (zq3 HO556F) hb)
         have n3_ := Aside0.mk (Kd.R_below (zq3 HO559) hb)
         have n3F_ := Aside0.mk (Kd.R_below (zq3 HO559F) hb)
         have n4_ := Aside0.mk (Kd.R_below (zq3 HO565) hb)
         have n4F_ := Aside0.mk (Kd.R_below (zq3 HO565F) hb)
         have n5_ := Aside0.mk (Kd.R_below (zq3 HO568) hb)
         have n5F_ := Aside0.mk (Kd.R_below (zq3 HO568F) hb)
         have n6_ := Aside0.mk (Kd.R_below (zq3 HO573) hb)
         have n6F_ := Aside0.mk (Kd.R_below (zq3 HO573F) hb)
         have n7_ := Aside0.mk (Kd.R_below (zq3 HO576) hb)
         have n7F_ := Aside0.mk (Kd.R_below (zq3 HO576F) hb)
         have n8_ := Aside0.mk (Kd.R_below (zq3 HO583) hb)
         have n8F_ := Aside0.mk (Kd.R_below (zq3 HO583F) hb)
         have n9_ := Aside0.mk (Kd.R_below (zq3 HO586) hb)
         have n9F_ := Aside0.mk (Kd.R_below (zq3 HO586F) hb)
         have n10_ := Aside0.mk (Kd.R_below (zq3 HO591) hb)
         have n10F_ := Aside0.mk (Kd.R_below (zq3 HO591F) hb)
         have n11_ := Aside0.mk (Kd.R_below (zq3 HO594) hb)
         have n11F_ := Aside0.mk (Kd.R_below (zq3 HO594F) hb)
         have n12_ := Aside0.mk (Kd.R_below (zq3 HO599) hb)
         have n12F_ := Aside0.mk (Kd.R_below (zq3 HO599F) hb)
         have n13_ := Aside0.mk (Kd.R_below (zq3 HO602) hb)
         have n13F_ := Aside0.mk (Kd.R_below (zq3 HO602F) hb)
         have n14_ := Aside0.mk (Kd.R_below (zq3 HO606) hb)
         have n14F_ := Aside0.mk (Kd.R_below (zq3 HO606F) hb)
         have n15_ := Aside0.mk (Kd.R_below (zq3 HO609) hb)
         have n15F_ := Aside0.mk (Kd.R_below (zq3 HO609F) hb)
         have n16_ := Aside0.mk (zbb BK542 hb)
         have n17_ := Aside0.mk (zbb BK543 hb)
         have n18_ := Aside0.mk (zbb BK569 hb)
         have n19_ := Aside0.mk (zbb BK577 hb)
         have n20_ := Aside0.mk (below_step (zb1 HB) hb)
         clear HO549 HO549F HO552 HO552F HO556 HO556F HO559 HO559F HO565 HO565F HO568 HO568F HO573 HO573F HO576 HO576F HO583 HO583F HO586 HO586F HO591 HO591F HO594 HO594F HO599 HO599F HO602 HO602F HO606 HO606F HO609 HO609F BK542 BK543 BK569 BK577 HB
         have HO549 := n0_; have HO549F := n0F_; have HO552 := n1_; have HO552F := n1F_; have HO556 := n2_; have HO556F := n2F_; have HO559 := n3_; have HO559F := n3F_; have HO565 := n4_; have HO565F := n4F_; have HO568 := n5_; have HO568F := n5F_; have HO573 := n6_; have HO573F := n6F_; have HO576 := n7_; have HO576F := n7F_; have HO583 := n8_; have HO583F := n8F_; have HO586 := n9_; have HO586F := n9F_; have HO591 := n10_; have HO591F := n10F_; have HO594 := n11_; have HO594F := n11F_; have HO599 := n12_; have HO599F := n12F_; have HO602 := n13_; have HO602F := n13F_; have HO606 := n14_; have HO606F := n14F_; have HO609 := n15_; have HO609F := n15F_; have BK542 := n16_; have BK543 := n17_; have BK569 := n18_; have BK577 := n19_; have HB := n20_
         clear n0_ n1_ n2_ n3_ n4_ n5_ n6_ n7_ n8_ n9_ n10_ n11_ n12_ n13_ n14_ n15_ n16_ n17_ n18_ n19_ n20_ n0F_ n1F_ n2F_ n3F_ n4F_ n5F_ n6F_ n7F_ n8F_ n9F_ n10F_ n11F_ n12F_ n13F_ n14F_ n15F_
         (try clear hb)
         (try clear hb2)
         (try clear hk)
         (try clear hi)
         refine hK.out _ _ ⟨zc BK542 0, zc BK542 1, zc BK542 2, zc BK543 0, zc BK543 1, zc BK543 2⟩ (fun hHeld => ?_)
         clear hK K
         refine norm_ (a' := ?_) ?_ ?_
         rotate_left
         ·
          show Act.put _ (some 65) _ = _
          simp only [Act.put, List.setIfInBounds_toArray, List.set_cons_zero, List.set_cons_succ, i64_w, i32_w]; rfl
         refine zp (i := 5) (N := some 60) #[true, true, true, true, true, true, false, false, false, false] (any_of HT_.out (by kernel_rfl)) ?_
         refine zp (i := 6) (N := some 66) #[true, true, true, true, true, true, true, false, false, false] (any_of HT_.out (by kernel_rfl)) ?_
         refine zp (i := 7) (N := some 67) #[true, true, true, true, true, true, true, true, false, false] (any_of HT_.out (by kernel_rfl)) ?_
         refine zp (i := 8) (N := some 12) #[true, true, true, true, true, true, true, true, true, false] (any_of HT_.out (by kernel_rfl)) ?_
         refine zp (i := 9) (N := some 13) #[true, true, true, true, true, true, true, true, true, true] (any_of HT_.out (by kernel_rfl)) ?_
         refine done_ (done_of HT_.out (by kernel_rfl)) ?_
         try go_wp2
         go_ret
         exact ⟨by first | rfl | (simp [errW_none, errW_some] <;> rfl) | (simp [*, errW_none, errW_some] <;> rfl), (zb1 HB)⟩
      ·
       replace c32 := Bool.eq_false_iff.mpr c32
       subst c32
       have H1 : (none) = some r := by rw [if_neg (show ¬ (false = true) by decide)] at H; exact H
       clear H
       have H := H1
       clear H1
       exact absurd H (by simp)
     ·
      replace c29 := Bool.eq_false_iff.mpr c29
      subst c29
      have H1 : (none) = some r := by rw [if_neg (show ¬ (false = true) by decide)] at H; exact H
      clear H
      have H := H1
      clear H1
      exact absurd H (by simp)
end Go.Proofs.Ytgaoniapddpaaaa.PD
