-- Written by a program of this session (wip/mk/drv.py) out of the seat's translation; Lean checks it.
import Derived.Test.YthgalpfnfidcdaaQDivideDownPDx0
import Derived.Test.YthgalpfnfidcdaaQDivideDownPDx1
import Derived.Test.YthgalpfnfidcdaaQDivideDownPDx2
import Derived.Test.YthgalpfnfidcdaaQDivideDownPDx7
import Derived.Test.YthgalpfnfidcdaaQDivideDownPDx8
import Derived.Test.YthgalpfnfidcdaaQDivideDownPDx27
import Derived.Test.YthgalpfnfidcdaaQDivideDownPDx34
import Derived.Test.YthgalpfnfidcdaaQDivideDownPDx52
namespace Go.Proofs.Ythgalpfnfidcdaa.PD
open Go.RowKit Go.Proofs.YthgalpfnfidcdaaW.PrintWords Go.Proofs.YthgalpfnfidcdaaW.PrintLast Go.Proofs.YthgalpfnfidcdaaW.PrintMore
attribute [local go_sem] max2_int min2_int max_two min_two max_three min_three max_four min_four   -- for this text's walks alone
set_option linter.unusedVariables false
set_option linter.unusedSimpArgs false
/-! ### impl_quotientDown: function 63 -/
def impl_quotientDown.T3 : Bool × List (List Nat × List Nat) := (true, [([], []), ([0], [0]), ([], []), ([2], [2]), ([1, 3, 3], [1, 3]), ([4], [4]), ([5], [5]), ([5], [5]), ([6, 4, 0, 1, 2, 3, 4, 5, 6], [6]), ([7, 8, 0, 1, 2, 3, 4, 5, 6, 7, 8], [7])])
def impl_quotientDown.B3 : List Nat := [0, 1, 0, 4, 15, 31, 63, 63, 127, 511]
theorem impl_quotientDown.tab3 : rtab .any (opsOf Try.f63 3) = impl_quotientDown.T3 := by kernel_rfl
theorem impl_quotientDown.bits3 : waitsOk impl_quotientDown.T3.2 impl_quotientDown.B3 = true := by kernel_rfl
def impl_quotientDown.T4 : Bool × List (List Nat × List Nat) := (true, [([], []), ([], []), ([1], [1]), ([], []), ([3], [3]), ([0, 2, 4, 4], [0, 2, 4]), ([5], [5]), ([6], [6]), ([6], [6]), ([7, 5, 0, 1, 2, 3, 4, 5, 6, 7], [7]), ([8, 9, 0, 1, 2, 3, 4, 5, 6, 7, 8, 9], [8])])
def impl_quotientDown.B4 : List Nat := [0, 0, 2, 0, 8, 31, 63, 127, 127, 255, 1023]
theorem impl_quotientDown.tab4 : rtab .any (opsOf Try.f63 4) = impl_quotientDown.T4 := by kernel_rfl
theorem impl_quotientDown.bits4 : waitsOk impl_quotientDown.T4.2 impl_quotientDown.B4 = true := by kernel_rfl
def impl_quotientDown.T7 : Bool × List (List Nat × List Nat) := (true, [([], []), ([0], [0]), ([1], [1]), ([2], [2]), ([2], [2]), ([4, 2], [2, 4]), ([2], [2]), ([5, 6, 2], [2, 5, 6]), ([7, 2], [2, 7]), ([3, 8, 2, 2], [2, 3, 8]), ([2], [2]), ([9, 10, 9, 2], [2, 9, 10]), ([11, 2], [2, 11]), ([2, 12], [2, 12]), ([13, 11, 0, 1, 2, 3, 4, 5, 6, 7, 8, 9, 10, 11, 12, 13], [13])])
def impl_quotientDown.B7 : List Nat := [0, 1, 3, 7, 7, 23, 7, 119, 247, 511, 7, 2047, 4095, 8191, 16383]
theorem impl_quotientDown.tab7 : rtab .any (opsOf Try.f63 7) = impl_quotientDown.T7 := by kernel_rfl
theorem impl_quotientDown.bits7 : waitsOk impl_quotientDown.T7.2 impl_quotientDown.B7 = true := by kernel_rfl
set_option maxHeartbeats 8000000 in
set_option maxRecDepth 100000 in
theorem impl_quotientDown.calls (k : Nat) (a0 : Int) (a1 : Int) (a2 : Int) (a3 : Int) (r1 : Int) (r2 : Int) (r3 : Bool) (w : World) (h : impl_quotientDown.f k a0 a1 a2 a3 = some (r1, r2, r3)) :
    Calls Try.prog 63 #[.int .i64 a0, .int .i64 a1, .int .i64 a2, .int .i64 a3] w fun e w' => e = .returned (.tuple #[.agg #[.int .i64 r1, .int .i64 r2], .bool r3]) ∧ Below w.heap.size w w' := by
  have hu26 := Try.underlying26
  have hu44 := Try.underlying44
  have HB := Aside0.mk (Below.refl w.heap.size w)
  have H : ((impl_wideOf.f a0).bind fun bt606 => ((impl_wide_shift.f bt606.1 bt606.2.1 bt606.2.2 (mx (wrap64 (a1 + a3)) 0)).bind fun bt609 => ((impl_size.f a2).bind fun t613 => ((bits_Div64.f k 0 bt609.2.1 t613).bind fun bt614 => ((impl_size.f a2).bind fun t616 => ((bits_Div64.f k bt614.2 bt609.2.2 t616).bind fun bt617 => ((impl_wide_shift.f (!(decide (a0 < 0)) == (decide (a2 < 0))) bt614.1 bt617.1 (mn (wrap64 (a1 + a3)) 0)).bind fun bt620 => (if bt617.2 = 0 then ((impl_wide_shift.f bt620.1 bt620.2.1 bt620.2.2 (mx (wrap64 ((wrap64 (-a1)) - a3)) 0)).bind fun bt624 => ((impl_compareSizes.f k bt624.1 bt624.2.1 bt624.2.2 (!(decide (a0 < 0)) == (decide (a2 < 0))) bt614.1 bt617.1).bind fun t627 => (impl_quotientDown.j0 k a3 (t627 == 0) (!(decide (a0 < 0)) == (decide (a2 < 0))) bt609.2.1 bt609.2.2 bt620.1 bt620.2.1 bt620.2.2))) else (impl_quotientDown.j0 k a3 false (!(decide (a0 < 0)) == (decide (a2 < 0))) bt609.2.1 bt609.2.2 bt620.1 bt620.2.1 bt620.2.2))))))))) = some (r1, r2, r3) := h
  clear h
  replace H := Option.bind_eq_some_iff.mp H
  obtain ⟨⟨t606, t607, t608⟩, A50, H⟩ := H
  replace H : ((impl_wide_shift.f t606 t607 t608 (mx (wrap64 (a1 + a3)) 0)).bind fun bt609 => ((impl_size.f a2).bind fun t613 => ((bits_Div64.f k 0 bt609.2.1 t613).bind fun bt614 => ((impl_size.f a2).bind fun t616 => ((bits_Div64.f k bt614.2 bt609.2.2 t616).bind fun bt617 => ((impl_wide_shift.f (!(decide (a0 < 0)) == (decide (a2 < 0))) bt614.1 bt617.1 (mn (wrap64 (a1 + a3)) 0)).bind fun bt620 => (if bt617.2 = 0 then ((impl_wide_shift.f bt620.1 bt620.2.1 bt620.2.2 (mx (wrap64 ((wrap64 (-a1)) - a3)) 0)).bind fun bt624 => ((impl_compareSizes.f k bt624.1 bt624.2.1 bt624.2.2 (!(decide (a0 < 0)) == (decide (a2 < 0))) bt614.1 bt617.1).bind fun t627 => (impl_quotientDown.j0 k a3 (t627 == 0) (!(decide (a0 < 0)) == (decide (a2 < 0))) bt609.2.1 bt609.2.2 bt620.1 bt620.2.1 bt620.2.2))) else (impl_quotientDown.j0 k a3 false (!(decide (a0 < 0)) == (decide (a2 < 0))) bt609.2.1 bt609.2.2 bt620.1 bt620.2.1 bt620.2.2)))))))) = some (r1, r2, r3) := H
  have A5 := Aside0.mk A50
  clear A50
  obtain ⟨ji6, hji6⟩ : ∃ j_ : Int, (mx (wrap64 (a1 + a3)) 0) = j_ := ⟨_, rfl⟩
  replace H : ((impl_wide_shift.f t606 t607 t608 (ji6)).bind fun bt609 => ((impl_size.f a2).bind fun t613 => ((bits_Div64.f k 0 bt609.2.1 t613).bind fun bt614 => ((impl_size.f a2).bind fun t616 => ((bits_Div64.f k bt614.2 bt609.2.2 t616).bind fun bt617 => ((impl_wide_shift.f (!(decide (a0 < 0)) == (decide (a2 < 0))) bt614.1 bt617.1 (mn (wrap64 (a1 + a3)) 0)).bind fun bt620 => (if bt617.2 = 0 then ((impl_wide_shift.f bt620.1 bt620.2.1 bt620.2.2 (mx (wrap64 ((wrap64 (-a1)) - a3)) 0)).bind fun bt624 => ((impl_compareSizes.f k bt624.1 bt624.2.1 bt624.2.2 (!(decide (a0 < 0)) == (decide (a2 < 0))) bt614.1 bt617.1).bind fun t627 => (impl_quotientDown.j0 k a3 (t627 == 0) (!(decide (a0 < 0)) == (decide (a2 < 0))) bt609.2.1 bt609.2.2 bt620.1 bt620.2.1 bt620.2.2))) else (impl_quotientDown.j0 k a3 false (!(decide (a0 < 0)) == (decide (a2 < 0))) bt609.2.1 bt609.2.2 bt620.1 bt620.2.1 bt620.2.2)))))))) = some (r1, r2, r3) := by first | (rw [hji6] at H; exact H) | (simp only [hji6] at H ⊢; exact H)
  (try rw [hji6] at A5)
  (try (have hji6l : 0 ≤ ji6 := by (rw [← hji6]; unfold mx; (repeat' split) <;> omega)))
  (try (have hji6m : 0 ≤ ji6 := by omega))
  have hji6_ : (if (wrap64 (a1 + a3)) < 0 then 0 else (wrap64 (a1 + a3))) = ji6 := hji6
  replace H := Option.bind_eq_some_iff.mp H
  obtain ⟨⟨t609, t610, t611⟩, A70, H⟩ := H
  replace H : ((impl_size.f a2).bind fun t613 => ((bits_Div64.f k 0 t610 t613).bind fun bt614 => ((impl_size.f a2).bind fun t616 => ((bits_Div64.f k bt614.2 t611 t616).bind fun bt617 => ((impl_wide_shift.f (!(decide (a0 < 0)) == (decide (a2 < 0))) bt614.1 bt617.1 (mn (wrap64 (a1 + a3)) 0)).bind fun bt620 => (if bt617.2 = 0 then ((impl_wide_shift.f bt620.1 bt620.2.1 bt620.2.2 (mx (wrap64 ((wrap64 (-a1)) - a3)) 0)).bind fun bt624 => ((impl_compareSizes.f k bt624.1 bt624.2.1 bt624.2.2 (!(decide (a0 < 0)) == (decide (a2 < 0))) bt614.1 bt617.1).bind fun t627 => (impl_quotientDown.j0 k a3 (t627 == 0) (!(decide (a0 < 0)) == (decide (a2 < 0))) t610 t611 bt620.1 bt620.2.1 bt620.2.2))) else (impl_quotientDown.j0 k a3 false (!(decide (a0 < 0)) == (decide (a2 < 0))) t610 t611 bt620.1 bt620.2.1 bt620.2.2))))))) = some (r1, r2, r3) := H
  have A7 := Aside0.mk A70
  clear A70
  replace H := Option.bind_eq_some_iff.mp H
  obtain ⟨t613, A80, H⟩ := H
  replace H : ((bits_Div64.f k 0 t610 t613).bind fun bt614 => ((impl_size.f a2).bind fun t616 => ((bits_Div64.f k bt614.2 t611 t616).bind fun bt617 => ((impl_wide_shift.f (!(decide (a0 < 0)) == (decide (a2 < 0))) bt614.1 bt617.1 (mn (wrap64 (a1 + a3)) 0)).bind fun bt620 => (if bt617.2 = 0 then ((impl_wide_shift.f bt620.1 bt620.2.1 bt620.2.2 (mx (wrap64 ((wrap64 (-a1)) - a3)) 0)).bind fun bt624 => ((impl_compareSizes.f k bt624.1 bt624.2.1 bt624.2.2 (!(decide (a0 < 0)) == (decide (a2 < 0))) bt614.1 bt617.1).bind fun t627 => (impl_quotientDown.j0 k a3 (t627 == 0) (!(decide (a0 < 0)) == (decide (a2 < 0))) t610 t611 bt620.1 bt620.2.1 bt620.2.2))) else (impl_quotientDown.j0 k a3 false (!(decide (a0 < 0)) == (decide (a2 < 0))) t610 t611 bt620.1 bt620.2.1 bt620.2.2)))))) = some (r1, r2, r3) := H
  have A8 := Aside0.mk A80
  clear A80
  replace H := Option.bind_eq_some_iff.mp H
  obtain ⟨⟨t614, t615⟩, A90, H⟩ := H
  replace H : ((impl_size.f a2).bind fun t616 => ((bits_Div64.f k t615 t611 t616).bind fun bt617 => ((impl_wide_shift.f (!(decide (a0 < 0)) == (decide (a2 < 0))) t614 bt617.1 (mn (wrap64 (a1 + a3)) 0)).bind fun bt620 => (if bt617.2 = 0 then ((impl_wide_shift.f bt620.1 bt620.2.1 bt620.2.2 (mx (wrap64 ((wrap64 (-a1)) - a3)) 0)).bind fun bt624 => ((impl_compareSizes.f k bt624.1 bt624.2.1 bt624.2.2 (!(decide (a0 < 0)) == (decide (a2 < 0))) t614 bt617.1).bind fun t627 => (impl_quotientDown.j0 k a3 (t627 == 0) (!(decide (a0 < 0)) == (decide (a2 < 0))) t610 t611 bt620.1 bt620.2.1 bt620.2.2))) else (impl_quotientDown.j0 k a3 false (!(decide (a0 < 0)) == (decide (a2 < 0))) t610 t611 bt620.1 bt620.2.1 bt620.2.2))))) = some (r1, r2, r3) := H
  have A9 := Aside0.mk A90
  clear A90
  replace H := Option.bind_eq_some_iff.mp H
  obtain ⟨t616, A100, H⟩ := H
  replace H : ((bits_Div64.f k t615 t611 t616).bind fun bt617 => ((impl_wide_shift.f (!(decide (a0 < 0)) == (decide (a2 < 0))) t614 bt617.1 (mn (wrap64 (a1 + a3)) 0)).bind fun bt620 => (if bt617.2 = 0 then ((impl_wide_shift.f bt620.1 bt620.2.1 bt620.2.2 (mx (wrap64 ((wrap64 (-a1)) - a3)) 0)).bind fun bt624 => ((impl_compareSizes.f k bt624.1 bt624.2.1 bt624.2.2 (!(decide (a0 < 0)) == (decide (a2 < 0))) t614 bt617.1).bind fun t627 => (impl_quotientDown.j0 k a3 (t627 == 0) (!(decide (a0 < 0)) == (decide (a2 < 0))) t610 t611 bt620.1 bt620.2.1 bt620.2.2))) else (impl_quotientDown.j0 k a3 false (!(decide (a0 < 0)) == (decide (a2 < 0))) t610 t611 bt620.1 bt620.2.1 bt620.2.2)))) = some (r1, r2, r3) := H
  have A10 := Aside0.mk A100
  clear A100
  replace H := Option.bind_eq_some_iff.mp H
  obtain ⟨⟨t617, t618⟩, A110, H⟩ := H
  replace H : ((impl_wide_shift.f (!(decide (a0 < 0)) == (decide (a2 < 0))) t614 t617 (mn (wrap64 (a1 + a3)) 0)).bind fun bt620 => (if t618 = 0 then ((impl_wide_shift.f bt620.1 bt620.2.1 bt620.2.2 (mx (wrap64 ((wrap64 (-a1)) - a3)) 0)).bind fun bt624 => ((impl_compareSizes.f k bt624.1 bt624.2.1 bt624.2.2 (!(decide (a0 < 0)) == (decide (a2 < 0))) t614 t617).bind fun t627 => (impl_quotientDown.j0 k a3 (t627 == 0) (!(decide (a0 < 0)) == (decide (a2 < 0))) t610 t611 bt620.1 bt620.2.1 bt620.2.2))) else (impl_quotientDown.j0 k a3 false (!(decide (a0 < 0)) == (decide (a2 < 0))) t610 t611 bt620.1 bt620.2.1 bt620.2.2))) = some (r1, r2, r3) := H
  have A11 := Aside0.mk A110
  clear A110
  obtain ⟨ji12, hji12⟩ : ∃ j_ : Int, (mn (wrap64 (a1 + a3)) 0) = j_ := ⟨_, rfl⟩
  replace H : ((impl_wide_shift.f (!(decide (a0 < 0)) == (decide (a2 < 0))) t614 t617 (ji12)).bind fun bt620 => (if t618 = 0 then ((impl_wide_shift.f bt620.1 bt620.2.1 bt620.2.2 (mx (wrap64 ((wrap64 (-a1)) - a3)) 0)).bind fun bt624 => ((impl_compareSizes.f k bt624.1 bt624.2.1 bt624.2.2 (!(decide (a0 < 0)) == (decide (a2 < 0))) t614 t617).bind fun t627 => (impl_quotientDown.j0 k a3 (t627 == 0) (!(decide (a0 < 0)) == (decide (a2 < 0))) t610 t611 bt620.1 bt620.2.1 bt620.2.2))) else (impl_quotientDown.j0 k a3 false (!(decide (a0 < 0)) == (decide (a2 < 0))) t610 t611 bt620.1 bt620.2.1 bt620.2.2))) = some (r1, r2, r3) := by first | (rw [hji12] at H; exact H) | (simp only [hji12] at H ⊢; exact H)
  (try rw [hji12] at A5)
  (try rw [hji12] at A7)
  (try rw [hji12] at A8)
  (try rw [hji12] at A9)
  (try rw [hji12] at A10)
  (try rw [hji12] at A11)
  (try (have hji12h : ji12 ≤ 0 := by (rw [← hji12]; unfold mn; (repeat' split) <;> omega)))
  (try (have hji12g : ji12 ≤ 64 := by omega))
  have hji12_ : (if 0 < (wrap64 (a1 + a3)) then 0 else (wrap64 (a1 + a3))) = ji12 := hji12
  replace H := Option.bind_eq_some_iff.mp H
  obtain ⟨⟨t620, t621, t622⟩, A130, H⟩ := H
  replace H : (if t618 = 0 then ((impl_wide_shift.f t620 t621 t622 (mx (wrap64 ((wrap64 (-a1)) - a3)) 0)).bind fun bt624 => ((impl_compareSizes.f k bt624.1 bt624.2.1 bt624.2.2 (!(decide (a0 < 0)) == (decide (a2 < 0))) t614 t617).bind fun t627 => (impl_quotientDown.j0 k a3 (t627 == 0) (!(decide (a0 < 0)) == (decide (a2 < 0))) t610 t611 t620 t621 t622))) else (impl_quotientDown.j0 k a3 false (!(decide (a0 < 0)) == (decide (a2 < 0))) t610 t611 t620 t621 t622)) = some (r1, r2, r3) := H
  have A13 := Aside0.mk A130
  clear A130
  have HC14 := Aside0.mk H
  clear H
  go_enter Try.func63, Try.ntmps63
  try go_wp2_with (first | ((with_reducible refine gate_dst (N := 8) rfl ?_); (try (refine gate_guard (by rfl) ?_; dsimp only)); refine box_event ?hg (N := 8) ?hd (cs := #[.int .i64 0, .int .i64 0]) (t := 26) ?hr ?_; (case hd => rfl); (case hg => rfl); (case hr => first | (go_simp; done) | (go_simp; rfl)); intro gb605 hg w15 hbox hb; have n0_ := Aside0.mk (below_step (by repeat (first | (with_reducible first | exact HB.out | apply below_alloc | apply pw_below_drewN | apply below_drew1) | exact HB.out)) hb); have n1_ := Aside0.mk (hbox); have n2_ := Aside0.mk ((by rw [hg]; exact (below_size (by repeat (first | (with_reducible first | exact HB.out | apply below_alloc | apply pw_below_drewN | apply below_drew1) | exact HB.out))) : w.heap.size ≤ gb605)); have n3_ := Aside0.mk ((by rw [hg]; exact (below_size (by repeat (first | (with_reducible first | exact HB.out | apply below_alloc | apply pw_below_drewN | apply below_drew1) | exact HB.out))) : w.heap.size ≤ gb605)); clear HB; have HB := n0_; have BK605 := n1_; have GW605 := n2_; have GE605 := n3_; clear n0_ n1_ n2_ n3_; clear hb hbox hg) | ((with_reducible refine gate_callee (f := 44) rfl ?_); refine goesL_ (some 19) rfl rfl Try.func44 (by kernel_rfl) rfl #[.int .i64 a0] rfl (by (try simp only [List.map_toArray, List.map_cons, List.map_nil]); first | done | rfl | (simp only [List.length_drop, List.length_take]; rfl)) ?_; (with_reducible refine (impl_wideOf.calls a0 t606 t607 t608 _ A5.out).mono ?_); rintro e w16 ⟨rfl, hb⟩; refine ⟨_, rfl, ?_⟩; have n0_ := Aside0.mk (blk_below (g := gb605) (o := .cells #[.int .i64 0, .int .i64 0] 26 (0, 0)) (by (with_reducible repeat (first | refine blk_drewN ?_ _ | refine blk_drew ?_ | refine blk_alloc ?_ _)); exact BK605.out) hb); have n1_ := Aside0.mk (below_step (by repeat (first | (with_reducible first | exact HB.out | apply below_alloc | apply pw_below_drewN | apply below_drew1 | refine below_set ?_ GE605.out) | exact HB.out)) hb); clear BK605; clear HB; have BK605 := n0_; have HB := n1_; clear n0_ n1_; (try clear hb); (try clear hb2); (try clear hk); (try clear hi)) | ((with_reducible refine gate_callee (f := 65) rfl ?_); refine goesL_ (some 24) rfl rfl Try.func65 (by kernel_rfl) rfl #[.agg #[.bool t606, .int .u64 t607, .int .u64 t608], .int .i64 ji6] rfl (by (try simp only [List.map_toArray, List.map_cons, List.map_nil]); first | done | (simp only [hji6]; rfl) | rfl | (simp only [List.length_drop, List.length_take]; rfl)) ?_; (with_reducible refine (impl_wide_shift.calls t606 t607 t608 ji6 t609 t610 t611 _ A7.out).mono ?_); rintro e w17 ⟨rfl, hb⟩; refine ⟨_, rfl, ?_⟩; have n0_ := Aside0.mk (blk_below (g := gb605) (o := .cells #[.int .i64 0, .int .i64 0] 26 (0, 0)) (by (with_reducible repeat (first | refine blk_drewN ?_ _ | refine blk_drew ?_ | refine blk_alloc ?_ _)); exact BK605.out) hb); have n1_ := Aside0.mk (below_step (by repeat (first | (with_reducible first | exact HB.out | apply below_alloc | apply pw_below_drewN | apply below_drew1 | refine below_set ?_ GE605.out) | exact HB.out)) hb); clear BK605; clear HB; have BK605 := n0_; have HB := n1_; clear n0_ n1_; (try clear hb); (try clear hb2); (try clear hk); (try clear hi)) | ((with_reducible refine gate_dst (N := 10) rfl ?_); (try (refine gate_guard (by rfl) ?_; dsimp only)); refine box_event ?hg (N := 10) ?hd (cs := #[.bool false, .int .u64 0, .int .u64 0]) (t := 44) ?hr ?_; (case hd => rfl); (case hg => rfl); (case hr => first | (go_simp; done) | (go_simp; rfl)); intro gb612 hg w18 hbox hb; have n0_ := Aside0.mk (blk_below (g := gb605) (o := .cells #[.int .i64 0, .int .i64 0] 26 (0, 0)) (by (with_reducible repeat (first | refine blk_drewN ?_ _ | refine blk_drew ?_ | refine blk_alloc ?_ _)); exact BK605.out) hb); have n1_ := Aside0.mk (below_step (by repeat (first | (with_reducible first | exact HB.out | apply below_alloc | apply pw_below_drewN | apply below_drew1 | refine below_set ?_ GE605.out) | exact HB.out)) hb); have n2_ := Aside0.mk (hbox); have n3_ := Aside0.mk ((by rw [hg]; exact (below_size (by repeat (first | (with_reducible first | exact HB.out | apply below_alloc | apply pw_below_drewN | apply below_drew1 | refine below_set ?_ GE605.out) | exact HB.out))) : w.heap.size ≤ gb612)); have n4_ := Aside0.mk ((by rw [hg]; exact (below_size (by repeat (first | (with_reducible first | exact HB.out | apply below_alloc | apply pw_below_drewN | apply below_drew1 | refine below_set ?_ GE605.out) | exact HB.out))) : w.heap.size ≤ gb612)); have n5_ := Aside0.mk ((by rw [hg]; exact Nat.ne_of_lt (blk_lt (g := gb605) (o := .cells #[.int .i64 0, .int .i64 0] 26 (0, 0)) (by (with_reducible repeat (first | refine blk_drewN ?_ _ | refine blk_drew ?_ | refine blk_alloc ?_ _)); exact BK605.out)) : gb605 ≠ gb612)); have n6_ := Aside0.mk ((by rw [hg]; exact Nat.ne_of_gt (blk_lt (g := gb605) (o := .cells #[.int .i64 0, .int .i64 0] 26 (0, 0)) (by (with_reducible repeat (first | refine blk_drewN ?_ _ | refine blk_drew ?_ | refine blk_alloc ?_ _)); exact BK605.out)) : gb612 ≠ gb605)); clear BK605; clear HB; have BK605 := n0_; have HB := n1_; have BK612 := n2_; have GW612 := n3_; have GE612 := n4_; have NB605_612 := n5_; have NB612_605 := n6_; clear n0_ n1_ n2_ n3_ n4_ n5_ n6_; clear hb hbox hg; have hnb19 := NB612_605.out; have hnc19 := NB605_612.out; have hcz20_0 : w18.cell? ⟨gb612, 0, none⟩ = some (.bool false) := (blk_cell BK612.out 0).trans rfl; have hcz20_1 : w18.cell? ⟨gb612, 1, none⟩ = some (.int .u64 0) := (blk_cell BK612.out 1).trans rfl; have hcz20_2 : w18.cell? ⟨gb612, 2, none⟩ = some (.int .u64 0) := (blk_cell BK612.out 2).trans rfl; have hfz20_0 := blk_frozen BK612.out 0; have hfz20_1 := blk_frozen BK612.out 1; have hfz20_2 := blk_frozen BK612.out 2))
  have n0_ : Aside0 (((((w18.setCell ⟨gb612, 0, none⟩ (.bool t609)).setCell ⟨gb612, 1, none⟩ (.int .u64 t610)).setCell ⟨gb612, 2, none⟩ (.int .u64 t611)).setCell ⟨gb612, 0, none⟩ (.bool (!(decide (a0 < 0)) == (decide (a2 < 0))))).heap[gb605]? = some (.cells #[.int .i64 0, .int .i64 0] 26 (0, 0))) := ⟨by (with_reducible repeat (first | refine blk_drewN ?_ _ | refine blk_drew ?_ | refine blk_alloc ?_ _)); refine blk_far ?_ NB605_612.out _; (with_reducible repeat (first | refine blk_drewN ?_ _ | refine blk_drew ?_ | refine blk_alloc ?_ _)); refine blk_far ?_ NB605_612.out _; (with_reducible repeat (first | refine blk_drewN ?_ _ | refine blk_drew ?_ | refine blk_alloc ?_ _)); refine blk_far ?_ NB605_612.out _; (with_reducible repeat (first | refine blk_drewN ?_ _ | refine blk_drew ?_ | refine blk_alloc ?_ _)); refine blk_far ?_ NB605_612.out _; (with_reducible repeat (first | refine blk_drewN ?_ _ | refine blk_drew ?_ | refine blk_alloc ?_ _)); exact BK605.out⟩
  have n1_ : Aside0 (((((w18.setCell ⟨gb612, 0, none⟩ (.bool t609)).setCell ⟨gb612, 1, none⟩ (.int .u64 t610)).setCell ⟨gb612, 2, none⟩ (.int .u64 t611)).setCell ⟨gb612, 0, none⟩ (.bool (!(decide (a0 < 0)) == (decide (a2 < 0))))).heap[gb612]? = some (.cells #[.bool (!(decide (a0 < 0)) == (decide (a2 < 0))), .int .u64 t610, .int .u64 t611] 44 (0, 0))) := ⟨by (with_reducible repeat (first | refine blk_drewN ?_ _ | refine blk_drew ?_ | refine blk_alloc ?_ _)); refine blk_put (cs := #[.bool t609, .int .u64 t610, .int .u64 t611]) ?_ 0 _ rfl; (with_reducible repeat (first | refine blk_drewN ?_ _ | refine blk_drew ?_ | refine blk_alloc ?_ _)); refine blk_put (cs := #[.bool t609, .int .u64 t610, .int .u64 0]) ?_ 2 _ rfl; (with_reducible repeat (first | refine blk_drewN ?_ _ | refine blk_drew ?_ | refine blk_alloc ?_ _)); refine blk_put (cs := #[.bool t609, .int .u64 0, .int .u64 0]) ?_ 1 _ rfl; (with_reducible repeat (first | refine blk_drewN ?_ _ | refine blk_drew ?_ | refine blk_alloc ?_ _)); refine blk_put (cs := #[.bool false, .int .u64 0, .int .u64 0]) ?_ 0 _ rfl; (with_reducible repeat (first | refine blk_drewN ?_ _ | refine blk_drew ?_ | refine blk_alloc ?_ _)); exact BK612.out⟩
  have n2_ : Aside0 (Below w.heap.size w ((((w18.setCell ⟨gb612, 0, none⟩ (.bool t609)).setCell ⟨gb612, 1, none⟩ (.int .u64 t610)).setCell ⟨gb612, 2, none⟩ (.int .u64 t611)).setCell ⟨gb612, 0, none⟩ (.bool (!(decide (a0 < 0)) == (decide (a2 < 0)))))) := ⟨by repeat (first | (with_reducible first | exact HB.out | apply below_alloc | apply pw_below_drewN | apply below_drew1 | refine below_set ?_ GE605.out | refine below_set ?_ GE612.out) | exact HB.out)⟩
  (try clear BK605)
  (try clear BK612)
  (try clear HB)
  generalize ((((w18.setCell ⟨gb612, 0, none⟩ (.bool t609)).setCell ⟨gb612, 1, none⟩ (.int .u64 t610)).setCell ⟨gb612, 2, none⟩ (.int .u64 t611)).setCell ⟨gb612, 0, none⟩ (.bool (!(decide (a0 < 0)) == (decide (a2 < 0))))) = w21 at n0_ n1_ n2_ ⊢
  have BK605 := n0_
  have BK612 := n1_
  have HB := n2_
  clear n0_ n1_ n2_
  have n0_ := Aside0.mk (blk_drew BK605.out)
  have n1_ := Aside0.mk (blk_drew BK612.out)
  have n2_ := Aside0.mk (below_drew1 HB.out)
  clear BK605
  clear BK612
  clear HB
  have BK605 := n0_
  have BK612 := n1_
  have HB := n2_
  clear n0_ n1_ n2_
  refine start_ (n := 10) (S := fun w' => w'.cell? ⟨gb612, 0, none⟩ = some (.bool (!(decide (a0 < 0)) == (decide (a2 < 0)))) ∧ w'.cell? ⟨gb612, 1, none⟩ = some (.int .u64 t610) ∧ w'.cell? ⟨gb612, 2, none⟩ = some (.int .u64 t611)) (ds := []) #[false, false, false, false, false, false, false, false, false, false] (by kernel_rfl) rfl rfl ⟨(blk_cell BK612.out 0).trans rfl, (blk_cell BK612.out 1).trans rfl, (blk_cell BK612.out 2).trans rfl⟩ (fun hHeld => ?_); refine with_tabW impl_quotientDown.tab3 impl_quotientDown.bits3 (fun HT_ HW_ => ?_)
  generalize w21.drew = w22 at BK605 BK612 HB hHeld ⊢
  refine pure_ (i := 0) (N := some 32) (v := ?_) (a' := ?_) #[true, false, false, false, false, false, false, false, false, false] rfl rfl (any_of HT_.out (by kernel_rfl)) (fun _ _ _ h => h) (Or.inl ⟨by rfl, ?_⟩) ?_ ?_
  rotate_left
  · intro w'
    go_simp
    with_reducible rfl
  rotate_left
  · simp only [Act.put, List.setIfInBounds_toArray, List.set_cons_zero, List.set_cons_succ, i64_w, i32_w]
    rfl
  refine pure_ (i := 2) (N := some 34) (v := ?_) (a' := ?_) #[true, false, true, false, false, false, false, false, false, false] rfl rfl (any_of HT_.out (by kernel_rfl)) (fun _ _ _ h => h) (Or.inl ⟨by rfl, ?_⟩) ?_ ?_
  rotate_left
  · intro w'
    go_simp
    with_reducible rfl
  rotate_left
  · simp only [Act.put, List.setIfInBounds_toArray, List.set_cons_zero, List.set_cons_succ, i64_w, i32_w]
    rfl
  refine take_ (i := 1) (N := some 33) (v := ?_) (a' := ?_) #[true, true, true, false, false, false, false, false, false, false] rfl rfl (take_ofW HT_.out HW_.out (by kernel_rfl)) (fun _ _ _ h => h) (Or.inl ⟨by rfl, ?_⟩) hHeld ?_ ?_
  rotate_left
  · rintro w' ⟨s0, s1, s2⟩
    go_simp
    with_reducible rfl
  rotate_left
  · simp only [Act.put, List.setIfInBounds_toArray, List.set_cons_zero, List.set_cons_succ, i64_w, i32_w]
    rfl
  refine one_ (i := 3) (N := some 35) #[true, true, true, true, false, false, false, false, false, false] rfl rfl (one_of HT_.out (by kernel_rfl)) (by decide) (fun K hK => ?_)
  refine goes_ Try.func68 (by kernel_rfl) rfl #[.int .i64 a2] (by rfl) rfl rfl (by (try simp only [List.map_toArray, List.map_cons, List.map_nil]); first | done | rfl | (simp only [List.length_drop, List.length_take]; rfl)) ?_
  with_reducible refine (impl_size.calls a2 t613 _ A8.out).mono ?_
  rintro e w' ⟨rfl, ⟨nd, rfl⟩⟩
  refine ⟨_, rfl, ?_⟩
  refine hK.out _ _ ⟨(blk_cell BK612.out 0).trans rfl, (blk_cell BK612.out 1).trans rfl, (blk_cell BK612.out 2).trans rfl⟩ (fun hHeld => ?_)
  clear hK K
  refine norm_ (a' := ?_) ?_ ?_
  rotate_left
  · show Act.put _ (some 35) _ = _
    simp only [Act.put, List.setIfInBounds_toArray, List.set_cons_zero, List.set_cons_succ, i64_w, i32_w]
    rfl
  refine one_ (i := 4) (N := some 36) #[true, true, true, true, true, false, false, false, false, false] rfl rfl (one_of HT_.out (by kernel_rfl)) (by decide) (fun K hK => ?_)
  refine goes_ Try.func79 (by kernel_rfl) rfl #[.int .u64 0, .int .u64 t610, .int .u64 t613] (by rfl) rfl rfl (by (try simp only [List.map_toArray, List.map_cons, List.map_nil]); first | done | rfl | (simp only [List.length_drop, List.length_take]; rfl)) ?_
  with_reducible refine (bits_Div64.calls k 0 t610 t613 t614 t615 _ A9.out).mono ?_
  rintro e w' ⟨rfl, ⟨nd, rfl⟩⟩
  refine ⟨_, rfl, ?_⟩
  refine hK.out _ _ ⟨(blk_cell BK612.out 0).trans rfl, (blk_cell BK612.out 1).trans rfl, (blk_cell BK612.out 2).trans rfl⟩ (fun hHeld => ?_)
  clear hK K
  refine norm_ (a' := ?_) ?_ ?_
  rotate_left
  · show Act.put _ (some 36) _ = _
    simp only [Act.put, List.setIfInBounds_toArray, List.set_cons_zero, List.set_cons_succ, i64_w, i32_w]
    rfl
  refine pure_ (i := 5) (N := some 31) (v := ?_) (a' := ?_) #[true, true, true, true, true, true, false, false, false, false] rfl rfl (any_of HT_.out (by kernel_rfl)) (fun _ _ _ h => h) (Or.inl ⟨by rfl, ?_⟩) ?_ ?_
  rotate_left
  · intro w'
    go_simp
    with_reducible rfl
  rotate_left
  · simp only [Act.put, List.setIfInBounds_toArray, List.set_cons_zero, List.set_cons_succ, i64_w, i32_w]
    rfl
  refine pure_ (i := 6) (N := some 37) (v := ?_) (a' := ?_) #[true, true, true, true, true, true, true, false, false, false] rfl rfl (any_of HT_.out (by kernel_rfl)) (fun _ _ _ h => h) (Or.inl ⟨by rfl, ?_⟩) ?_ ?_
  rotate_left
  · intro w'
    go_simp
    with_reducible rfl
  rotate_left
  · simp only [Act.put, List.setIfInBounds_toArray, List.set_cons_zero, List.set_cons_succ, i64_w, i32_w]
    rfl
  refine pure_ (i := 7) (N := some 38) (v := ?_) (a' := ?_) #[true, true, true, true, true, true, true, true, false, false] rfl rfl (any_of HT_.out (by kernel_rfl)) (fun _ _ _ h => h) (Or.inl ⟨by rfl, ?_⟩) ?_ ?_
  rotate_left
  · intro w'
    go_simp
    with_reducible rfl
  rotate_left
  · simp only [Act.put, List.setIfInBounds_toArray, List.set_cons_zero, List.set_cons_succ, i64_w, i32_w]
    rfl
  refine pure_ (i := 8) (N := some 11) (v := ?_) (a' := ?_) #[true, true, true, true, true, true, true, true, true, false] rfl rfl (any_of HT_.out (by kernel_rfl)) (fun _ _ _ h => h) (Or.inl ⟨by rfl, ?_⟩) ?_ ?_
  rotate_left
  · intro w'
    go_simp
    with_reducible rfl
  rotate_left
  · simp only [Act.put, List.setIfInBounds_toArray, List.set_cons_zero, List.set_cons_succ, i64_w, i32_w]
    rfl
  refine pure_ (i := 9) (N := some 12) (v := ?_) (a' := ?_) #[true, true, true, true, true, true, true, true, true, true] rfl rfl (any_of HT_.out (by kernel_rfl)) (fun _ _ _ h => h) (Or.inl ⟨by rfl, ?_⟩) ?_ ?_
  rotate_left
  · intro w'
    go_simp
    with_reducible rfl
  rotate_left
  · simp only [Act.put, List.setIfInBounds_toArray, List.set_cons_zero, List.set_cons_succ, i64_w, i32_w]
    rfl
  refine done_ (done_of HT_.out (by kernel_rfl)) ?_
  try go_wp2
  (try simp only [World.drewN_drewN])
  (try (rw [drewN_self w22]; generalize hq_ : World.drewN w22 _ = w22; have n0_ : Aside0 (w22.heap[gb605]? = some (.cells #[.int .i64 0, .int .i64 0] 26 (0, 0))) := ⟨by rw [← hq_]; exact (by (with_reducible repeat (first | refine blk_drewN ?_ _ | refine blk_drew ?_ | refine blk_alloc ?_ _)); exact BK605.out)⟩; have n1_ : Aside0 (w22.heap[gb612]? = some (.cells #[.bool (!(decide (a0 < 0)) == (decide (a2 < 0))), .int .u64 t610, .int .u64 t611] 44 (0, 0))) := ⟨by rw [← hq_]; exact (by (with_reducible repeat (first | refine blk_drewN ?_ _ | refine blk_drew ?_ | refine blk_alloc ?_ _)); exact BK612.out)⟩; have n2_ : Aside0 (Below w.heap.size w w22) := ⟨by rw [← hq_]; exact (by repeat (first | (with_reducible first | exact HB.out | apply below_alloc | apply pw_below_drewN | apply below_drew1 | refine below_set ?_ GE605.out | refine below_set ?_ GE612.out) | exact HB.out))⟩; clear BK605 BK612 HB hq_; have BK605 := n0_; have BK612 := n1_; have HB := n2_; clear n0_ n1_ n2_))
  have n0_ := Aside0.mk (blk_drew BK605.out)
  have n1_ := Aside0.mk (blk_drew BK612.out)
  have n2_ := Aside0.mk (below_drew1 HB.out)
  clear BK605
  clear BK612
  clear HB
  have BK605 := n0_
  have BK612 := n1_
  have HB := n2_
  clear n0_ n1_ n2_
  refine start_ (n := 11) (S := fun w' => w'.cell? ⟨gb612, 0, none⟩ = some (.bool (!(decide (a0 < 0)) == (decide (a2 < 0)))) ∧ w'.cell? ⟨gb612, 1, none⟩ = some (.int .u64 t610) ∧ w'.cell? ⟨gb612, 2, none⟩ = some (.int .u64 t611)) (ds := []) #[false, false, false, false, false, false, false, false, false, false, false] (by kernel_rfl) rfl rfl ⟨(blk_cell BK612.out 0).trans rfl, (blk_cell BK612.out 1).trans rfl, (blk_cell BK612.out 2).trans rfl⟩ (fun hHeld => ?_); refine with_tabW impl_quotientDown.tab4 impl_quotientDown.bits4 (fun HT_ HW_ => ?_)
  generalize w22.drew = w23 at BK605 BK612 HB hHeld ⊢
  refine pure_ (i := 0) (N := some 40) (v := ?_) (a' := ?_) #[true, false, false, false, false, false, false, false, false, false, false] rfl rfl (any_of HT_.out (by kernel_rfl)) (fun _ _ _ h => h) (Or.inl ⟨by rfl, ?_⟩) ?_ ?_
  rotate_left
  · intro w'
    go_simp
    with_reducible rfl
  rotate_left
  · simp only [Act.put, List.setIfInBounds_toArray, List.set_cons_zero, List.set_cons_succ, i64_w, i32_w]
    rfl
  refine pure_ (i := 1) (N := some 41) (v := ?_) (a' := ?_) #[true, true, false, false, false, false, false, false, false, false, false] rfl rfl (any_of HT_.out (by kernel_rfl)) (fun _ _ _ h => h) (Or.inl ⟨by rfl, ?_⟩) ?_ ?_
  rotate_left
  · intro w'
    go_simp
    with_reducible rfl
  rotate_left
  · simp only [Act.put, List.setIfInBounds_toArray, List.set_cons_zero, List.set_cons_succ, i64_w, i32_w]
    rfl
  refine pure_ (i := 3) (N := some 43) (v := ?_) (a' := ?_) #[true, true, false, true, false, false, false, false, false, false, false] rfl rfl (any_of HT_.out (by kernel_rfl)) (fun _ _ _ h => h) (Or.inl ⟨by rfl, ?_⟩) ?_ ?_
  rotate_left
  · intro w'
    go_simp
    with_reducible rfl
  rotate_left
  · simp only [Act.put, List.setIfInBounds_toArray, List.set_cons_zero, List.set_cons_succ, i64_w, i32_w]
    rfl
  refine take_ (i := 2) (N := some 42) (v := ?_) (a' := ?_) #[true, true, true, true, false, false, false, false, false, false, false] rfl rfl (take_ofW HT_.out HW_.out (by kernel_rfl)) (fun _ _ _ h => h) (Or.inl ⟨by rfl, ?_⟩) hHeld ?_ ?_
  rotate_left
  · rintro w' ⟨s0, s1, s2⟩
    go_simp
    with_reducible rfl
  rotate_left
  · simp only [Act.put, List.setIfInBounds_toArray, List.set_cons_zero, List.set_cons_succ, i64_w, i32_w]
    rfl
  refine one_ (i := 4) (N := some 44) #[true, true, true, true, true, false, false, false, false, false, false] rfl rfl (one_of HT_.out (by kernel_rfl)) (by decide) (fun K hK => ?_)
  refine goes_ Try.func68 (by kernel_rfl) rfl #[.int .i64 a2] (by rfl) rfl rfl (by (try simp only [List.map_toArray, List.map_cons, List.map_nil]); first | done | rfl | (simp only [List.length_drop, List.length_take]; rfl)) ?_
  with_reducible refine (impl_size.calls a2 t616 _ A10.out).mono ?_
  rintro e w' ⟨rfl, ⟨nd, rfl⟩⟩
  refine ⟨_, rfl, ?_⟩
  refine hK.out _ _ ⟨(blk_cell BK612.out 0).trans rfl, (blk_cell BK612.out 1).trans rfl, (blk_cell BK612.out 2).trans rfl⟩ (fun hHeld => ?_)
  clear hK K
  refine norm_ (a' := ?_) ?_ ?_
  rotate_left
  · show Act.put _ (some 44) _ = _
    simp only [Act.put, List.setIfInBounds_toArray, List.set_cons_zero, List.set_cons_succ, i64_w, i32_w]
    rfl
  refine one_ (i := 5) (N := some 45) #[true, true, true, true, true, true, false, false, false, false, false] rfl rfl (one_of HT_.out (by kernel_rfl)) (by decide) (fun K hK => ?_)
  refine goes_ Try.func79 (by kernel_rfl) rfl #[.int .u64 t615, .int .u64 t611, .int .u64 t616] (by rfl) rfl rfl (by (try simp only [List.map_toArray, List.map_cons, List.map_nil]); first | done | rfl | (simp only [List.length_drop, List.length_take]; rfl)) ?_
  with_reducible refine (bits_Div64.calls k t615 t611 t616 t617 t618 _ A11.out).mono ?_
  rintro e w' ⟨rfl, ⟨nd, rfl⟩⟩
  refine ⟨_, rfl, ?_⟩
  refine hK.out _ _ ⟨(blk_cell BK612.out 0).trans rfl, (blk_cell BK612.out 1).trans rfl, (blk_cell BK612.out 2).trans rfl⟩ (fun hHeld => ?_)
  clear hK K
  refine norm_ (a' := ?_) ?_ ?_
  rotate_left
  · show Act.put _ (some 45) _ = _
    simp only [Act.put, List.setIfInBounds_toArray, List.set_cons_zero, List.set_cons_succ, i64_w, i32_w]
    rfl
  refine pure_ (i := 6) (N := some 39) (v := ?_) (a' := ?_) #[true, true, true, true, true, true, true, false, false, false, false] rfl rfl (any_of HT_.out (by kernel_rfl)) (fun _ _ _ h => h) (Or.inl ⟨by rfl, ?_⟩) ?_ ?_
  rotate_left
  · intro w'
    go_simp
    with_reducible rfl
  rotate_left
  · simp only [Act.put, List.setIfInBounds_toArray, List.set_cons_zero, List.set_cons_succ, i64_w, i32_w]
    rfl
  refine pure_ (i := 7) (N := some 46) (v := ?_) (a' := ?_) #[true, true, true, true, true, true, true, true, false, false, false] rfl rfl (any_of HT_.out (by kernel_rfl)) (fun _ _ _ h => h) (Or.inl ⟨by rfl, ?_⟩) ?_ ?_
  rotate_left
  · intro w'
    go_simp
    with_reducible rfl
  rotate_left
  · simp only [Act.put, List.setIfInBounds_toArray, List.set_cons_zero, List.set_cons_succ, i64_w, i32_w]
    rfl
  refine pure_ (i := 8) (N := some 47) (v := ?_) (a' := ?_) #[true, true, true, true, true, true, true, true, true, false, false] rfl rfl (any_of HT_.out (by kernel_rfl)) (fun _ _ _ h => h) (Or.inl ⟨by rfl, ?_⟩) ?_ ?_
  rotate_left
  · intro w'
    go_simp
    with_reducible rfl
  rotate_left
  · simp only [Act.put, List.setIfInBounds_toArray, List.set_cons_zero, List.set_cons_succ, i64_w, i32_w]
    rfl
  refine pure_ (i := 9) (N := some 13) (v := ?_) (a' := ?_) #[true, true, true, true, true, true, true, true, true, true, false] rfl rfl (any_of HT_.out (by kernel_rfl)) (fun _ _ _ h => h) (Or.inl ⟨by rfl, ?_⟩) ?_ ?_
  rotate_left
  · intro w'
    go_simp
    with_reducible rfl
  rotate_left
  · simp only [Act.put, List.setIfInBounds_toArray, List.set_cons_zero, List.set_cons_succ, i64_w, i32_w]
    rfl
  refine pure_ (i := 10) (N := some 14) (v := ?_) (a' := ?_) #[true, true, true, true, true, true, true, true, true, true, true] rfl rfl (any_of HT_.out (by kernel_rfl)) (fun _ _ _ h => h) (Or.inl ⟨by rfl, ?_⟩) ?_ ?_
  rotate_left
  · intro w'
    go_simp
    with_reducible rfl
  rotate_left
  · simp only [Act.put, List.setIfInBounds_toArray, List.set_cons_zero, List.set_cons_succ, i64_w, i32_w]
    rfl
  refine done_ (done_of HT_.out (by kernel_rfl)) ?_
  have hcz24_0 : w23.cell? ⟨gb612, 0, none⟩ = some (.bool (!(decide (a0 < 0)) == (decide (a2 < 0)))) := (blk_cell BK612.out 0).trans rfl
  have hcz24_1 : w23.cell? ⟨gb612, 1, none⟩ = some (.int .u64 t610) := (blk_cell BK612.out 1).trans rfl
  have hcz24_2 : w23.cell? ⟨gb612, 2, none⟩ = some (.int .u64 t611) := (blk_cell BK612.out 2).trans rfl
  have hfz24_0 := blk_frozen BK612.out 0
  have hfz24_1 := blk_frozen BK612.out 1
  have hfz24_2 := blk_frozen BK612.out 2
  go_upto_region 7 with (first | ((with_reducible refine gate_dst (N := 15) rfl ?_); (try (refine gate_guard (by rfl) ?_; dsimp only)); refine box_event ?hg (N := 15) ?hd (cs := #[.bool false, .int .u64 0, .int .u64 0]) (t := 44) ?hr ?_; (case hd => rfl); (case hg => rfl); (case hr => first | (go_simp; done) | (go_simp; rfl)); intro gb619 hg w25 hbox hb; have n0_ := Aside0.mk (blk_below (g := gb605) (o := .cells #[.int .i64 0, .int .i64 0] 26 (0, 0)) (by (with_reducible repeat (first | refine blk_drewN ?_ _ | refine blk_drew ?_ | refine blk_alloc ?_ _)); exact BK605.out) hb); have n1_ := Aside0.mk (blk_below (g := gb612) (o := .cells #[.bool (!(decide (a0 < 0)) == (decide (a2 < 0))), .int .u64 t610, .int .u64 t611] 44 (0, 0)) (by (with_reducible repeat (first | refine blk_drewN ?_ _ | refine blk_drew ?_ | refine blk_alloc ?_ _)); exact BK612.out) hb); have n2_ := Aside0.mk (below_step (by repeat (first | (with_reducible first | exact HB.out | apply below_alloc | apply pw_below_drewN | apply below_drew1 | refine below_set ?_ GE605.out | refine below_set ?_ GE612.out) | exact HB.out)) hb); have n3_ := Aside0.mk (hbox); have n4_ := Aside0.mk ((by rw [hg]; exact (below_size (by repeat (first | (with_reducible first | exact HB.out | apply below_alloc | apply pw_below_drewN | apply below_drew1 | refine below_set ?_ GE605.out | refine below_set ?_ GE612.out) | exact HB.out))) : w.heap.size ≤ gb619)); have n5_ := Aside0.mk ((by rw [hg]; exact (below_size (by repeat (first | (with_reducible first | exact HB.out | apply below_alloc | apply pw_below_drewN | apply below_drew1 | refine below_set ?_ GE605.out | refine below_set ?_ GE612.out) | exact HB.out))) : w.heap.size ≤ gb619)); have n6_ := Aside0.mk ((by rw [hg]; exact Nat.ne_of_lt (blk_lt (g := gb605) (o := .cells #[.int .i64 0, .int .i64 0] 26 (0, 0)) (by (with_reducible repeat (first | refine blk_drewN ?_ _ | refine blk_drew ?_ | refine blk_alloc ?_ _)); exact BK605.out)) : gb605 ≠ gb619)); have n7_ := Aside0.mk ((by rw [hg]; exact Nat.ne_of_gt (blk_lt (g := gb605) (o := .cells #[.int .i64 0, .int .i64 0] 26 (0, 0)) (by (with_reducible repeat (first | refine blk_drewN ?_ _ | refine blk_drew ?_ | refine blk_alloc ?_ _)); exact BK605.out)) : gb619 ≠ gb605)); have n8_ := Aside0.mk ((by rw [hg]; exact Nat.ne_of_lt (blk_lt (g := gb612) (o := .cells #[.bool (!(decide (a0 < 0)) == (decide (a2 < 0))), .int .u64 t610, .int .u64 t611] 44 (0, 0)) (by (with_reducible repeat (first | refine blk_drewN ?_ _ | refine blk_drew ?_ | refine blk_alloc ?_ _)); exact BK612.out)) : gb612 ≠ gb619)); have n9_ := Aside0.mk ((by rw [hg]; exact Nat.ne_of_gt (blk_lt (g := gb612) (o := .cells #[.bool (!(decide (a0 < 0)) == (decide (a2 < 0))), .int .u64 t610, .int .u64 t611] 44 (0, 0)) (by (with_reducible repeat (first | refine blk_drewN ?_ _ | refine blk_drew ?_ | refine blk_alloc ?_ _)); exact BK612.out)) : gb619 ≠ gb612)); clear BK605; clear BK612; clear HB; have BK605 := n0_; have BK612 := n1_; have HB := n2_; have BK619 := n3_; have GW619 := n4_; have GE619 := n5_; have NB605_619 := n6_; have NB619_605 := n7_; have NB612_619 := n8_; have NB619_612 := n9_; clear n0_ n1_ n2_ n3_ n4_ n5_ n6_ n7_ n8_ n9_; clear hb hbox hg; have hnb26 := NB619_605.out; have hnc26 := NB605_619.out; have hnb27 := NB619_612.out; have hnc27 := NB612_619.out; have hcz28_0 : w25.cell? ⟨gb619, 0, none⟩ = some (.bool false) := (blk_cell BK619.out 0).trans rfl; have hcz28_1 : w25.cell? ⟨gb619, 1, none⟩ = some (.int .u64 0) := (blk_cell BK619.out 1).trans rfl; have hcz28_2 : w25.cell? ⟨gb619, 2, none⟩ = some (.int .u64 0) := (blk_cell BK619.out 2).trans rfl; have hfz28_0 := blk_frozen BK619.out 0; have hfz28_1 := blk_frozen BK619.out 1; have hfz28_2 := blk_frozen BK619.out 2) | ((with_reducible refine gate_callee (f := 65) rfl ?_); refine goesL_ (some 58) rfl rfl Try.func65 (by kernel_rfl) rfl #[.agg #[.bool (!(decide (a0 < 0)) == (decide (a2 < 0))), .int .u64 t614, .int .u64 t617], .int .i64 ji12] rfl (by (try simp only [List.map_toArray, List.map_cons, List.map_nil]); first | done | (simp only [hji12]; rfl) | rfl | (simp only [List.length_drop, List.length_take]; rfl)) ?_; (with_reducible refine (impl_wide_shift.calls (!(decide (a0 < 0)) == (decide (a2 < 0))) t614 t617 ji12 t620 t621 t622 _ A13.out).mono ?_); rintro e w29 ⟨rfl, hb⟩; refine ⟨_, rfl, ?_⟩; have n0_ := Aside0.mk (blk_below (g := gb605) (o := .cells #[.int .i64 0, .int .i64 0] 26 (0, 0)) (by (with_reducible repeat (first | refine blk_drewN ?_ _ | refine blk_drew ?_ | refine blk_alloc ?_ _)); refine blk_far ?_ NB605_619.out _; (with_reducible repeat (first | refine blk_drewN ?_ _ | refine blk_drew ?_ | refine blk_alloc ?_ _)); refine blk_far ?_ NB605_619.out _; (with_reducible repeat (first | refine blk_drewN ?_ _ | refine blk_drew ?_ | refine blk_alloc ?_ _)); refine blk_far ?_ NB605_619.out _; (with_reducible repeat (first | refine blk_drewN ?_ _ | refine blk_drew ?_ | refine blk_alloc ?_ _)); exact BK605.out) hb); have n1_ := Aside0.mk (blk_below (g := gb612) (o := .cells #[.bool (!(decide (a0 < 0)) == (decide (a2 < 0))), .int .u64 t610, .int .u64 t611] 44 (0, 0)) (by (with_reducible repeat (first | refine blk_drewN ?_ _ | refine blk_drew ?_ | refine blk_alloc ?_ _)); refine blk_far ?_ NB612_619.out _; (with_reducible repeat (first | refine blk_drewN ?_ _ | refine blk_drew ?_ | refine blk_alloc ?_ _)); refine blk_far ?_ NB612_619.out _; (with_reducible repeat (first | refine blk_drewN ?_ _ | refine blk_drew ?_ | refine blk_alloc ?_ _)); refine blk_far ?_ NB612_619.out _; (with_reducible repeat (first | refine blk_drewN ?_ _ | refine blk_drew ?_ | refine blk_alloc ?_ _)); exact BK612.out) hb); have n2_ := Aside0.mk (blk_below (g := gb619) (o := .cells #[.bool (!(decide (a0 < 0)) == (decide (a2 < 0))), .int .u64 t614, .int .u64 t617] 44 (0, 0)) (by (with_reducible repeat (first | refine blk_drewN ?_ _ | refine blk_drew ?_ | refine blk_alloc ?_ _)); refine blk_put (cs := #[.bool (!(decide (a0 < 0)) == (decide (a2 < 0))), .int .u64 t614, .int .u64 0]) ?_ 2 _ rfl; (with_reducible repeat (first | refine blk_drewN ?_ _ | refine blk_drew ?_ | refine blk_alloc ?_ _)); refine blk_put (cs := #[.bool (!(decide (a0 < 0)) == (decide (a2 < 0))), .int .u64 0, .int .u64 0]) ?_ 1 _ rfl; (with_reducible repeat (first | refine blk_drewN ?_ _ | refine blk_drew ?_ | refine blk_alloc ?_ _)); refine blk_put (cs := #[.bool false, .int .u64 0, .int .u64 0]) ?_ 0 _ rfl; (with_reducible repeat (first | refine blk_drewN ?_ _ | refine blk_drew ?_ | refine blk_alloc ?_ _)); exact BK619.out) hb); have n3_ := Aside0.mk (below_step (by repeat (first | (with_reducible first | exact HB.out | apply below_alloc | apply pw_below_drewN | apply below_drew1 | refine below_set ?_ GE605.out | refine below_set ?_ GE612.out | refine below_set ?_ GE619.out) | exact HB.out)) hb); clear BK605; clear BK612; clear BK619; clear HB; have BK605 := n0_; have BK612 := n1_; have BK619 := n2_; have HB := n3_; clear n0_ n1_ n2_ n3_; (try clear hb); (try clear hb2); (try clear hk); (try clear hi)) | ((with_reducible refine gate_dst (N := 16) rfl ?_); (try (refine gate_guard (by rfl) ?_; dsimp only)); refine box_event ?hg (N := 16) ?hd (cs := #[.bool false, .int .u64 0, .int .u64 0]) (t := 44) ?hr ?_; (case hd => rfl); (case hg => rfl); (case hr => first | (go_simp; done) | (go_simp; rfl)); intro gb623 hg w30 hbox hb; have n0_ := Aside0.mk (blk_below (g := gb605) (o := .cells #[.int .i64 0, .int .i64 0] 26 (0, 0)) (by (with_reducible repeat (first | refine blk_drewN ?_ _ | refine blk_drew ?_ | refine blk_alloc ?_ _)); exact BK605.out) hb); have n1_ := Aside0.mk (blk_below (g := gb612) (o := .cells #[.bool (!(decide (a0 < 0)) == (decide (a2 < 0))), .int .u64 t610, .int .u64 t611] 44 (0, 0)) (by (with_reducible repeat (first | refine blk_drewN ?_ _ | refine blk_drew ?_ | refine blk_alloc ?_ _)); exact BK612.out) hb); have n2_ := Aside0.mk (blk_below (g := gb619) (o := .cells #[.bool (!(decide (a0 < 0)) == (decide (a2 < 0))), .int .u64 t614, .int .u64 t617] 44 (0, 0)) (by (with_reducible repeat (first | refine blk_drewN ?_ _ | refine blk_drew ?_ | refine blk_alloc ?_ _)); exact BK619.out) hb); have n3_ := Aside0.mk (below_step (by repeat (first | (with_reducible first | exact HB.out | apply below_alloc | apply pw_below_drewN | apply below_drew1 | refine below_set ?_ GE605.out | refine below_set ?_ GE612.out | refine below_set ?_ GE619.out) | exact HB.out)) hb); have n4_ := Aside0.mk (hbox); have n5_ := Aside0.mk ((by rw [hg]; exact (below_size (by repeat (first | (with_reducible first | exact HB.out | apply below_alloc | apply pw_below_drewN | apply below_drew1 | refine below_set ?_ GE605.out | refine below_set ?_ GE612.out | refine below_set ?_ GE619.out) | exact HB.out))) : w.heap.size ≤ gb623)); have n6_ := Aside0.mk ((by rw [hg]; exact (below_size (by repeat (first | (with_reducible first | exact HB.out | apply below_alloc | apply pw_below_drewN | apply below_drew1 | refine below_set ?_ GE605.out | refine below_set ?_ GE612.out | refine below_set ?_ GE619.out) | exact HB.out))) : w.heap.size ≤ gb623)); have n7_ := Aside0.mk ((by rw [hg]; exact Nat.ne_of_lt (blk_lt (g := gb605) (o := .cells #[.int .i64 0, .int .i64 0] 26 (0, 0)) (by (with_reducible repeat (first | refine blk_drewN ?_ _ | refine blk_drew ?_ | refine blk_alloc ?_ _)); exact BK605.out)) : gb605 ≠ gb623)); have n8_ := Aside0.mk ((by rw [hg]; exact Nat.ne_of_gt (blk_lt (g := gb605) (o := .cells #[.int .i64 0, .int .i64 0] 26 (0, 0)) (by (with_reducible repeat (first | refine blk_drewN ?_ _ | refine blk_drew ?_ | refine blk_alloc ?_ _)); exact BK605.out)) : gb623 ≠ gb605)); have n9_ := Aside0.mk ((by rw [hg]; exact Nat.ne_of_lt (blk_lt (g := gb612) (o := .cells #[.bool (!(decide (a0 < 0)) == (decide (a2 < 0))), .int .u64 t610, .int .u64 t611] 44 (0, 0)) (by (with_reducible repeat (first | refine blk_drewN ?_ _ | refine blk_drew ?_ | refine blk_alloc ?_ _)); exact BK612.out)) : gb612 ≠ gb623)); have n10_ := Aside0.mk ((by rw [hg]; exact Nat.ne_of_gt (blk_lt (g := gb612) (o := .cells #[.bool (!(decide (a0 < 0)) == (decide (a2 < 0))), .int .u64 t610, .int .u64 t611] 44 (0, 0)) (by (with_reducible repeat (first | refine blk_drewN ?_ _ | refine blk_drew ?_ | refine blk_alloc ?_ _)); exact BK612.out)) : gb623 ≠ gb612)); have n11_ := Aside0.mk ((by rw [hg]; exact Nat.ne_of_lt (blk_lt (g := gb619) (o := .cells #[.bool (!(decide (a0 < 0)) == (decide (a2 < 0))), .int .u64 t614, .int .u64 t617] 44 (0, 0)) (by (with_reducible repeat (first | refine blk_drewN ?_ _ | refine blk_drew ?_ | refine blk_alloc ?_ _)); exact BK619.out)) : gb619 ≠ gb623)); have n12_ := Aside0.mk ((by rw [hg]; exact Nat.ne_of_gt (blk_lt (g := gb619) (o := .cells #[.bool (!(decide (a0 < 0)) == (decide (a2 < 0))), .int .u64 t614, .int .u64 t617] 44 (0, 0)) (by (with_reducible repeat (first | refine blk_drewN ?_ _ | refine blk_drew ?_ | refine blk_alloc ?_ _)); exact BK619.out)) : gb623 ≠ gb619)); clear BK605; clear BK612; clear BK619; clear HB; have BK605 := n0_; have BK612 := n1_; have BK619 := n2_; have HB := n3_; have BK623 := n4_; have GW623 := n5_; have GE623 := n6_; have NB605_623 := n7_; have NB623_605 := n8_; have NB612_623 := n9_; have NB623_612 := n10_; have NB619_623 := n11_; have NB623_619 := n12_; clear n0_ n1_ n2_ n3_ n4_ n5_ n6_ n7_ n8_ n9_ n10_ n11_ n12_; clear hb hbox hg; have hnb31 := NB623_605.out; have hnc31 := NB605_623.out; have hnb32 := NB623_612.out; have hnc32 := NB612_623.out; have hnb33 := NB623_619.out; have hnc33 := NB619_623.out; have hcz34_0 : w30.cell? ⟨gb623, 0, none⟩ = some (.bool false) := (blk_cell BK623.out 0).trans rfl; have hcz34_1 : w30.cell? ⟨gb623, 1, none⟩ = some (.int .u64 0) := (blk_cell BK623.out 1).trans rfl; have hcz34_2 : w30.cell? ⟨gb623, 2, none⟩ = some (.int .u64 0) := (blk_cell BK623.out 2).trans rfl; have hfz34_0 := blk_frozen BK623.out 0; have hfz34_1 := blk_frozen BK623.out 1; have hfz34_2 := blk_frozen BK623.out 2))
  (try simp only [Act.put, List.setIfInBounds_toArray, List.set_cons_zero, List.set_cons_succ])
  go_cut [17] (fun v17 wc => ∃ (kq : Nat) (x17_13 : Bool), v17 = .bool x17_13 ∧ Aside0 (impl_quotientDown.j0 kq a3 x17_13 (!(decide (a0 < 0)) == (decide (a2 < 0))) t610 t611 t620 t621 t622 = some (r1, r2, r3)) ∧ Aside0 (kq ≤ k) ∧ Aside0 (wc.heap[gb605]? = some (.cells #[.int .i64 0, .int .i64 0] 26 (0, 0))) ∧ Aside0 (wc.heap[gb612]? = some (.cells #[.bool (!(decide (a0 < 0)) == (decide (a2 < 0))), .int .u64 t610, .int .u64 t611] 44 (0, 0))) ∧ Aside0 (wc.heap[gb619]? = some (.cells #[.bool (!(decide (a0 < 0)) == (decide (a2 < 0))), .int .u64 t614, .int .u64 t617] 44 (0, 0))) ∧ Aside0 (wc.heap[gb623]? = some (.cells #[.bool t620, .int .u64 t621, .int .u64 t622] 44 (0, 0))) ∧ Aside0 (Below w.heap.size w wc))
  case first =>
    have H := HC14.out
    clear HC14
    by_cases c35 : t618 = 0
    · rw [if_pos c35] at H
      have c35b0 : (t618 == 0) = true := beq_iff_eq.mpr c35
      have c35b1 : (t618 != 0) = false := bne_eq_false_iff_eq.mpr c35
      clear c35
      (first | rw [c35b0] | (simp only [i64_w, i32_w]; rw [c35b0]) | skip)
      obtain ⟨ji36, hji36⟩ : ∃ j_ : Int, (mx (wrap64 ((wrap64 (-a1)) - a3)) 0) = j_ := ⟨_, rfl⟩
      replace H : ((impl_wide_shift.f t620 t621 t622 (ji36)).bind fun bt624 => ((impl_compareSizes.f k bt624.1 bt624.2.1 bt624.2.2 (!(decide (a0 < 0)) == (decide (a2 < 0))) t614 t617).bind fun t627 => (impl_quotientDown.j0 k a3 (t627 == 0) (!(decide (a0 < 0)) == (decide (a2 < 0))) t610 t611 t620 t621 t622))) = some (r1, r2, r3) := by first | (rw [hji36] at H; exact H) | (simp only [hji36] at H ⊢; exact H)
      (try (have hji36l : 0 ≤ ji36 := by (rw [← hji36]; unfold mx; (repeat' split) <;> omega)))
      (try (have hji36m : 0 ≤ ji36 := by omega))
      have hji36_ : (if (wrap64 ((wrap64 (-a1)) - a3)) < 0 then 0 else (wrap64 ((wrap64 (-a1)) - a3))) = ji36 := hji36
      replace H := Option.bind_eq_some_iff.mp H
      obtain ⟨⟨t624, t625, t626⟩, A370, H⟩ := H
      replace H : ((impl_compareSizes.f k t624 t625 t626 (!(decide (a0 < 0)) == (decide (a2 < 0))) t614 t617).bind fun t627 => (impl_quotientDown.j0 k a3 (t627 == 0) (!(decide (a0 < 0)) == (decide (a2 < 0))) t610 t611 t620 t621 t622)) = some (r1, r2, r3) := H
      have A37 := Aside0.mk A370
      clear A370
      replace H := Option.bind_eq_some_iff.mp H
      obtain ⟨t627, A380, H⟩ := H
      replace H : (impl_quotientDown.j0 k a3 (t627 == 0) (!(decide (a0 < 0)) == (decide (a2 < 0))) t610 t611 t620 t621 t622) = some (r1, r2, r3) := H
      have A38 := Aside0.mk A380
      clear A380
      have H' := Aside0.mk H
      clear H
      try go_wp2
      have n0_ : Aside0 ((((w30.setCell ⟨gb623, 0, none⟩ (.bool t620)).setCell ⟨gb623, 1, none⟩ (.int .u64 t621)).setCell ⟨gb623, 2, none⟩ (.int .u64 t622)).heap[gb605]? = some (.cells #[.int .i64 0, .int .i64 0] 26 (0, 0))) := ⟨by (with_reducible repeat (first | refine blk_drewN ?_ _ | refine blk_drew ?_ | refine blk_alloc ?_ _)); refine blk_far ?_ NB605_623.out _; (with_reducible repeat (first | refine blk_drewN ?_ _ | refine blk_drew ?_ | refine blk_alloc ?_ _)); refine blk_far ?_ NB605_623.out _; (with_reducible repeat (first | refine blk_drewN ?_ _ | refine blk_drew ?_ | refine blk_alloc ?_ _)); refine blk_far ?_ NB605_623.out _; (with_reducible repeat (first | refine blk_drewN ?_ _ | refine blk_drew ?_ | refine blk_alloc ?_ _)); exact BK605.out⟩
      have n1_ : Aside0 ((((w30.setCell ⟨gb623, 0, none⟩ (.bool t620)).setCell ⟨gb623, 1, none⟩ (.int .u64 t621)).setCell ⟨gb623, 2, none⟩ (.int .u64 t622)).heap[gb612]? = some (.cells #[.bool (!(decide (a0 < 0)) == (decide (a2 < 0))), .int .u64 t610, .int .u64 t611] 44 (0, 0))) := ⟨by (with_reducible repeat (first | refine blk_drewN ?_ _ | refine blk_drew ?_ | refine blk_alloc ?_ _)); refine blk_far ?_ NB612_623.out _; (with_reducible repeat (first | refine blk_drewN ?_ _ | refine blk_drew ?_ | refine blk_alloc ?_ _)); refine blk_far ?_ NB612_623.out _; (with_reducible repeat (first | refine blk_drewN ?_ _ | refine blk_drew ?_ | refine blk_alloc ?_ _)); refine blk_far ?_ NB612_623.out _; (with_reducible repeat (first | refine blk_drewN ?_ _ | refine blk_drew ?_ | refine blk_alloc ?_ _)); exact BK612.out⟩
      have n2_ : Aside0 ((((w30.setCell ⟨gb623, 0, none⟩ (.bool t620)).setCell ⟨gb623, 1, none⟩ (.int .u64 t621)).setCell ⟨gb623, 2, none⟩ (.int .u64 t622)).heap[gb619]? = some (.cells #[.bool (!(decide (a0 < 0)) == (decide (a2 < 0))), .int .u64 t614, .int .u64 t617] 44 (0, 0))) := ⟨by (with_reducible repeat (first | refine blk_drewN ?_ _ | refine blk_drew ?_ | refine blk_alloc ?_ _)); refine blk_far ?_ NB619_623.out _; (with_reducible repeat (first | refine blk_drewN ?_ _ | refine blk_drew ?_ | refine blk_alloc ?_ _)); refine blk_far ?_ NB619_623.out _; (with_reducible repeat (first | refine blk_drewN ?_ _ | refine blk_drew ?_ | refine blk_alloc ?_ _)); refine blk_far ?_ NB619_623.out _; (with_reducible repeat (first | refine blk_drewN ?_ _ | refine blk_drew ?_ | refine blk_alloc ?_ _)); exact BK619.out⟩
      have n3_ : Aside0 ((((w30.setCell ⟨gb623, 0, none⟩ (.bool t620)).setCell ⟨gb623, 1, none⟩ (.int .u64 t621)).setCell ⟨gb623, 2, none⟩ (.int .u64 t622)).heap[gb623]? = some (.cells #[.bool t620, .int .u64 t621, .int .u64 t622] 44 (0, 0))) := ⟨by (with_reducible repeat (first | refine blk_drewN ?_ _ | refine blk_drew ?_ | refine blk_alloc ?_ _)); refine blk_put (cs := #[.bool t620, .int .u64 t621, .int .u64 0]) ?_ 2 _ rfl; (with_reducible repeat (first | refine blk_drewN ?_ _ | refine blk_drew ?_ | refine blk_alloc ?_ _)); refine blk_put (cs := #[.bool t620, .int .u64 0, .int .u64 0]) ?_ 1 _ rfl; (with_reducible repeat (first | refine blk_drewN ?_ _ | refine blk_drew ?_ | refine blk_alloc ?_ _)); refine blk_put (cs := #[.bool false, .int .u64 0, .int .u64 0]) ?_ 0 _ rfl; (with_reducible repeat (first | refine blk_drewN ?_ _ | refine blk_drew ?_ | refine blk_alloc ?_ _)); exact BK623.out⟩
      have n4_ : Aside0 (Below w.heap.size w (((w30.setCell ⟨gb623, 0, none⟩ (.bool t620)).setCell ⟨gb623, 1, none⟩ (.int .u64 t621)).setCell ⟨gb623, 2, none⟩ (.int .u64 t622))) := ⟨by repeat (first | (with_reducible first | exact HB.out | apply below_alloc | apply pw_below_drewN | apply below_drew1 | refine below_set ?_ GE605.out | refine below_set ?_ GE612.out | refine below_set ?_ GE619.out | refine below_set ?_ GE623.out) | exact HB.out)⟩
      (try clear BK605)
      (try clear BK612)
      (try clear BK619)
      (try clear BK623)
      (try clear HB)
      generalize (((w30.setCell ⟨gb623, 0, none⟩ (.bool t620)).setCell ⟨gb623, 1, none⟩ (.int .u64 t621)).setCell ⟨gb623, 2, none⟩ (.int .u64 t622)) = w39 at n0_ n1_ n2_ n3_ n4_ ⊢
      have BK605 := n0_
      have BK612 := n1_
      have BK619 := n2_
      have BK623 := n3_
      have HB := n4_
      clear n0_ n1_ n2_ n3_ n4_
      have n0_ := Aside0.mk (blk_drew BK605.out)
      have n1_ := Aside0.mk (blk_drew BK612.out)
      have n2_ := Aside0.mk (blk_drew BK619.out)
      have n3_ := Aside0.mk (blk_drew BK623.out)
      have n4_ := Aside0.mk (below_drew1 HB.out)
      clear BK605
      clear BK612
      clear BK619
      clear BK623
      clear HB
      have BK605 := n0_
      have BK612 := n1_
      have BK619 := n2_
      have BK623 := n3_
      have HB := n4_
      clear n0_ n1_ n2_ n3_ n4_
      refine start_ (n := 15) (S := fun w' => w'.cell? ⟨gb623, 0, none⟩ = some (.bool t620) ∧ w'.cell? ⟨gb623, 1, none⟩ = some (.int .u64 t621) ∧ w'.cell? ⟨gb623, 2, none⟩ = some (.int .u64 t622) ∧ w'.cell? ⟨gb619, 0, none⟩ = some (.bool (!(decide (a0 < 0)) == (decide (a2 < 0)))) ∧ w'.cell? ⟨gb619, 1, none⟩ = some (.int .u64 t614) ∧ w'.cell? ⟨gb619, 2, none⟩ = some (.int .u64 t617)) (ds := []) #[false, false, false, false, false, false, false, false, false, false, false, false, false, false, false] (by kernel_rfl) rfl rfl ⟨(blk_cell BK623.out 0).trans rfl, (blk_cell BK623.out 1).trans rfl, (blk_cell BK623.out 2).trans rfl, (blk_cell BK619.out 0).trans rfl, (blk_cell BK619.out 1).trans rfl, (blk_cell BK619.out 2).trans rfl⟩ (fun hHeld => ?_); refine with_tabW impl_quotientDown.tab7 impl_quotientDown.bits7 (fun HT_ HW_ => ?_)
      generalize w39.drew = w40 at BK605 BK612 BK619 BK623 HB hHeld ⊢
      refine pure_ (i := 0) (N := some 59) (v := ?_) (a' := ?_) #[true, false, false, false, false, false, false, false, false, false, false, false, false, false, false] rfl rfl (any_of HT_.out (by kernel_rfl)) (fun _ _ _ h => h) (Or.inl ⟨by rfl, ?_⟩) ?_ ?_
      rotate_left
      · intro w'
        go_simp
        with_reducible rfl
      rotate_left
      · simp only [Act.put, List.setIfInBounds_toArray, List.set_cons_zero, List.set_cons_succ, i64_w, i32_w]
        rfl
      refine pure_ (i := 1) (N := some 60) (v := ?_) (a' := ?_) #[true, true, false, false, false, false, false, false, false, false, false, false, false, false, false] rfl rfl (any_of HT_.out (by kernel_rfl)) (fun _ _ _ h => h) (Or.inl ⟨by rfl, ?_⟩) ?_ ?_
      rotate_left
      · intro w'
        go_simp
        with_reducible rfl
      rotate_left
      · simp only [Act.put, List.setIfInBounds_toArray, List.set_cons_zero, List.set_cons_succ, i64_w, i32_w]
        rfl
      refine pure_ (i := 2) (N := some 61) (v := ?_) (a' := ?_) #[true, true, true, false, false, false, false, false, false, false, false, false, false, false, false] rfl rfl (any_of HT_.out (by kernel_rfl)) (fun _ _ _ h => h) (Or.inl ⟨by rfl, ?_⟩) ?_ ?_
      rotate_left
      · intro w'
        go_simp
        with_reducible rfl
      rotate_left
      · simp only [Act.put, List.setIfInBounds_toArray, List.set_cons_zero, List.set_cons_succ, i64_w, i32_w]
        rfl
      refine pure_ (i := 4) (N := some 63) (v := ?_) (a' := ?_) #[true, true, true, false, true, false, false, false, false, false, false, false, false, false, false] rfl rfl (any_of HT_.out (by kernel_rfl)) (fun _ _ _ h => h) (Or.inl ⟨by rfl, ?_⟩) ?_ ?_
      rotate_left
      · intro w'
        go_simp
        with_reducible rfl
      rotate_left
      · simp only [Act.put, List.setIfInBounds_toArray, List.set_cons_zero, List.set_cons_succ, i64_w, i32_w]
        rfl
      refine pure_ (i := 5) (N := some 64) (v := ?_) (a' := ?_) #[true, true, true, false, true, true, false, false, false, false, false, false, false, false, false] rfl rfl (any_of HT_.out (by kernel_rfl)) (fun _ _ _ h => h) (Or.inl ⟨by rfl, ?_⟩) ?_ ?_
      rotate_left
      · intro w'
        go_simp
        with_reducible rfl
      rotate_left
      · simp only [Act.put, List.setIfInBounds_toArray, List.set_cons_zero, List.set_cons_succ, i64_w, i32_w]
        rfl
      refine pure_ (i := 6) (N := some 65) (v := ?_) (a' := ?_) #[true, true, true, false, true, true, true, false, false, false, false, false, false, false, false] rfl rfl (any_of HT_.out (by kernel_rfl)) (fun _ _ _ h => h) (Or.inl ⟨by rfl, ?_⟩) ?_ ?_
      rotate_left
      · intro w'
        go_simp
        with_reducible rfl
      rotate_left
      · simp only [Act.put, List.setIfInBounds_toArray, List.set_cons_zero, List.set_cons_succ, i64_w, i32_w]
        rfl
      refine pure_ (i := 7) (N := some 66) (v := ?_) (a' := ?_) #[true, true, true, false, true, true, true, true, false, false, false, false, false, false, false] rfl rfl (any_of HT_.out (by kernel_rfl)) (fun _ _ _ h => h) (Or.inl ⟨by rfl, ?_⟩) ?_ ?_
      rotate_left
      · intro w'
        go_simp
        with_reducible rfl
      rotate_left
      · simp only [Act.put, List.setIfInBounds_toArray, List.set_cons_zero, List.set_cons_succ, i64_w, i32_w]
        rfl
      refine pure_ (i := 8) (N := some 67) (v := ?_) (a' := ?_) #[true, true, true, false, true, true, true, true, true, false, false, false, false, false, false] rfl rfl (any_of HT_.out (by kernel_rfl)) (fun _ _ _ h => h) (Or.inl ⟨by rfl, ?_⟩) ?_ ?_
      rotate_left
      · intro w'
        go_simp
        with_reducible rfl
      rotate_left
      · simp only [Act.put, List.setIfInBounds_toArray, List.set_cons_zero, List.set_cons_succ, i64_w, i32_w]
        rfl
      refine take_ (i := 3) (N := some 62) (v := ?_) (a' := ?_) #[true, true, true, true, true, true, true, true, true, false, false, false, false, false, false] rfl rfl (take_ofW HT_.out HW_.out (by kernel_rfl)) (fun _ _ _ h => h) (Or.inl ⟨by rfl, ?_⟩) hHeld ?_ ?_
      rotate_left
      · rintro w' ⟨s0, s1, s2, s3, s4, s5⟩
        go_simp
        with_reducible rfl
      rotate_left
      · simp only [Act.put, List.setIfInBounds_toArray, List.set_cons_zero, List.set_cons_succ, i64_w, i32_w]
        rfl
      refine take_ (i := 10) (N := some 69) (v := ?_) (a' := ?_) #[true, true, true, true, true, true, true, true, true, false, true, false, false, false, false] rfl rfl (take_ofW HT_.out HW_.out (by kernel_rfl)) (fun _ _ _ h => h) (Or.inl ⟨by rfl, ?_⟩) hHeld ?_ ?_
      rotate_left
      · rintro w' ⟨s0, s1, s2, s3, s4, s5⟩
        go_simp
        with_reducible rfl
      rotate_left
      · simp only [Act.put, List.setIfInBounds_toArray, List.set_cons_zero, List.set_cons_succ, i64_w, i32_w]
        rfl
      refine one_ (i := 9) (N := some 68) #[true, true, true, true, true, true, true, true, true, true, true, false, false, false, false] rfl rfl (one_of HT_.out (by kernel_rfl)) (by decide) (fun K hK => ?_)
      refine goes_ Try.func65 (by kernel_rfl) rfl #[.agg #[.bool t620, .int .u64 t621, .int .u64 t622], .int .i64 ji36] (by rfl) rfl rfl (by (try simp only [List.map_toArray, List.map_cons, List.map_nil]); first | done | (simp only [hji36]; rfl) | rfl | (simp only [List.length_drop, List.length_take]; rfl)) ?_
      with_reducible refine (impl_wide_shift.calls t620 t621 t622 ji36 t624 t625 t626 _ A37.out).mono ?_
      rintro e w41 ⟨rfl, hb⟩
      refine ⟨_, rfl, ?_⟩
      have n0_ := Aside0.mk (blk_below (g := gb605) (o := .cells #[.int .i64 0, .int .i64 0] 26 (0, 0)) (by (with_reducible repeat (first | refine blk_drewN ?_ _ | refine blk_drew ?_ | refine blk_alloc ?_ _)); exact BK605.out) hb)
      have n1_ := Aside0.mk (blk_below (g := gb612) (o := .cells #[.bool (!(decide (a0 < 0)) == (decide (a2 < 0))), .int .u64 t610, .int .u64 t611] 44 (0, 0)) (by (with_reducible repeat (first | refine blk_drewN ?_ _ | refine blk_drew ?_ | refine blk_alloc ?_ _)); exact BK612.out) hb)
      have n2_ := Aside0.mk (blk_below (g := gb619) (o := .cells #[.bool (!(decide (a0 < 0)) == (decide (a2 < 0))), .int .u64 t614, .int .u64 t617] 44 (0, 0)) (by (with_reducible repeat (first | refine blk_drewN ?_ _ | refine blk_drew ?_ | refine blk_alloc ?_ _)); exact BK619.out) hb)
      have n3_ := Aside0.mk (blk_below (g := gb623) (o := .cells #[.bool t620, .int .u64 t621, .int .u64 t622] 44 (0, 0)) (by (with_reducible repeat (first | refine blk_drewN ?_ _ | refine blk_drew ?_ | refine blk_alloc ?_ _)); exact BK623.out) hb)
      have n4_ := Aside0.mk (below_step (by repeat (first | (with_reducible first | exact HB.out | apply below_alloc | apply pw_below_drewN | apply below_drew1 | refine below_set ?_ GE605.out | refine below_set ?_ GE612.out | refine below_set ?_ GE619.out | refine below_set ?_ GE623.out) | exact HB.out)) hb)
      clear BK605
      clear BK612
      clear BK619
      clear BK623
      clear HB
      have BK605 := n0_
      have BK612 := n1_
      have BK619 := n2_
      have BK623 := n3_
      have HB := n4_
      clear n0_ n1_ n2_ n3_ n4_
      (try clear hb)
      (try clear hb2)
      (try clear hk)
      (try clear hi)
      refine hK.out _ _ ⟨(blk_cell BK623.out 0).trans rfl, (blk_cell BK623.out 1).trans rfl, (blk_cell BK623.out 2).trans rfl, (blk_cell BK619.out 0).trans rfl, (blk_cell BK619.out 1).trans rfl, (blk_cell BK619.out 2).trans rfl⟩ (fun hHeld => ?_)
      clear hK K
      refine norm_ (a' := ?_) ?_ ?_
      rotate_left
      · show Act.put _ (some 68) _ = _
        simp only [Act.put, List.setIfInBounds_toArray, List.set_cons_zero, List.set_cons_succ, i64_w, i32_w]
        rfl
      refine one_ (i := 11) (N := some 70) #[true, true, true, true, true, true, true, true, true, true, true, true, false, false, false] rfl rfl (one_of HT_.out (by kernel_rfl)) (by decide) (fun K hK => ?_)
      refine goes_ Try.func80 (by kernel_rfl) rfl #[.agg #[.bool t624, .int .u64 t625, .int .u64 t626], .agg #[.bool (!(decide (a0 < 0)) == (decide (a2 < 0))), .int .u64 t614, .int .u64 t617]] (by rfl) rfl rfl (by (try simp only [List.map_toArray, List.map_cons, List.map_nil]); first | done | rfl | (simp only [List.length_drop, List.length_take]; rfl)) ?_
      with_reducible refine (impl_compareSizes.calls k t624 t625 t626 (!(decide (a0 < 0)) == (decide (a2 < 0))) t614 t617 t627 _ A38.out).mono ?_
      rintro e w42 ⟨rfl, hb⟩
      refine ⟨_, rfl, ?_⟩
      have n0_ := Aside0.mk (blk_below (g := gb605) (o := .cells #[.int .i64 0, .int .i64 0] 26 (0, 0)) (by (with_reducible repeat (first | refine blk_drewN ?_ _ | refine blk_drew ?_ | refine blk_alloc ?_ _)); exact BK605.out) hb)
      have n1_ := Aside0.mk (blk_below (g := gb612) (o := .cells #[.bool (!(decide (a0 < 0)) == (decide (a2 < 0))), .int .u64 t610, .int .u64 t611] 44 (0, 0)) (by (with_reducible repeat (first | refine blk_drewN ?_ _ | refine blk_drew ?_ | refine blk_alloc ?_ _)); exact BK612.out) hb)
      have n2_ := Aside0.mk (blk_below (g := gb619) (o := .cells #[.bool (!(decide (a0 < 0)) == (decide (a2 < 0))), .int .u64 t614, .int .u64 t617] 44 (0, 0)) (by (with_reducible repeat (first | refine blk_drewN ?_ _ | refine blk_drew ?_ | refine blk_alloc ?_ _)); exact BK619.out) hb)
      have n3_ := Aside0.mk (blk_below (g := gb623) (o := .cells #[.bool t620, .int .u64 t621, .int .u64 t622] 44 (0, 0)) (by (with_reducible repeat (first | refine blk_drewN ?_ _ | refine blk_drew ?_ | refine blk_alloc ?_ _)); exact BK623.out) hb)
      have n4_ := Aside0.mk (below_step (by repeat (first | (with_reducible first | exact HB.out | apply below_alloc | apply pw_below_drewN | apply below_drew1 | refine below_set ?_ GE605.out | refine below_set ?_ GE612.out | refine below_set ?_ GE619.out | refine below_set ?_ GE623.out) | exact HB.out)) hb)
      clear BK605
      clear BK612
      clear BK619
      clear BK623
      clear HB
      have BK605 := n0_
      have BK612 := n1_
      have BK619 := n2_
      have BK623 := n3_
      have HB := n4_
      clear n0_ n1_ n2_ n3_ n4_
      (try clear hb)
      (try clear hb2)
      (try clear hk)
      (try clear hi)
      refine hK.out _ _ ⟨(blk_cell BK623.out 0).trans rfl, (blk_cell BK623.out 1).trans rfl, (blk_cell BK623.out 2).trans rfl, (blk_cell BK619.out 0).trans rfl, (blk_cell BK619.out 1).trans rfl, (blk_cell BK619.out 2).trans rfl⟩ (fun hHeld => ?_)
      clear hK K
      refine norm_ (a' := ?_) ?_ ?_
      rotate_left
      · show Act.put _ (some 70) _ = _
        simp only [Act.put, List.setIfInBounds_toArray, List.set_cons_zero, List.set_cons_succ, i64_w, i32_w]
        rfl
      refine pure_ (i := 12) (N := some 71) (v := ?_) (a' := ?_) #[true, true, true, true, true, true, true, true, true, true, true, true, true, false, false] rfl rfl (any_of HT_.out (by kernel_rfl)) (fun _ _ _ h => h) (Or.inl ⟨by rfl, ?_⟩) ?_ ?_
      rotate_left
      · intro w'
        go_simp
        with_reducible rfl
      rotate_left
      · simp only [Act.put, List.setIfInBounds_toArray, List.set_cons_zero, List.set_cons_succ, i64_w, i32_w]
        rfl
      refine pure_ (i := 13) (N := some 72) (v := ?_) (a' := ?_) #[true, true, true, true, true, true, true, true, true, true, true, true, true, true, false] rfl rfl (any_of HT_.out (by kernel_rfl)) (fun _ _ _ h => h) (Or.inl ⟨by rfl, ?_⟩) ?_ ?_
      rotate_left
      · intro w'
        go_simp
        with_reducible rfl
      rotate_left
      · simp only [Act.put, List.setIfInBounds_toArray, List.set_cons_zero, List.set_cons_succ, i64_w, i32_w]
        rfl
      refine pure_ (i := 14) (N := some 17) (v := ?_) (a' := ?_) #[true, true, true, true, true, true, true, true, true, true, true, true, true, true, true] rfl rfl (any_of HT_.out (by kernel_rfl)) (fun _ _ _ h => h) (Or.inl ⟨by rfl, ?_⟩) ?_ ?_
      rotate_left
      · intro w'
        go_simp
        with_reducible rfl
      rotate_left
      · simp only [Act.put, List.setIfInBounds_toArray, List.set_cons_zero, List.set_cons_succ, i64_w, i32_w]
        rfl
      refine done_ (done_of HT_.out (by kernel_rfl)) ?_
      try go_wp2
      go_meet
      case rel => exact ⟨_, ((t627 == 0)), (by first | rfl | (simp; done) | (simp [*]; done)), H', ⟨by first | omega | exact Nat.le_refl _⟩, ⟨by (with_reducible repeat (first | refine blk_drewN ?_ _ | refine blk_drew ?_ | refine blk_alloc ?_ _)); exact BK605.out⟩, ⟨by (with_reducible repeat (first | refine blk_drewN ?_ _ | refine blk_drew ?_ | refine blk_alloc ?_ _)); exact BK612.out⟩, ⟨by (with_reducible repeat (first | refine blk_drewN ?_ _ | refine blk_drew ?_ | refine blk_alloc ?_ _)); exact BK619.out⟩, ⟨by (with_reducible repeat (first | refine blk_drewN ?_ _ | refine blk_drew ?_ | refine blk_alloc ?_ _)); exact BK623.out⟩, ⟨by repeat (first | (with_reducible first | exact HB.out | apply below_alloc | apply pw_below_drewN | apply below_drew1 | refine below_set ?_ GE605.out | refine below_set ?_ GE612.out | refine below_set ?_ GE619.out | refine below_set ?_ GE623.out) | exact HB.out)⟩⟩
    · rw [if_neg c35] at H
      have c35b0 : (t618 == 0) = false := beq_eq_false_iff_ne.mpr c35
      have c35b1 : (t618 != 0) = true := bne_iff_ne.mpr c35
      (first | rw [c35b0] | (simp only [i64_w, i32_w]; rw [c35b0]) | skip)
      have H' := Aside0.mk H
      clear H
      try go_wp2
      have n0_ : Aside0 ((((w30.setCell ⟨gb623, 0, none⟩ (.bool t620)).setCell ⟨gb623, 1, none⟩ (.int .u64 t621)).setCell ⟨gb623, 2, none⟩ (.int .u64 t622)).heap[gb605]? = some (.cells #[.int .i64 0, .int .i64 0] 26 (0, 0))) := ⟨by (with_reducible repeat (first | refine blk_drewN ?_ _ | refine blk_drew ?_ | refine blk_alloc ?_ _)); refine blk_far ?_ NB605_623.out _; (with_reducible repeat (first | refine blk_drewN ?_ _ | refine blk_drew ?_ | refine blk_alloc ?_ _)); refine blk_far ?_ NB605_623.out _; (with_reducible repeat (first | refine blk_drewN ?_ _ | refine blk_drew ?_ | refine blk_alloc ?_ _)); refine blk_far ?_ NB605_623.out _; (with_reducible repeat (first | refine blk_drewN ?_ _ | refine blk_drew ?_ | refine blk_alloc ?_ _)); exact BK605.out⟩
      have n1_ : Aside0 ((((w30.setCell ⟨gb623, 0, none⟩ (.bool t620)).setCell ⟨gb623, 1, none⟩ (.int .u64 t621)).setCell ⟨gb623, 2, none⟩ (.int .u64 t622)).heap[gb612]? = some (.cells #[.bool (!(decide (a0 < 0)) == (decide (a2 < 0))), .int .u64 t610, .int .u64 t611] 44 (0, 0))) := ⟨by (with_reducible repeat (first | refine blk_drewN ?_ _ | refine blk_drew ?_ | refine blk_alloc ?_ _)); refine blk_far ?_ NB612_623.out _; (with_reducible repeat (first | refine blk_drewN ?_ _ | refine blk_drew ?_ | refine blk_alloc ?_ _)); refine blk_far ?_ NB612_623.out _; (with_reducible repeat (first | refine blk_drewN ?_ _ | refine blk_drew ?_ | refine blk_alloc ?_ _)); refine blk_far ?_ NB612_623.out _; (with_reducible repeat (first | refine blk_drewN ?_ _ | refine blk_drew ?_ | refine blk_alloc ?_ _)); exact BK612.out⟩
      have n2_ : Aside0 ((((w30.setCell ⟨gb623, 0, none⟩ (.bool t620)).setCell ⟨gb623, 1, none⟩ (.int .u64 t621)).setCell ⟨gb623, 2, none⟩ (.int .u64 t622)).heap[gb619]? = some (.cells #[.bool (!(decide (a0 < 0)) == (decide (a2 < 0))), .int .u64 t614, .int .u64 t617] 44 (0, 0))) := ⟨by (with_reducible repeat (first | refine blk_drewN ?_ _ | refine blk_drew ?_ | refine blk_alloc ?_ _)); refine blk_far ?_ NB619_623.out _; (with_reducible repeat (first | refine blk_drewN ?_ _ | refine blk_drew ?_ | refine blk_alloc ?_ _)); refine blk_far ?_ NB619_623.out _; (with_reducible repeat (first | refine blk_drewN ?_ _ | refine blk_drew ?_ | refine blk_alloc ?_ _)); refine blk_far ?_ NB619_623.out _; (with_reducible repeat (first | refine blk_drewN ?_ _ | refine blk_drew ?_ | refine blk_alloc ?_ _)); exact BK619.out⟩
      have n3_ : Aside0 ((((w30.setCell ⟨gb623, 0, none⟩ (.bool t620)).setCell ⟨gb623, 1, none⟩ (.int .u64 t621)).setCell ⟨gb623, 2, none⟩ (.int .u64 t622)).heap[gb623]? = some (.cells #[.bool t620, .int .u64 t621, .int .u64 t622] 44 (0, 0))) := ⟨by (with_reducible repeat (first | refine blk_drewN ?_ _ | refine blk_drew ?_ | refine blk_alloc ?_ _)); refine blk_put (cs := #[.bool t620, .int .u64 t621, .int .u64 0]) ?_ 2 _ rfl; (with_reducible repeat (first | refine blk_drewN ?_ _ | refine blk_drew ?_ | refine blk_alloc ?_ _)); refine blk_put (cs := #[.bool t620, .int .u64 0, .int .u64 0]) ?_ 1 _ rfl; (with_reducible repeat (first | refine blk_drewN ?_ _ | refine blk_drew ?_ | refine blk_alloc ?_ _)); refine blk_put (cs := #[.bool false, .int .u64 0, .int .u64 0]) ?_ 0 _ rfl; (with_reducible repeat (first | refine blk_drewN ?_ _ | refine blk_drew ?_ | refine blk_alloc ?_ _)); exact BK623.out⟩
      have n4_ : Aside0 (Below w.heap.size w (((w30.setCell ⟨gb623, 0, none⟩ (.bool t620)).setCell ⟨gb623, 1, none⟩ (.int .u64 t621)).setCell ⟨gb623, 2, none⟩ (.int .u64 t622))) := ⟨by repeat (first | (with_reducible first | exact HB.out | apply below_alloc | apply pw_below_drewN | apply below_drew1 | refine below_set ?_ GE605.out | refine below_set ?_ GE612.out | refine below_set ?_ GE619.out | refine below_set ?_ GE623.out) | exact HB.out)⟩
      (try clear BK605)
      (try clear BK612)
      (try clear BK619)
      (try clear BK623)
      (try clear HB)
      generalize (((w30.setCell ⟨gb623, 0, none⟩ (.bool t620)).setCell ⟨gb623, 1, none⟩ (.int .u64 t621)).setCell ⟨gb623, 2, none⟩ (.int .u64 t622)) = w43 at n0_ n1_ n2_ n3_ n4_ ⊢
      have BK605 := n0_
      have BK612 := n1_
      have BK619 := n2_
      have BK623 := n3_
      have HB := n4_
      clear n0_ n1_ n2_ n3_ n4_
      have n0_ := Aside0.mk (blk_drew BK605.out)
      have n1_ := Aside0.mk (blk_drew BK612.out)
      have n2_ := Aside0.mk (blk_drew BK619.out)
      have n3_ := Aside0.mk (blk_drew BK623.out)
      have n4_ := Aside0.mk (below_drew1 HB.out)
      clear BK605
      clear BK612
      clear BK619
      clear BK623
      clear HB
      have BK605 := n0_
      have BK612 := n1_
      have BK619 := n2_
      have BK623 := n3_
      have HB := n4_
      clear n0_ n1_ n2_ n3_ n4_
      refine start_ (n := 15) (S := fun w' => True) (ds := []) #[false, false, false, false, false, false, false, false, false, false, false, false, false, false, false] (by kernel_rfl) rfl rfl trivial (fun hHeld => ?_); refine with_tabW impl_quotientDown.tab7 impl_quotientDown.bits7 (fun HT_ HW_ => ?_)
      generalize w43.drew = w44 at BK605 BK612 BK619 BK623 HB hHeld ⊢
      refine pure_ (i := 0) (N := some 59) (v := ?_) (a' := ?_) #[true, false, false, false, false, false, false, false, false, false, false, false, false, false, false] rfl rfl (any_of HT_.out (by kernel_rfl)) (fun _ _ _ h => h) (Or.inl ⟨by rfl, ?_⟩) ?_ ?_
      rotate_left
      · intro w'
        go_simp
        with_reducible rfl
      rotate_left
      · simp only [Act.put, List.setIfInBounds_toArray, List.set_cons_zero, List.set_cons_succ, i64_w, i32_w]
        rfl
      refine pure_ (i := 1) (N := some 60) (v := ?_) (a' := ?_) #[true, true, false, false, false, false, false, false, false, false, false, false, false, false, false] rfl rfl (any_of HT_.out (by kernel_rfl)) (fun _ _ _ h => h) (Or.inl ⟨by rfl, ?_⟩) ?_ ?_
      rotate_left
      · intro w'
        go_simp
        with_reducible rfl
      rotate_left
      · simp only [Act.put, List.setIfInBounds_toArray, List.set_cons_zero, List.set_cons_succ, i64_w, i32_w]
        rfl
      refine pure_ (i := 2) (N := some 61) (v := ?_) (a' := ?_) #[true, true, true, false, false, false, false, false, false, false, false, false, false, false, false] rfl rfl (any_of HT_.out (by kernel_rfl)) (fun _ _ _ h => h) (Or.inl ⟨by rfl, ?_⟩) ?_ ?_
      rotate_left
      · intro w'
        go_simp
        with_reducible rfl
      rotate_left
      · simp only [Act.put, List.setIfInBounds_toArray, List.set_cons_zero, List.set_cons_succ, i64_w, i32_w]
        rfl
      refine pure_ (i := 3) (N := some 62) (v := undef) (a' := ?_) #[true, true, true, true, false, false, false, false, false, false, false, false, false, false, false] rfl rfl (any_of HT_.out (by kernel_rfl)) (fun _ _ _ h => h) (Or.inr ⟨by rfl, rfl⟩) ?_ ?_
      rotate_left
      · simp only [Act.put, List.setIfInBounds_toArray, List.set_cons_zero, List.set_cons_succ, i64_w, i32_w]
        rfl
      refine pure_ (i := 4) (N := some 63) (v := undef) (a' := ?_) #[true, true, true, true, true, false, false, false, false, false, false, false, false, false, false] rfl rfl (any_of HT_.out (by kernel_rfl)) (fun _ _ _ h => h) (Or.inr ⟨by rfl, rfl⟩) ?_ ?_
      rotate_left
      · simp only [Act.put, List.setIfInBounds_toArray, List.set_cons_zero, List.set_cons_succ, i64_w, i32_w]
        rfl
      refine pure_ (i := 5) (N := some 64) (v := undef) (a' := ?_) #[true, true, true, true, true, true, false, false, false, false, false, false, false, false, false] rfl rfl (any_of HT_.out (by kernel_rfl)) (fun _ _ _ h => h) (Or.inr ⟨by rfl, rfl⟩) ?_ ?_
      rotate_left
      · simp only [Act.put, List.setIfInBounds_toArray, List.set_cons_zero, List.set_cons_succ, i64_w, i32_w]
        rfl
      refine pure_ (i := 6) (N := some 65) (v := undef) (a' := ?_) #[true, true, true, true, true, true, true, false, false, false, false, false, false, false, false] rfl rfl (any_of HT_.out (by kernel_rfl)) (fun _ _ _ h => h) (Or.inr ⟨by rfl, rfl⟩) ?_ ?_
      rotate_left
      · simp only [Act.put, List.setIfInBounds_toArray, List.set_cons_zero, List.set_cons_succ, i64_w, i32_w]
        rfl
      refine pure_ (i := 7) (N := some 66) (v := undef) (a' := ?_) #[true, true, true, true, true, true, true, true, false, false, false, false, false, false, false] rfl rfl (any_of HT_.out (by kernel_rfl)) (fun _ _ _ h => h) (Or.inr ⟨by rfl, rfl⟩) ?_ ?_
      rotate_left
      · simp only [Act.put, List.setIfInBounds_toArray, List.set_cons_zero, List.set_cons_succ, i64_w, i32_w]
        rfl
      refine pure_ (i := 8) (N := some 67) (v := undef) (a' := ?_) #[true, true, true, true, true, true, true, true, true, false, false, false, false, false, false] rfl rfl (any_of HT_.out (by kernel_rfl)) (fun _ _ _ h => h) (Or.inr ⟨by rfl, rfl⟩) ?_ ?_
      rotate_left
      · simp only [Act.put, List.setIfInBounds_toArray, List.set_cons_zero, List.set_cons_succ, i64_w, i32_w]
        rfl
      refine pure_ (i := 9) (N := some 68) (v := undef) (a' := ?_) #[true, true, true, true, true, true, true, true, true, true, false, false, false, false, false] rfl rfl (any_of HT_.out (by kernel_rfl)) (fun _ _ _ h => h) (Or.inr ⟨by rfl, rfl⟩) ?_ ?_
      rotate_left
      · simp only [Act.put, List.setIfInBounds_toArray, List.set_cons_zero, List.set_cons_succ, i64_w, i32_w]
        rfl
      refine pure_ (i := 10) (N := some 69) (v := undef) (a' := ?_) #[true, true, true, true, true, true, true, true, true, true, true, false, false, false, false] rfl rfl (any_of HT_.out (by kernel_rfl)) (fun _ _ _ h => h) (Or.inr ⟨by rfl, rfl⟩) ?_ ?_
      rotate_left
      · simp only [Act.put, List.setIfInBounds_toArray, List.set_cons_zero, List.set_cons_succ, i64_w, i32_w]
        rfl
      refine pure_ (i := 11) (N := some 70) (v := undef) (a' := ?_) #[true, true, true, true, true, true, true, true, true, true, true, true, false, false, false] rfl rfl (any_of HT_.out (by kernel_rfl)) (fun _ _ _ h => h) (Or.inr ⟨by rfl, rfl⟩) ?_ ?_
      rotate_left
      · simp only [Act.put, List.setIfInBounds_toArray, List.set_cons_zero, List.set_cons_succ, i64_w, i32_w]
        rfl
      refine pure_ (i := 12) (N := some 71) (v := undef) (a' := ?_) #[true, true, true, true, true, true, true, true, true, true, true, true, true, false, false] rfl rfl (any_of HT_.out (by kernel_rfl)) (fun _ _ _ h => h) (Or.inr ⟨by rfl, rfl⟩) ?_ ?_
      rotate_left
      · simp only [Act.put, List.setIfInBounds_toArray, List.set_cons_zero, List.set_cons_succ, i64_w, i32_w]
        rfl
      refine pure_ (i := 13) (N := some 72) (v := ?_) (a' := ?_) #[true, true, true, true, true, true, true, true, true, true, true, true, true, true, false] rfl rfl (any_of HT_.out (by kernel_rfl)) (fun _ _ _ h => h) (Or.inl ⟨by rfl, ?_⟩) ?_ ?_
      rotate_left
      · intro w'
        go_simp
        with_reducible rfl
      rotate_left
      · simp only [Act.put, List.setIfInBounds_toArray, List.set_cons_zero, List.set_cons_succ, i64_w, i32_w]
        rfl
      refine pure_ (i := 14) (N := some 17) (v := ?_) (a' := ?_) #[true, true, true, true, true, true, true, true, true, true, true, true, true, true, true] rfl rfl (any_of HT_.out (by kernel_rfl)) (fun _ _ _ h => h) (Or.inl ⟨by rfl, ?_⟩) ?_ ?_
      rotate_left
      · intro w'
        go_simp
        with_reducible rfl
      rotate_left
      · simp only [Act.put, List.setIfInBounds_toArray, List.set_cons_zero, List.set_cons_succ, i64_w, i32_w]
        rfl
      refine done_ (done_of HT_.out (by kernel_rfl)) ?_
      try go_wp2
      go_meet
      case rel => exact ⟨_, (false), (by first | rfl | (simp; done) | (simp [*]; done)), H', ⟨by first | omega | exact Nat.le_refl _⟩, ⟨by (with_reducible repeat (first | refine blk_drewN ?_ _ | refine blk_drew ?_ | refine blk_alloc ?_ _)); exact BK605.out⟩, ⟨by (with_reducible repeat (first | refine blk_drewN ?_ _ | refine blk_drew ?_ | refine blk_alloc ?_ _)); exact BK612.out⟩, ⟨by (with_reducible repeat (first | refine blk_drewN ?_ _ | refine blk_drew ?_ | refine blk_alloc ?_ _)); exact BK619.out⟩, ⟨by (with_reducible repeat (first | refine blk_drewN ?_ _ | refine blk_drew ?_ | refine blk_alloc ?_ _)); exact BK623.out⟩, ⟨by repeat (first | (with_reducible first | exact HB.out | apply below_alloc | apply pw_below_drewN | apply below_drew1 | refine below_set ?_ GE605.out | refine below_set ?_ GE612.out | refine below_set ?_ GE619.out | refine below_set ?_ GE623.out) | exact HB.out)⟩⟩
  case rest =>
    clear HC14
    try clear c1
    try clear c2
    try clear p2
    try clear c3
    try clear c4
    try clear c6
    try clear p6
    try clear c7
    try clear c8
    try clear c19
    try clear c26
    try clear c27
    try clear c31
    try clear c32
    try clear c33
    try clear c35
    try clear c35b0
    try clear c35b1
    try clear c44
    try clear hcz20_0
    try clear hcz20_1
    try clear hcz20_2
    try clear hcz24_0
    try clear hcz24_1
    try clear hcz24_2
    try clear hcz28_0
    try clear hcz28_1
    try clear hcz28_2
    try clear hcz34_0
    try clear hcz34_1
    try clear hcz34_2
    try clear hfz20_0
    try clear hfz20_1
    try clear hfz20_2
    try clear hfz24_0
    try clear hfz24_1
    try clear hfz24_2
    try clear hfz28_0
    try clear hfz28_1
    try clear hfz28_2
    try clear hfz34_0
    try clear hfz34_1
    try clear hfz34_2
    obtain ⟨kq, x17_13, rfl, HA, HJ13, BK605, BK612, BK619, BK623, HB⟩ := hcut
    cases kq with
    | zero => exact absurd HA.out (by simp [impl_quotientDown.j0])
    | succ kj13 =>
      have H := HA.out
      clear HA
      simp only [impl_quotientDown.j0] at H
      have HC45 := Aside0.mk H
      clear H
      go_upto_region 8 with (fail)
      go_cut [78] (fun v78 wc => ∃ (kq : Nat) (x78_44 : Bool), v78 = .bool x78_44 ∧ Aside0 (impl_quotientDown.j1 kq a3 x78_44 t620 t621 t622 = some (r1, r2, r3)) ∧ Aside0 (kq ≤ kj13) ∧ Aside0 (wc.heap[gb605]? = some (.cells #[.int .i64 0, .int .i64 0] 26 (0, 0))) ∧ Aside0 (wc.heap[gb612]? = some (.cells #[.bool (!(decide (a0 < 0)) == (decide (a2 < 0))), .int .u64 t610, .int .u64 t611] 44 (0, 0))) ∧ Aside0 (wc.heap[gb619]? = some (.cells #[.bool (!(decide (a0 < 0)) == (decide (a2 < 0))), .int .u64 t614, .int .u64 t617] 44 (0, 0))) ∧ Aside0 (wc.heap[gb623]? = some (.cells #[.bool t620, .int .u64 t621, .int .u64 t622] 44 (0, 0))) ∧ Aside0 (Below w.heap.size w wc))
      case first =>
        have H := HC45.out
        clear HC45
        by_cases c46 : (!(decide (a0 < 0)) == (decide (a2 < 0))) = true
        · rw [if_pos c46] at H
          have c46b0 : (!(decide (a0 < 0)) == (decide (a2 < 0))) = true := c46
          (try (have c46b1 : decide (!(decide (a0 < 0)) = (decide (a2 < 0))) = true := by simpa using c46))
          (try (have c46b2 : (!(decide (a0 < 0)) == (decide (a2 < 0))) = true := by simpa using c46))
          clear c46
          (first | rw [c46b0] | (simp only [i64_w, i32_w]; rw [c46b0]) | skip)
          have H' := Aside0.mk H
          clear H
          have hnb47 := NB612_605.out
          have hnc47 := NB605_612.out
          have hnb48 := NB612_619.out
          have hnc48 := NB619_612.out
          have hnb49 := NB612_623.out
          have hnc49 := NB623_612.out
          have hcz50_0 : wc.cell? ⟨gb612, 0, none⟩ = some (.bool (!(decide (a0 < 0)) == (decide (a2 < 0)))) := (blk_cell BK612.out 0).trans rfl
          have hcz50_1 : wc.cell? ⟨gb612, 1, none⟩ = some (.int .u64 t610) := (blk_cell BK612.out 1).trans rfl
          have hcz50_2 : wc.cell? ⟨gb612, 2, none⟩ = some (.int .u64 t611) := (blk_cell BK612.out 2).trans rfl
          have hfz50_0 := blk_frozen BK612.out 0
          have hfz50_1 := blk_frozen BK612.out 1
          have hfz50_2 := blk_frozen BK612.out 2
          go_wp2
          go_meet
          case rel => exact ⟨_, (!x17_13), (by first | rfl | (simp; done) | (simp [*]; done)), H', ⟨by have := HJ13.out; first | omega | exact Nat.le_refl _⟩, ⟨by (with_reducible repeat (first | refine blk_drewN ?_ _ | refine blk_drew ?_ | refine blk_alloc ?_ _)); exact BK605.out⟩, ⟨by (with_reducible repeat (first | refine blk_drewN ?_ _ | refine blk_drew ?_ | refine blk_alloc ?_ _)); exact BK612.out⟩, ⟨by (with_reducible repeat (first | refine blk_drewN ?_ _ | refine blk_drew ?_ | refine blk_alloc ?_ _)); exact BK619.out⟩, ⟨by (with_reducible repeat (first | refine blk_drewN ?_ _ | refine blk_drew ?_ | refine blk_alloc ?_ _)); exact BK623.out⟩, ⟨by repeat (first | (with_reducible first | exact HB.out | apply below_alloc | apply pw_below_drewN | apply below_drew1 | refine below_set ?_ GE605.out | refine below_set ?_ GE612.out | refine below_set ?_ GE619.out | refine below_set ?_ GE623.out) | exact HB.out)⟩⟩
        · rw [if_neg c46] at H
          have c46b0 : (!(decide (a0 < 0)) == (decide (a2 < 0))) = false := by simpa using c46
          (try (have c46b1 : decide (!(decide (a0 < 0)) = (decide (a2 < 0))) = false := by simpa using c46))
          (try (have c46b2 : (!(decide (a0 < 0)) == (decide (a2 < 0))) = false := by simpa using c46))
          (try (have c46b3 : ¬ (!(decide (a0 < 0)) = (decide (a2 < 0))) := by simpa using c46))
          clear c46
          (first | rw [c46b0] | (simp only [i64_w, i32_w]; rw [c46b0]) | skip)
          have H' := Aside0.mk H
          clear H
          have hnb51 := NB612_605.out
          have hnc51 := NB605_612.out
          have hnb52 := NB612_619.out
          have hnc52 := NB619_612.out
          have hnb53 := NB612_623.out
          have hnc53 := NB623_612.out
          have hcz54_0 : wc.cell? ⟨gb612, 0, none⟩ = some (.bool (!(decide (a0 < 0)) == (decide (a2 < 0)))) := (blk_cell BK612.out 0).trans rfl
          have hcz54_1 : wc.cell? ⟨gb612, 1, none⟩ = some (.int .u64 t610) := (blk_cell BK612.out 1).trans rfl
          have hcz54_2 : wc.cell? ⟨gb612, 2, none⟩ = some (.int .u64 t611) := (blk_cell BK612.out 2).trans rfl
          have hfz54_0 := blk_frozen BK612.out 0
          have hfz54_1 := blk_frozen BK612.out 1
          have hfz54_2 := blk_frozen BK612.out 2
          go_wp2
          go_meet
          case rel => exact ⟨_, (false), (by first | rfl | (simp; done) | (simp [*]; done)), H', ⟨by have := HJ13.out; first | omega | exact Nat.le_refl _⟩, ⟨by (with_reducible repeat (first | refine blk_drewN ?_ _ | refine blk_drew ?_ | refine blk_alloc ?_ _)); exact BK605.out⟩, ⟨by (with_reducible repeat (first | refine blk_drewN ?_ _ | refine blk_drew ?_ | refine blk_alloc ?_ _)); exact BK612.out⟩, ⟨by (with_reducible repeat (first | refine blk_drewN ?_ _ | refine blk_drew ?_ | refine blk_alloc ?_ _)); exact BK619.out⟩, ⟨by (with_reducible repeat (first | refine blk_drewN ?_ _ | refine blk_drew ?_ | refine blk_alloc ?_ _)); exact BK623.out⟩, ⟨by repeat (first | (with_reducible first | exact HB.out | apply below_alloc | apply pw_below_drewN | apply below_drew1 | refine below_set ?_ GE605.out | refine below_set ?_ GE612.out | refine below_set ?_ GE619.out | refine below_set ?_ GE623.out) | exact HB.out)⟩⟩
      case rest =>
        clear HC45
        try clear c1
        try clear c2
        try clear p2
        try clear c3
        try clear c4
        try clear c5
        try clear c6
        try clear p6
        try clear c7
        try clear c8
        try clear c19
        try clear c26
        try clear c27
        try clear c31
        try clear c32
        try clear c33
        try clear c35
        try clear c35b0
        try clear c35b1
        try clear c44
        try clear c46
        try clear c46b0
        try clear c46b1
        try clear c46b2
        try clear c47
        try clear c48
        try clear c49
        try clear c51
        try clear c52
        try clear c53
        try clear hcz20_0
        try clear hcz20_1
        try clear hcz20_2
        try clear hcz24_0
        try clear hcz24_1
        try clear hcz24_2
        try clear hcz28_0
        try clear hcz28_1
        try clear hcz28_2
        try clear hcz34_0
        try clear hcz34_1
        try clear hcz34_2
        try clear hcz50_0
        try clear hcz50_1
        try clear hcz50_2
        try clear hcz54_0
        try clear hcz54_1
        try clear hcz54_2
        try clear hfz20_0
        try clear hfz20_1
        try clear hfz20_2
        try clear hfz24_0
        try clear hfz24_1
        try clear hfz24_2
        try clear hfz28_0
        try clear hfz28_1
        try clear hfz28_2
        try clear hfz34_0
        try clear hfz34_1
        try clear hfz34_2
        try clear hfz50_0
        try clear hfz50_1
        try clear hfz50_2
        try clear hfz54_0
        try clear hfz54_1
        try clear hfz54_2
        try clear p2
        try clear p6
        obtain ⟨kq, x78_44, rfl, HA, HJ44, BK605, BK612, BK619, BK623, HB⟩ := hcut
        cases kq with
        | zero => exact absurd HA.out (by simp [impl_quotientDown.j1])
        | succ kj44 =>
          have H := HA.out
          clear HA
          simp only [impl_quotientDown.j1] at H
          by_cases c55 : x78_44 = true
          · subst c55
            have H1 : ((impl_wideOf.f (-1)).bind fun bt628 => ((impl_wide_add.f kj44 t620 t621 t622 bt628.1 bt628.2.1 bt628.2.2).bind fun bt631 => ((impl_wide_fit.f kj44 true bt631.2.1 bt631.2.2 a3).bind fun bt634 => (some (bt634.1, bt634.2.1, bt634.2.2))))) = some (r1, r2, r3) := by rw [if_pos rfl] at H; exact H
            clear H
            have H := H1
            clear H1
            replace H := Option.bind_eq_some_iff.mp H
            obtain ⟨⟨t628, t629, t630⟩, A560, H⟩ := H
            replace H : ((impl_wide_add.f kj44 t620 t621 t622 t628 t629 t630).bind fun bt631 => ((impl_wide_fit.f kj44 true bt631.2.1 bt631.2.2 a3).bind fun bt634 => (some (bt634.1, bt634.2.1, bt634.2.2)))) = some (r1, r2, r3) := H
            have A56 := Aside0.mk A560
            clear A560
            replace H := Option.bind_eq_some_iff.mp H
            obtain ⟨⟨t631, t632, t633⟩, A570, H⟩ := H
            replace H : ((impl_wide_fit.f kj44 true t632 t633 a3).bind fun bt634 => (some (bt634.1, bt634.2.1, bt634.2.2))) = some (r1, r2, r3) := H
            have A57 := Aside0.mk A570
            clear A570
            replace H := Option.bind_eq_some_iff.mp H
            obtain ⟨⟨t634, t635, t636⟩, A580, H⟩ := H
            replace H : (some (t634, t635, t636)) = some (r1, r2, r3) := H
            have A58 := Aside0.mk A580
            clear A580
            simp only [Option.some.injEq, Prod.mk.injEq] at H
            obtain ⟨rfl, rfl, rfl⟩ := H
            try go_wp2
            have n0_ := Aside0.mk (blk_drew BK605.out)
            have n1_ := Aside0.mk (blk_drew BK612.out)
            have n2_ := Aside0.mk (blk_drew BK619.out)
            have n3_ := Aside0.mk (blk_drew BK623.out)
            have n4_ := Aside0.mk (below_drew1 HB.out)
            clear BK605
            clear BK612
            clear BK619
            clear BK623
            clear HB
            have BK605 := n0_
            have BK612 := n1_
            have BK619 := n2_
            have BK623 := n3_
            have HB := n4_
            clear n0_ n1_ n2_ n3_ n4_
            refine start_ (n := 4) (S := fun w' => w'.cell? ⟨gb623, 0, none⟩ = some (.bool t620) ∧ w'.cell? ⟨gb623, 1, none⟩ = some (.int .u64 t621) ∧ w'.cell? ⟨gb623, 2, none⟩ = some (.int .u64 t622)) (ds := [3]) #[false, false, false, false] (by kernel_rfl) rfl rfl ⟨(blk_cell BK623.out 0).trans rfl, (blk_cell BK623.out 1).trans rfl, (blk_cell BK623.out 2).trans rfl⟩ (fun hHeld => ?_)
            generalize wc.drew = w59 at BK605 BK612 BK619 BK623 HB hHeld ⊢
            refine take_ (i := 0) (N := some 79) (v := ?_) (a' := ?_) #[true, false, false, false] rfl rfl (by kernel_rfl) (fun _ _ _ h => h) (Or.inl ⟨by rfl, ?_⟩) hHeld ?_ ?_
            rotate_left
            · rintro w' ⟨s0, s1, s2⟩
              go_simp
              with_reducible rfl
            rotate_left
            · simp only [Act.put, List.setIfInBounds_toArray, List.set_cons_zero, List.set_cons_succ, i64_w, i32_w]
              rfl
            refine one_ (i := 1) (N := some 80) #[true, true, false, false] rfl rfl (by kernel_rfl) (by decide) (fun K hK => ?_)
            refine goes_ Try.func44 (by kernel_rfl) rfl #[.int .i64 (-1)] (by rfl) rfl rfl (by (try simp only [List.map_toArray, List.map_cons, List.map_nil]); first | done | rfl | (simp only [List.length_drop, List.length_take]; rfl)) ?_
            with_reducible refine (impl_wideOf.calls (-1) t628 t629 t630 _ A56.out).mono ?_
            rintro e w60 ⟨rfl, hb⟩
            refine ⟨_, rfl, ?_⟩
            have n0_ := Aside0.mk (blk_below (g := gb605) (o := .cells #[.int .i64 0, .int .i64 0] 26 (0, 0)) (by (with_reducible repeat (first | refine blk_drewN ?_ _ | refine blk_drew ?_ | refine blk_alloc ?_ _)); exact BK605.out) hb)
            have n1_ := Aside0.mk (blk_below (g := gb612) (o := .cells #[.bool (!(decide (a0 < 0)) == (decide (a2 < 0))), .int .u64 t610, .int .u64 t611] 44 (0, 0)) (by (with_reducible repeat (first | refine blk_drewN ?_ _ | refine blk_drew ?_ | refine blk_alloc ?_ _)); exact BK612.out) hb)
            have n2_ := Aside0.mk (blk_below (g := gb619) (o := .cells #[.bool (!(decide (a0 < 0)) == (decide (a2 < 0))), .int .u64 t614, .int .u64 t617] 44 (0, 0)) (by (with_reducible repeat (first | refine blk_drewN ?_ _ | refine blk_drew ?_ | refine blk_alloc ?_ _)); exact BK619.out) hb)
            have n3_ := Aside0.mk (blk_below (g := gb623) (o := .cells #[.bool t620, .int .u64 t621, .int .u64 t622] 44 (0, 0)) (by (with_reducible repeat (first | refine blk_drewN ?_ _ | refine blk_drew ?_ | refine blk_alloc ?_ _)); exact BK623.out) hb)
            have n4_ := Aside0.mk (below_step (by repeat (first | (with_reducible first | exact HB.out | apply below_alloc | apply pw_below_drewN | apply below_drew1 | refine below_set ?_ GE605.out | refine below_set ?_ GE612.out | refine below_set ?_ GE619.out | refine below_set ?_ GE623.out) | exact HB.out)) hb)
            clear BK605
            clear BK612
            clear BK619
            clear BK623
            clear HB
            have BK605 := n0_
            have BK612 := n1_
            have BK619 := n2_
            have BK623 := n3_
            have HB := n4_
            clear n0_ n1_ n2_ n3_ n4_
            (try clear hb)
            (try clear hb2)
            (try clear hk)
            (try clear hi)
            refine hK.out _ _ ⟨(blk_cell BK623.out 0).trans rfl, (blk_cell BK623.out 1).trans rfl, (blk_cell BK623.out 2).trans rfl⟩ (fun hHeld => ?_)
            clear hK K
            refine norm_ (a' := ?_) ?_ ?_
            rotate_left
            · show Act.put _ (some 80) _ = _
              simp only [Act.put, List.setIfInBounds_toArray, List.set_cons_zero, List.set_cons_succ, i64_w, i32_w]
              rfl
            refine one_ (i := 2) (N := some 81) #[true, true, true, false] rfl rfl (by kernel_rfl) (by decide) (fun K hK => ?_)
            refine goes_ Try.func77 (by kernel_rfl) rfl #[.agg #[.bool t620, .int .u64 t621, .int .u64 t622], .agg #[.bool t628, .int .u64 t629, .int .u64 t630]] (by rfl) rfl rfl (by (try simp only [List.map_toArray, List.map_cons, List.map_nil]); first | done | rfl | (simp only [List.length_drop, List.length_take]; rfl)) ?_
            with_reducible refine (impl_wide_add.calls kj44 t620 t621 t622 t628 t629 t630 t631 t632 t633 _ A57.out).mono ?_
            rintro e w61 ⟨rfl, hb⟩
            refine ⟨_, rfl, ?_⟩
            have n0_ := Aside0.mk (blk_below (g := gb605) (o := .cells #[.int .i64 0, .int .i64 0] 26 (0, 0)) (by (with_reducible repeat (first | refine blk_drewN ?_ _ | refine blk_drew ?_ | refine blk_alloc ?_ _)); exact BK605.out) hb)
            have n1_ := Aside0.mk (blk_below (g := gb612) (o := .cells #[.bool (!(decide (a0 < 0)) == (decide (a2 < 0))), .int .u64 t610, .int .u64 t611] 44 (0, 0)) (by (with_reducible repeat (first | refine blk_drewN ?_ _ | refine blk_drew ?_ | refine blk_alloc ?_ _)); exact BK612.out) hb)
            have n2_ := Aside0.mk (blk_below (g := gb619) (o := .cells #[.bool (!(decide (a0 < 0)) == (decide (a2 < 0))), .int .u64 t614, .int .u64 t617] 44 (0, 0)) (by (with_reducible repeat (first | refine blk_drewN ?_ _ | refine blk_drew ?_ | refine blk_alloc ?_ _)); exact BK619.out) hb)
            have n3_ := Aside0.mk (blk_below (g := gb623) (o := .cells #[.bool t620, .int .u64 t621, .int .u64 t622] 44 (0, 0)) (by (with_reducible repeat (first | refine blk_drewN ?_ _ | refine blk_drew ?_ | refine blk_alloc ?_ _)); exact BK623.out) hb)
            have n4_ := Aside0.mk (below_step (by repeat (first | (with_reducible first | exact HB.out | apply below_alloc | apply pw_below_drewN | apply below_drew1 | refine below_set ?_ GE605.out | refine below_set ?_ GE612.out | refine below_set ?_ GE619.out | refine below_set ?_ GE623.out) | exact HB.out)) hb)
            clear BK605
            clear BK612
            clear BK619
            clear BK623
            clear HB
            have BK605 := n0_
            have BK612 := n1_
            have BK619 := n2_
            have BK623 := n3_
            have HB := n4_
            clear n0_ n1_ n2_ n3_ n4_
            (try clear hb)
            (try clear hb2)
            (try clear hk)
            (try clear hi)
            refine hK.out _ _ ⟨(blk_cell BK623.out 0).trans rfl, (blk_cell BK623.out 1).trans rfl, (blk_cell BK623.out 2).trans rfl⟩ (fun hHeld => ?_)
            clear hK K
            refine norm_ (a' := ?_) ?_ ?_
            rotate_left
            · show Act.put _ (some 81) _ = _
              simp only [Act.put, List.setIfInBounds_toArray, List.set_cons_zero, List.set_cons_succ, i64_w, i32_w]
              rfl
            refine last_ (i := 3) (N := none) #[true, true, true, true] rfl rfl (by kernel_rfl) (by decide) (fun K hK => ?_)
            have hs62 : w61.cell? ⟨gb623, 0, none⟩ = some (.bool t620) := (blk_cell BK623.out 0).trans rfl
            have hfs62 := blk_frozen BK623.out 0
            have hns62_0 := NB605_623.out
            have hns62_1 := NB612_623.out
            have hns62_2 := NB619_623.out
            have hms62_0 := NB623_605.out
            have hms62_1 := NB623_612.out
            have hms62_2 := NB623_619.out
            have hs63 : w61.cell? ⟨gb623, 1, none⟩ = some (.int .u64 t621) := (blk_cell BK623.out 1).trans rfl
            have hfs63 := blk_frozen BK623.out 1
            have hns63_0 := NB605_623.out
            have hns63_1 := NB612_623.out
            have hns63_2 := NB619_623.out
            have hms63_0 := NB623_605.out
            have hms63_1 := NB623_612.out
            have hms63_2 := NB623_619.out
            have hs64 : w61.cell? ⟨gb623, 2, none⟩ = some (.int .u64 t622) := (blk_cell BK623.out 2).trans rfl
            have hfs64 := blk_frozen BK623.out 2
            have hns64_0 := NB605_623.out
            have hns64_1 := NB612_623.out
            have hns64_2 := NB619_623.out
            have hms64_0 := NB623_605.out
            have hms64_1 := NB623_612.out
            have hms64_2 := NB623_619.out
            refine skip_ (w1 := ?_) (by rfl) rfl ?_ ?_
            rotate_left
            · go_simp
              rfl
            refine hK.out _ _ ?_
            clear hK K
            refine done_ (by kernel_rfl) ?_
            have hnb65 := NB623_605.out
            have hnc65 := NB605_623.out
            have hnb66 := NB623_612.out
            have hnc66 := NB612_623.out
            have hnb67 := NB623_619.out
            have hnc67 := NB619_623.out
            have hcz68_0 : w61.cell? ⟨gb623, 0, none⟩ = some (.bool t620) := (blk_cell BK623.out 0).trans rfl
            have hcz68_1 : w61.cell? ⟨gb623, 1, none⟩ = some (.int .u64 t621) := (blk_cell BK623.out 1).trans rfl
            have hcz68_2 : w61.cell? ⟨gb623, 2, none⟩ = some (.int .u64 t622) := (blk_cell BK623.out 2).trans rfl
            have hfz68_0 := blk_frozen BK623.out 0
            have hfz68_1 := blk_frozen BK623.out 1
            have hfz68_2 := blk_frozen BK623.out 2
            try go_wp2_with (first | ((with_reducible refine gate_callee (f := 45) rfl ?_); refine goesL_ (some 85) rfl rfl Try.func45 (by kernel_rfl) rfl #[.agg #[.bool true, .int .u64 t632, .int .u64 t633], .int .i64 a3] rfl (by (try simp only [List.map_toArray, List.map_cons, List.map_nil]); first | done | rfl | (simp only [List.length_drop, List.length_take]; rfl)) ?_; (with_reducible refine (impl_wide_fit.calls kj44 true t632 t633 a3 t634 t635 t636 _ A58.out).mono ?_); rintro e w69 ⟨rfl, hb⟩; refine ⟨_, rfl, ?_⟩; have n0_ := Aside0.mk (blk_below (g := gb605) (o := .cells #[.int .i64 0, .int .i64 0] 26 (0, 0)) (by (with_reducible repeat (first | refine blk_drewN ?_ _ | refine blk_drew ?_ | refine blk_alloc ?_ _)); refine blk_far ?_ NB605_623.out _; (with_reducible repeat (first | refine blk_drewN ?_ _ | refine blk_drew ?_ | refine blk_alloc ?_ _)); refine blk_far ?_ NB605_623.out _; (with_reducible repeat (first | refine blk_drewN ?_ _ | refine blk_drew ?_ | refine blk_alloc ?_ _)); refine blk_far ?_ NB605_623.out _; (with_reducible repeat (first | refine blk_drewN ?_ _ | refine blk_drew ?_ | refine blk_alloc ?_ _)); refine blk_far ?_ NB605_623.out _; (with_reducible repeat (first | refine blk_drewN ?_ _ | refine blk_drew ?_ | refine blk_alloc ?_ _)); exact BK605.out) hb); have n1_ := Aside0.mk (blk_below (g := gb612) (o := .cells #[.bool (!(decide (a0 < 0)) == (decide (a2 < 0))), .int .u64 t610, .int .u64 t611] 44 (0, 0)) (by (with_reducible repeat (first | refine blk_drewN ?_ _ | refine blk_drew ?_ | refine blk_alloc ?_ _)); refine blk_far ?_ NB612_623.out _; (with_reducible repeat (first | refine blk_drewN ?_ _ | refine blk_drew ?_ | refine blk_alloc ?_ _)); refine blk_far ?_ NB612_623.out _; (with_reducible repeat (first | refine blk_drewN ?_ _ | refine blk_drew ?_ | refine blk_alloc ?_ _)); refine blk_far ?_ NB612_623.out _; (with_reducible repeat (first | refine blk_drewN ?_ _ | refine blk_drew ?_ | refine blk_alloc ?_ _)); refine blk_far ?_ NB612_623.out _; (with_reducible repeat (first | refine blk_drewN ?_ _ | refine blk_drew ?_ | refine blk_alloc ?_ _)); exact BK612.out) hb); have n2_ := Aside0.mk (blk_below (g := gb619) (o := .cells #[.bool (!(decide (a0 < 0)) == (decide (a2 < 0))), .int .u64 t614, .int .u64 t617] 44 (0, 0)) (by (with_reducible repeat (first | refine blk_drewN ?_ _ | refine blk_drew ?_ | refine blk_alloc ?_ _)); refine blk_far ?_ NB619_623.out _; (with_reducible repeat (first | refine blk_drewN ?_ _ | refine blk_drew ?_ | refine blk_alloc ?_ _)); refine blk_far ?_ NB619_623.out _; (with_reducible repeat (first | refine blk_drewN ?_ _ | refine blk_drew ?_ | refine blk_alloc ?_ _)); refine blk_far ?_ NB619_623.out _; (with_reducible repeat (first | refine blk_drewN ?_ _ | refine blk_drew ?_ | refine blk_alloc ?_ _)); refine blk_far ?_ NB619_623.out _; (with_reducible repeat (first | refine blk_drewN ?_ _ | refine blk_drew ?_ | refine blk_alloc ?_ _)); exact BK619.out) hb); have n3_ := Aside0.mk (blk_below (g := gb623) (o := .cells #[.bool true, .int .u64 t632, .int .u64 t633] 44 (0, 0)) (by (with_reducible repeat (first | refine blk_drewN ?_ _ | refine blk_drew ?_ | refine blk_alloc ?_ _)); refine blk_put (cs := #[.bool t631, .int .u64 t632, .int .u64 t633]) ?_ 0 _ rfl; (with_reducible repeat (first | refine blk_drewN ?_ _ | refine blk_drew ?_ | refine blk_alloc ?_ _)); refine blk_put (cs := #[.bool t631, .int .u64 t632, .int .u64 t622]) ?_ 2 _ rfl; (with_reducible repeat (first | refine blk_drewN ?_ _ | refine blk_drew ?_ | refine blk_alloc ?_ _)); refine blk_put (cs := #[.bool t631, .int .u64 t621, .int .u64 t622]) ?_ 1 _ rfl; (with_reducible repeat (first | refine blk_drewN ?_ _ | refine blk_drew ?_ | refine blk_alloc ?_ _)); refine blk_put (cs := #[.bool t620, .int .u64 t621, .int .u64 t622]) ?_ 0 _ rfl; (with_reducible repeat (first | refine blk_drewN ?_ _ | refine blk_drew ?_ | refine blk_alloc ?_ _)); exact BK623.out) hb); have n4_ := Aside0.mk (below_step (by repeat (first | (with_reducible first | exact HB.out | apply below_alloc | apply pw_below_drewN | apply below_drew1 | refine below_set ?_ GE605.out | refine below_set ?_ GE612.out | refine below_set ?_ GE619.out | refine below_set ?_ GE623.out) | exact HB.out)) hb); clear BK605; clear BK612; clear BK619; clear BK623; clear HB; have BK605 := n0_; have BK612 := n1_; have BK619 := n2_; have BK623 := n3_; have HB := n4_; clear n0_ n1_ n2_ n3_ n4_; (try clear hb); (try clear hb2); (try clear hk); (try clear hi); have hnb70 := NB605_612.out; have hnc70 := NB612_605.out; have hnb71 := NB605_619.out; have hnc71 := NB619_605.out; have hcz72_0 : w69.cell? ⟨gb605, 0, none⟩ = some (.int .i64 0) := (blk_cell BK605.out 0).trans rfl; have hcz72_1 : w69.cell? ⟨gb605, 1, none⟩ = some (.int .i64 0) := (blk_cell BK605.out 1).trans rfl; have hfz72_0 := blk_frozen BK605.out 0; have hfz72_1 := blk_frozen BK605.out 1))
            refine bodyPost_ret (results_ct rfl _ _ gb605 26 #[.int .i64 t634, .int .i64 t635] (0, 0) _ rfl (by (with_reducible repeat (first | refine blk_drewN ?_ _ | refine blk_drew ?_ | refine blk_alloc ?_ _)); refine blk_put (cs := #[.int .i64 t634, .int .i64 0]) ?_ 1 _ rfl; (with_reducible repeat (first | refine blk_drewN ?_ _ | refine blk_drew ?_ | refine blk_alloc ?_ _)); refine blk_put (cs := #[.int .i64 0, .int .i64 0]) ?_ 0 _ rfl; (with_reducible repeat (first | refine blk_drewN ?_ _ | refine blk_drew ?_ | refine blk_alloc ?_ _)); exact BK605.out) Try.underlying26 rfl (by kernel_rfl)) rfl ?_
            exact ⟨by first | rfl | (simp [errW_none, errW_some] <;> rfl) | (simp only [← hji6, ← hji12]; first | rfl | (simp [errW_none, errW_some] <;> rfl)) | (simp [*, errW_none, errW_some] <;> rfl), by repeat (first | (with_reducible first | exact HB.out | apply below_alloc | apply pw_below_drewN | apply below_drew1 | refine below_set ?_ GE605.out | refine below_set ?_ GE612.out | refine below_set ?_ GE619.out | refine below_set ?_ GE623.out) | exact HB.out)⟩
          · replace c55 := Bool.eq_false_iff.mpr c55
            subst c55
            have H1 : ((impl_wide_fit.f kj44 t620 t621 t622 a3).bind fun bt637 => (some (bt637.1, bt637.2.1, bt637.2.2))) = some (r1, r2, r3) := by rw [if_neg (show ¬ (false = true) by decide)] at H; exact H
            clear H
            have H := H1
            clear H1
            replace H := Option.bind_eq_some_iff.mp H
            obtain ⟨⟨t637, t638, t639⟩, A730, H⟩ := H
            replace H : (some (t637, t638, t639)) = some (r1, r2, r3) := H
            have A73 := Aside0.mk A730
            clear A730
            simp only [Option.some.injEq, Prod.mk.injEq] at H
            obtain ⟨rfl, rfl, rfl⟩ := H
            have hnb74 := NB623_605.out
            have hnc74 := NB605_623.out
            have hnb75 := NB623_612.out
            have hnc75 := NB612_623.out
            have hnb76 := NB623_619.out
            have hnc76 := NB619_623.out
            have hcz77_0 : wc.cell? ⟨gb623, 0, none⟩ = some (.bool t620) := (blk_cell BK623.out 0).trans rfl
            have hcz77_1 : wc.cell? ⟨gb623, 1, none⟩ = some (.int .u64 t621) := (blk_cell BK623.out 1).trans rfl
            have hcz77_2 : wc.cell? ⟨gb623, 2, none⟩ = some (.int .u64 t622) := (blk_cell BK623.out 2).trans rfl
            have hfz77_0 := blk_frozen BK623.out 0
            have hfz77_1 := blk_frozen BK623.out 1
            have hfz77_2 := blk_frozen BK623.out 2
            go_wp2_with (first | ((with_reducible refine gate_callee (f := 45) rfl ?_); refine goesL_ (some 85) rfl rfl Try.func45 (by kernel_rfl) rfl #[.agg #[.bool t620, .int .u64 t621, .int .u64 t622], .int .i64 a3] rfl (by (try simp only [List.map_toArray, List.map_cons, List.map_nil]); first | done | rfl | (simp only [List.length_drop, List.length_take]; rfl)) ?_; (with_reducible refine (impl_wide_fit.calls kj44 t620 t621 t622 a3 t637 t638 t639 _ A73.out).mono ?_); rintro e w78 ⟨rfl, hb⟩; refine ⟨_, rfl, ?_⟩; have n0_ := Aside0.mk (blk_below (g := gb605) (o := .cells #[.int .i64 0, .int .i64 0] 26 (0, 0)) (by (with_reducible repeat (first | refine blk_drewN ?_ _ | refine blk_drew ?_ | refine blk_alloc ?_ _)); exact BK605.out) hb); have n1_ := Aside0.mk (blk_below (g := gb612) (o := .cells #[.bool (!(decide (a0 < 0)) == (decide (a2 < 0))), .int .u64 t610, .int .u64 t611] 44 (0, 0)) (by (with_reducible repeat (first | refine blk_drewN ?_ _ | refine blk_drew ?_ | refine blk_alloc ?_ _)); exact BK612.out) hb); have n2_ := Aside0.mk (blk_below (g := gb619) (o := .cells #[.bool (!(decide (a0 < 0)) == (decide (a2 < 0))), .int .u64 t614, .int .u64 t617] 44 (0, 0)) (by (with_reducible repeat (first | refine blk_drewN ?_ _ | refine blk_drew ?_ | refine blk_alloc ?_ _)); exact BK619.out) hb); have n3_ := Aside0.mk (blk_below (g := gb623) (o := .cells #[.bool t620, .int .u64 t621, .int .u64 t622] 44 (0, 0)) (by (with_reducible repeat (first | refine blk_drewN ?_ _ | refine blk_drew ?_ | refine blk_alloc ?_ _)); exact BK623.out) hb); have n4_ := Aside0.mk (below_step (by repeat (first | (with_reducible first | exact HB.out | apply below_alloc | apply pw_below_drewN | apply below_drew1 | refine below_set ?_ GE605.out | refine below_set ?_ GE612.out | refine below_set ?_ GE619.out | refine below_set ?_ GE623.out) | exact HB.out)) hb); clear BK605; clear BK612; clear BK619; clear BK623; clear HB; have BK605 := n0_; have BK612 := n1_; have BK619 := n2_; have BK623 := n3_; have HB := n4_; clear n0_ n1_ n2_ n3_ n4_; (try clear hb); (try clear hb2); (try clear hk); (try clear hi); have hnb79 := NB605_612.out; have hnc79 := NB612_605.out; have hnb80 := NB605_619.out; have hnc80 := NB619_605.out; have hcz81_0 : w78.cell? ⟨gb605, 0, none⟩ = some (.int .i64 0) := (blk_cell BK605.out 0).trans rfl; have hcz81_1 : w78.cell? ⟨gb605, 1, none⟩ = some (.int .i64 0) := (blk_cell BK605.out 1).trans rfl; have hfz81_0 := blk_frozen BK605.out 0; have hfz81_1 := blk_frozen BK605.out 1))
            refine bodyPost_ret (results_ct rfl _ _ gb605 26 #[.int .i64 t637, .int .i64 t638] (0, 0) _ rfl (by (with_reducible repeat (first | refine blk_drewN ?_ _ | refine blk_drew ?_ | refine blk_alloc ?_ _)); refine blk_put (cs := #[.int .i64 t637, .int .i64 0]) ?_ 1 _ rfl; (with_reducible repeat (first | refine blk_drewN ?_ _ | refine blk_drew ?_ | refine blk_alloc ?_ _)); refine blk_put (cs := #[.int .i64 0, .int .i64 0]) ?_ 0 _ rfl; (with_reducible repeat (first | refine blk_drewN ?_ _ | refine blk_drew ?_ | refine blk_alloc ?_ _)); exact BK605.out) Try.underlying26 rfl (by kernel_rfl)) rfl ?_
            exact ⟨by first | rfl | (simp [errW_none, errW_some] <;> rfl) | (simp only [← hji6, ← hji12]; first | rfl | (simp [errW_none, errW_some] <;> rfl)) | (simp [*, errW_none, errW_some] <;> rfl), by repeat (first | (with_reducible first | exact HB.out | apply below_alloc | apply pw_below_drewN | apply below_drew1 | refine below_set ?_ GE605.out | refine below_set ?_ GE612.out | refine below_set ?_ GE619.out | refine below_set ?_ GE623.out) | exact HB.out)⟩
end Go.Proofs.Ythgalpfnfidcdaa.PD
