-- By wip/mk/drv.py
import Derived.Test.YtinpcalgdiigiaaQPowealPDx0
import Derived.Test.YtinpcalgdiigiaaQPowealPDx1
import Derived.Test.YtinpcalgdiigiaaQPowealPDx3
import Derived.Test.YtinpcalgdiigiaaQPowealPDx4
import Derived.Test.YtinpcalgdiigiaaQPowealPDx11
import Derived.Test.YtinpcalgdiigiaaQPowealPDx74
import Derived.Test.YtinpcalgdiigiaaQPowealPDx88
namespace Go.Proofs.Ytinpcalgdiigiaa.PD
open Go.RowKit Go.Proofs.YtinpcalgdiigiaaW.PrintWords Go.Proofs.YtinpcalgdiigiaaW.PrintLast Go.Proofs.YtinpcalgdiigiaaW.PrintMore
attribute [local go_sem] max2_int min2_int max_two min_two max_three min_three max_four min_four
set_option linter.unusedVariables false
set_option linter.unusedSimpArgs false
/-! ### impl_PowerOfInterval: function 39 -/
theorem z39_0 {P Q : Prop} (h : Aside0 (Q)) (f : Q → P := by intro h_; repeat (first | (with_reducible first | exact h_ | apply IsS57.alloc | apply IsS57.drewN | apply IsS57.drew | apply IsS57.set_0 | refine IsS57.far ?_ (Aside0.out (by assumption)) _) | exact h_)) : P := f h.out
theorem z39_1 {w W0 W1 : World} {B : Nat} (h : Aside0 (Below B w W0)) (f : Below B w W0 → Below B w W1 := by intro h_; repeat (first | (with_reducible first | exact h_ | apply below_alloc | apply pw_below_drewN | apply below_drew1 | refine below_set ?_ (IsS57.ge (Aside0.out (by assumption))) | refine below_set ?_ (Aside0.out (by assumption))) | exact h_)) : Below B w W1 := f h.out
set_option maxHeartbeats 8000000 in
set_option maxRecDepth 100000 in
theorem impl_PowerOfInterval.calls (k : Nat) (a0_0 : Int) (a0_1 : Int) (a0_2 : Int) (a0_3 : Int) (a1 : Int) (r1 : Int) (r2 : Int) (r3 : Int) (r4 : Int) (r5 : Bool) (w : World) (h : impl_PowerOfInterval.f k a0_0 a0_1 a0_2 a0_3 a1 = some (r1, r2, r3, r4, r5)) :
  Calls Try.prog 39 #[.agg #[.int .i64 a0_0, .int .i64 a0_1, .int .i64 a0_2, .int .i64 a0_3], .int .i64 a1] w fun e w' => e = .returned (.tuple #[.agg #[.int .i64 r1, .int .i64 r2, .int .i64 r3, .int .i64 r4], .bool r5]) ∧ Below w.heap.size w w' := by
 have hu29 := Try.underlying29
 have hu57 := Try.underlying57
 have HB := Aside0.mk (Below.refl w.heap.size w)
 have H : ((impl_isInterval.f k a0_0 a0_1 a0_2 a0_3).bind fun t1033 => (if t1033 = true then ((impl_inside.f a1 0 4).bind fun t1034 => (impl_PowerOfInterval.j0 k a1 (!t1034) a0_0 a0_1 a0_2 a0_3)) else (impl_PowerOfInterval.j0 k a1 true a0_0 a0_1 a0_2 a0_3))) = some (r1, r2, r3, r4, r5) := h
 clear h
 have HC3 := Aside0.mk H
 clear H
 go_enter Try.func39, Try.ntmps39
 go_upto_region 1 with (first | ((with_reducible refine gate_dst (N := 2) rfl ?_); refine zbe (N := 2) (cs := #[.int .i64 a0_0, .int .i64 a0_1, .int .i64 a0_2, .int .i64 a0_3]) (t := 29) ?_; intro gb1031 hg w4 hbox hb; have BK1031 := Aside0.mk (hbox); have GW1031 := Aside0.mk (zge (zb0 HB) hg); have GE1031 := GW1031; replace HB := Aside0.mk (below_step (zb0 HB) hb); clear hb hbox hg) | ((with_reducible refine gate_dst (N := 4) rfl ?_); refine zbe (N := 4) (cs := #[.int .i64 0, .int .i64 0, .int .i64 0, .int .i64 0]) (t := 29) ?_; intro gb1032 hg w5 hbox hb; have BK1032 := Aside0.mk (hbox); have GW1032 := Aside0.mk (zge (zb1 HB) hg); have GE1032 := GW1032; have NB1031_1032 := Aside0.mk (zlt BK1031 hg); have NB1032_1031 := Aside0.mk (zgt BK1031 hg); replace BK1031 := Aside0.mk (zbb BK1031 hb); replace HB := Aside0.mk (below_step (zb1 HB) hb); clear hb hbox hg))
 (try simp only [Act.put, List.setIfInBounds_toArray, List.set_cons_zero, List.set_cons_succ])
 go_cut [14] (fun v14 wc => ∃ (kq : Nat) (x14_2 : Bool), v14 = .bool x14_2 ∧ Aside0 (impl_PowerOfInterval.j0 kq a1 x14_2 a0_0 a0_1 a0_2 a0_3 = some (r1, r2, r3, r4, r5)) ∧ Aside0 (kq ≤ k) ∧ Aside0 (wc.heap[gb1031]? = some (.cells #[.int .i64 a0_0, .int .i64 a0_1, .int .i64 a0_2, .int .i64 a0_3] 29 (0, 0))) ∧ Aside0 (wc.heap[gb1032]? = some (.cells #[.int .i64 0, .int .i64 0, .int .i64 0, .int .i64 0] 29 (0, 0))) ∧ Aside0 (Below w.heap.size w wc))
 case first =>
  have H := HC3.out
  clear HC3
  replace H := Option.bind_eq_some_iff.mp H
  obtain ⟨t1033, A60, H⟩ := H
  replace H : (if t1033 = true then ((impl_inside.f a1 0 4).bind fun t1034 => (impl_PowerOfInterval.j0 k a1 (!t1034) a0_0 a0_1 a0_2 a0_3)) else (impl_PowerOfInterval.j0 k a1 true a0_0 a0_1 a0_2 a0_3)) = some (r1, r2, r3, r4, r5) := H
  have A6 := Aside0.mk A60
  clear A60
  by_cases c7 : t1033 = true
  ·
   subst c7
   have H1 : ((impl_inside.f a1 0 4).bind fun t1034 => (impl_PowerOfInterval.j0 k a1 (!t1034) a0_0 a0_1 a0_2 a0_3)) = some (r1, r2, r3, r4, r5) := by rw [if_pos rfl] at H; exact H
   clear H
   have H := H1
   clear H1
   replace H := Option.bind_eq_some_iff.mp H
   obtain ⟨t1034, A80, H⟩ := H
   replace H : (impl_PowerOfInterval.j0 k a1 (!t1034) a0_0 a0_1 a0_2 a0_3) = some (r1, r2, r3, r4, r5) := H
   have A8 := Aside0.mk A80
   clear A80
   have H' := Aside0.mk H
   clear H
   have hnb9 := NB1031_1032.out
   have hnc9 := NB1032_1031.out
   have hcz10_0 : w5.cell? ⟨gb1031, 0, none⟩ = some (.int .i64 a0_0) := zc BK1031 0
   have hcz10_1 : w5.cell? ⟨gb1031, 1, none⟩ = some (.int .i64 a0_1) := zc BK1031 1
   have hcz10_2 : w5.cell? ⟨gb1031, 2, none⟩ = some (.int .i64 a0_2) := zc BK1031 2
   have hcz10_3 : w5.cell? ⟨gb1031, 3, none⟩ = some (.int .i64 a0_3) := zc BK1031 3
   have hfz10_0 := blk_frozen BK1031.out 0
   have hfz10_1 := blk_frozen BK1031.out 1
   have hfz10_2 := blk_frozen BK1031.out 2
   have hfz10_3 := blk_frozen BK1031.out 3
   go_wp2_with (first | ((with_reducible refine gate_callee (f := 44) rfl ?_); refine goesL_ (some 8) rfl rfl Try.func44 (by kernel_rfl) rfl #[.agg #[.int .i64 a0_0, .int .i64 a0_1, .int .i64 a0_2, .int .i64 a0_3]] rfl zq6 ?_; (with_reducible refine (impl_isInterval.calls k a0_0 a0_1 a0_2 a0_3 true _ A6.out).mono ?_); rintro e w11 ⟨rfl, hb⟩; refine ⟨_, rfl, ?_⟩; replace BK1031 := Aside0.mk (zbb BK1031 hb); replace BK1032 := Aside0.mk (zbb BK1032 hb); replace HB := Aside0.mk (below_step (zb1 HB) hb); (try clear hb); (try clear hb2); (try clear hk); (try clear hi)) | (go_at_call 70; (with_reducible refine (impl_inside.calls a1 0 4 t1034 _ A8.out).mono ?_); rintro e w' ⟨rfl, ⟨nd, rfl⟩⟩))
   go_meet
   case rel => exact ⟨_, (!t1034), (by first | rfl | (simp; done) | (simp [*]; done)), H', ⟨by first | omega | exact Nat.le_refl _⟩, ⟨by (with_reducible repeat (first | refine blk_drewN ?_ _ | refine blk_drew ?_ | refine blk_alloc ?_ _)); exact BK1031.out⟩, ⟨by (with_reducible repeat (first | refine blk_drewN ?_ _ | refine blk_drew ?_ | refine blk_alloc ?_ _)); exact BK1032.out⟩, ⟨(zb1 HB)⟩⟩
  ·
   replace c7 := Bool.eq_false_iff.mpr c7
   subst c7
   have H1 : (impl_PowerOfInterval.j0 k a1 true a0_0 a0_1 a0_2 a0_3) = some (r1, r2, r3, r4, r5) := by rw [if_neg (show ¬ (false = true) by decide)] at H; exact H
   clear H
   have H := H1
   clear H1
   have H' := Aside0.mk H
   clear H
   have hnb12 := NB1031_1032.out
   have hnc12 := NB1032_1031.out
   have hcz13_0 : w5.cell? ⟨gb1031, 0, none⟩ = some (.int .i64 a0_0) := zc BK1031 0
   have hcz13_1 : w5.cell? ⟨gb1031, 1, none⟩ = some (.int .i64 a0_1) := zc BK1031 1
   have hcz13_2 : w5.cell? ⟨gb1031, 2, none⟩ = some (.int .i64 a0_2) := zc BK1031 2
   have hcz13_3 : w5.cell? ⟨gb1031, 3, none⟩ = some (.int .i64 a0_3) := zc BK1031 3
   have hfz13_0 := blk_frozen BK1031.out 0
   have hfz13_1 := blk_frozen BK1031.out 1
   have hfz13_2 := blk_frozen BK1031.out 2
   have hfz13_3 := blk_frozen BK1031.out 3
   go_wp2_with (first | ((with_reducible refine gate_callee (f := 44) rfl ?_); refine goesL_ (some 8) rfl rfl Try.func44 (by kernel_rfl) rfl #[.agg #[.int .i64 a0_0, .int .i64 a0_1, .int .i64 a0_2, .int .i64 a0_3]] rfl zq6 ?_; (with_reducible refine (impl_isInterval.calls k a0_0 a0_1 a0_2 a0_3 false _ A6.out).mono ?_); rintro e w14 ⟨rfl, hb⟩; refine ⟨_, rfl, ?_⟩; replace BK1031 := Aside0.mk (zbb BK1031 hb); replace BK1032 := Aside0.mk (zbb BK1032 hb); replace HB := Aside0.mk (below_step (zb1 HB) hb); (try clear hb); (try clear hb2); (try clear hk); (try clear hi)))
   go_meet
   case rel => exact ⟨_, (true), (by first | rfl | (simp; done) | (simp [*]; done)), H', ⟨by first | omega | exact Nat.le_refl _⟩, ⟨by (with_reducible repeat (first | refine blk_drewN ?_ _ | refine blk_drew ?_ | refine blk_alloc ?_ _)); exact BK1031.out⟩, ⟨by (with_reducible repeat (first | refine blk_drewN ?_ _ | refine blk_drew ?_ | refine blk_alloc ?_ _)); exact BK1032.out⟩, ⟨(zb1 HB)⟩⟩
 case rest =>
  clear HC3
  try clear c1
  try clear p2
  try clear c3
  try clear c4
  try clear c7
  try clear c9
  try clear c12
  try clear hcz10_0
  try clear hcz10_1
  try clear hcz10_2
  try clear hcz10_3
  try clear hcz13_0
  try clear hcz13_1
  try clear hcz13_2
  try clear hcz13_3
  try clear hfz10_0
  try clear hfz10_1
  try clear hfz10_2
  try clear hfz10_3
  try clear hfz13_0
  try clear hfz13_1
  try clear hfz13_2
  try clear hfz13_3
  obtain ⟨kq, x14_2, rfl, HA, HJ2, BK1031, BK1032, HB⟩ := hcut
  cases kq with
  | zero => exact absurd HA.out (by simp [impl_PowerOfInterval.j0])
  | succ kj2 =>
   have H := HA.out
   clear HA
   simp only [impl_PowerOfInterval.j0] at H
   by_cases c15 : x14_2 = true
   ·
    subst c15
    have H1 : (some (0, 0, 0, 0, false)) = some (r1, r2, r3, r4, r5) := by rw [if_pos rfl] at H; exact H
    clear H
    have H := H1
    clear H1
    simp only [Option.some.injEq, Prod.mk.injEq] at H
    obtain ⟨rfl, rfl, rfl, rfl, rfl⟩ := H
    have hnb16 := NB1032_1031.out
    have hnc16 := NB1031_1032.out
    have hcz17_0 : wc.cell? ⟨gb1032, 0, none⟩ = some (.int .i64 0) := zc BK1032 0
    have hcz17_1 : wc.cell? ⟨gb1032, 1, none⟩ = some (.int .i64 0) := zc BK1032 1
    have hcz17_2 : wc.cell? ⟨gb1032, 2, none⟩ = some (.int .i64 0) := zc BK1032 2
    have hcz17_3 : wc.cell? ⟨gb1032, 3, none⟩ = some (.int .i64 0) := zc BK1032 3
    have hfz17_0 := blk_frozen BK1032.out 0
    have hfz17_1 := blk_frozen BK1032.out 1
    have hfz17_2 := blk_frozen BK1032.out 2
    have hfz17_3 := blk_frozen BK1032.out 3
    go_wp2
    refine bodyPost_ret (results_ct rfl _ _ gb1032 29 #[.int .i64 0, .int .i64 0, .int .i64 0, .int .i64 0] (0, 0) _ rfl (by (with_reducible repeat (first | refine blk_drewN ?_ _ | refine blk_drew ?_ | refine blk_alloc ?_ _)); refine blk_put (cs := #[.int .i64 0, .int .i64 0, .int .i64 0, .int .i64 0]) ?_ 3 _ rfl; (with_reducible repeat (first | refine blk_drewN ?_ _ | refine blk_drew ?_ | refine blk_alloc ?_ _)); refine blk_put (cs := #[.int .i64 0, .int .i64 0, .int .i64 0, .int .i64 0]) ?_ 2 _ rfl; (with_reducible repeat (first | refine blk_drewN ?_ _ | refine blk_drew ?_ | refine blk_alloc ?_ _)); refine blk_put (cs := #[.int .i64 0, .int .i64 0, .int .i64 0, .int .i64 0]) ?_ 1 _ rfl; (with_reducible repeat (first | refine blk_drewN ?_ _ | refine blk_drew ?_ | refine blk_alloc ?_ _)); refine blk_put (cs := #[.int .i64 0, .int .i64 0, .int .i64 0, .int .i64 0]) ?_ 0 _ rfl; (with_reducible repeat (first | refine blk_drewN ?_ _ | refine blk_drew ?_ | refine blk_alloc ?_ _)); exact BK1032.out) Try.underlying29 rfl (by kernel_rfl)) rfl ?_
    exact ⟨by first | rfl | (simp [errW_none, errW_some] <;> rfl) | (simp [*, errW_none, errW_some] <;> rfl), (zb1 HB)⟩
   ·
    replace c15 := Bool.eq_false_iff.mpr c15
    subst c15
    have H1 : ((impl_reckoner_power.f kj2 true a0_0 a0_1 a0_2 a0_3 a1).bind fun bt1036 => ((impl_reckoner_result.f bt1036.2.2.2.2 bt1036.1 bt1036.2.1 bt1036.2.2.1 bt1036.2.2.2.1).bind fun bt1041 => (some (bt1041.1, bt1041.2.1, bt1041.2.2.1, bt1041.2.2.2.1, bt1041.2.2.2.2.1)))) = some (r1, r2, r3, r4, r5) := by rw [if_neg (show ¬ (false = true) by decide)] at H; exact H
    clear H
    have H := H1
    clear H1
    replace H := Option.bind_eq_some_iff.mp H
    obtain ⟨⟨t1036, t1037, t1038, t1039, t1040⟩, A180, H⟩ := H
    replace H : ((impl_reckoner_result.f t1040 t1036 t1037 t1038 t1039).bind fun bt1041 => (some (bt1041.1, bt1041.2.1, bt1041.2.2.1, bt1041.2.2.2.1, bt1041.2.2.2.2.1))) = some (r1, r2, r3, r4, r5) := H
    have A18 := Aside0.mk A180
    clear A180
    replace H := Option.bind_eq_some_iff.mp H
    obtain ⟨⟨t1041, t1042, t1043, t1044, t1045, t1046⟩, A190, H⟩ := H
    replace H : (some (t1041, t1042, t1043, t1044, t1045)) = some (r1, r2, r3, r4, r5) := H
    have A19 := Aside0.mk A190
    clear A190
    simp only [Option.some.injEq, Prod.mk.injEq] at H
    obtain ⟨rfl, rfl, rfl, rfl, rfl⟩ := H
    go_wp2_with (first | ((with_reducible refine gate_dst (N := 17) rfl ?_); refine zbe (N := 17) (cs := #[.bool true]) (t := 57) ?_; intro gb1035 hg w20 hbox hb; have BK1035 := Aside0.mk (hbox); have GW1035 := Aside0.mk (zge (zb1 HB) hg); have GE1035 := GW1035; have NB1031_1035 := Aside0.mk (zlt BK1031 hg); have NB1035_1031 := Aside0.mk (zgt BK1031 hg); have NB1032_1035 := Aside0.mk (zlt BK1032 hg); have NB1035_1032 := Aside0.mk (zgt BK1032 hg); replace BK1031 := Aside0.mk (zbb BK1031 hb); replace BK1032 := Aside0.mk (zbb BK1032 hb); replace HB := Aside0.mk (below_step (zb1 HB) hb); clear hb hbox hg; have hnb21 := NB1031_1032.out; have hnc21 := NB1032_1031.out; have hnb22 := NB1031_1035.out; have hnc22 := NB1035_1031.out; have hcz23_0 : w20.cell? ⟨gb1031, 0, none⟩ = some (.int .i64 a0_0) := zc BK1031 0; have hcz23_1 : w20.cell? ⟨gb1031, 1, none⟩ = some (.int .i64 a0_1) := zc BK1031 1; have hcz23_2 : w20.cell? ⟨gb1031, 2, none⟩ = some (.int .i64 a0_2) := zc BK1031 2; have hcz23_3 : w20.cell? ⟨gb1031, 3, none⟩ = some (.int .i64 a0_3) := zc BK1031 3; have hfz23_0 := blk_frozen BK1031.out 0; have hfz23_1 := blk_frozen BK1031.out 1; have hfz23_2 := blk_frozen BK1031.out 2; have hfz23_3 := blk_frozen BK1031.out 3; have HI1035 : Aside0 (IsS57 w w20 gb1035 true) := ⟨⟨(zq1 BK1035), GE1035.out⟩⟩) | ((with_reducible refine gate_callee (f := 71) rfl ?_); refine goesL_ (some 22) rfl rfl Try.func71 (by kernel_rfl) rfl #[.pointer (some ⟨gb1035, 0, none⟩), .agg #[.int .i64 a0_0, .int .i64 a0_1, .int .i64 a0_2, .int .i64 a0_3], .int .i64 a1] rfl zq6 ?_; (with_reducible refine (impl_reckoner_power.calls kj2 gb1035 true a0_0 a0_1 a0_2 a0_3 a1 t1036 t1037 t1038 t1039 t1040 w _ ?side1 ?side2 A18.out).mono ?_); (case side1 => exact z39_0 HI1035); (case side2 => exact z39_1 HB); rintro e w24 ⟨rfl, hi, hb, hk⟩; refine ⟨_, rfl, ?_⟩; replace BK1031 := Aside0.mk (KeepBut.blk hk (zq1 BK1031) NB1031_1035.out (by simp)); replace BK1032 := Aside0.mk (KeepBut.blk hk (zq1 BK1032) NB1032_1035.out (by simp)); replace HB := Aside0.mk (hb); replace HI1035 := Aside0.mk (hi); (try clear hb); (try clear hb2); (try clear hk); (try clear hi)) | ((with_reducible refine gate_callee (f := 63) rfl ?_); refine goesL_ (some 23) rfl rfl Try.func63 (by kernel_rfl) rfl #[.pointer (some ⟨gb1035, 0, none⟩), .agg #[.int .i64 t1036, .int .i64 t1037, .int .i64 t1038, .int .i64 t1039]] rfl zq6 ?_; (with_reducible refine (impl_reckoner_result.calls gb1035 t1040 t1036 t1037 t1038 t1039 t1041 t1042 t1043 t1044 t1045 t1046 w _ ?side1 ?side2 A19.out).mono ?_); (case side1 => exact z39_0 HI1035); (case side2 => exact z39_1 HB); rintro e w25 ⟨rfl, hi, hb, hk⟩; refine ⟨_, rfl, ?_⟩; replace BK1031 := Aside0.mk (KeepBut.blk hk (zq1 BK1031) NB1031_1035.out (by simp)); replace BK1032 := Aside0.mk (KeepBut.blk hk (zq1 BK1032) NB1032_1035.out (by simp)); replace HB := Aside0.mk (hb); replace HI1035 := Aside0.mk (hi); (try clear hb); (try clear hb2); (try clear hk); (try clear hi); have hnb26 := NB1032_1035.out; have hnc26 := NB1035_1032.out; have hcz27_0 : w25.cell? ⟨gb1032, 0, none⟩ = some (.int .i64 0) := zc BK1032 0; have hcz27_1 : w25.cell? ⟨gb1032, 1, none⟩ = some (.int .i64 0) := zc BK1032 1; have hcz27_2 : w25.cell? ⟨gb1032, 2, none⟩ = some (.int .i64 0) := zc BK1032 2; have hcz27_3 : w25.cell? ⟨gb1032, 3, none⟩ = some (.int .i64 0) := zc BK1032 3; have hfz27_0 := blk_frozen BK1032.out 0; have hfz27_1 := blk_frozen BK1032.out 1; have hfz27_2 := blk_frozen BK1032.out 2; have hfz27_3 := blk_frozen BK1032.out 3))
    refine bodyPost_ret (results_ct rfl _ _ gb1032 29 #[.int .i64 t1041, .int .i64 t1042, .int .i64 t1043, .int .i64 t1044] (0, 0) _ rfl (by (with_reducible repeat (first | refine blk_drewN ?_ _ | refine blk_drew ?_ | refine blk_alloc ?_ _)); refine blk_put (cs := #[.int .i64 t1041, .int .i64 t1042, .int .i64 t1043, .int .i64 0]) ?_ 3 _ rfl; (with_reducible repeat (first | refine blk_drewN ?_ _ | refine blk_drew ?_ | refine blk_alloc ?_ _)); refine blk_put (cs := #[.int .i64 t1041, .int .i64 t1042, .int .i64 0, .int .i64 0]) ?_ 2 _ rfl; (with_reducible repeat (first | refine blk_drewN ?_ _ | refine blk_drew ?_ | refine blk_alloc ?_ _)); refine blk_put (cs := #[.int .i64 t1041, .int .i64 0, .int .i64 0, .int .i64 0]) ?_ 1 _ rfl; (with_reducible repeat (first | refine blk_drewN ?_ _ | refine blk_drew ?_ | refine blk_alloc ?_ _)); refine blk_put (cs := #[.int .i64 0, .int .i64 0, .int .i64 0, .int .i64 0]) ?_ 0 _ rfl; (with_reducible repeat (first | refine blk_drewN ?_ _ | refine blk_drew ?_ | refine blk_alloc ?_ _)); exact BK1032.out) Try.underlying29 rfl (by kernel_rfl)) rfl ?_
    exact ⟨by first | rfl | (simp [errW_none, errW_some] <;> rfl) | (simp [*, errW_none, errW_some] <;> rfl), (z39_1 HB)⟩
end Go.Proofs.Ytinpcalgdiigiaa.PD
