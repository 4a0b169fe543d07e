-- By wip/mk/drv.py
import Derived.Test.YtinpcalgdiigiaaQDivilsPDx0
import Derived.Test.YtinpcalgdiigiaaQDivilsPDx1
import Derived.Test.YtinpcalgdiigiaaQDivilsPDx2
import Derived.Test.YtinpcalgdiigiaaQDivilsPDx3
import Derived.Test.YtinpcalgdiigiaaQDivilsPDx34
import Derived.Test.YtinpcalgdiigiaaQDivilsPDx77
namespace Go.Proofs.Ytinpcalgdiigiaa.PD
open Go.RowKit Go.Proofs.YtinpcalgdiigiaaW.PrintWords Go.Proofs.YtinpcalgdiigiaaW.PrintLast Go.Proofs.YtinpcalgdiigiaaW.PrintMore
attribute [local go_sem] max2_int min2_int max_two min_two max_three min_three max_four min_four
set_option linter.unusedVariables false
set_option linter.unusedSimpArgs false
/-! ### spec_dyDivide: function 99 -/
set_option maxHeartbeats 8000000 in
set_option maxRecDepth 100000 in
theorem spec_dyDivide.calls (k : Nat) (a0_0 : Int) (a0_1 : Int) (a1_0 : Int) (a1_1 : Int) (a2 : Int) (r1 : Int) (r2 : Int) (r3 : Bool) (w : World) (h : spec_dyDivide.f k a0_0 a0_1 a1_0 a1_1 a2 = some (r1, r2, r3)) :
  Calls Try.prog 99 #[.agg #[.int .i64 a0_0, .int .i64 a0_1], .agg #[.int .i64 a1_0, .int .i64 a1_1], .int .i64 a2] w fun e w' => e = .returned (.tuple #[.agg #[.int .i64 r1, .int .i64 r2], .bool r3]) ∧ Below w.heap.size w w' := by
 have hu27 := Try.underlying27
 have HB := Aside0.mk (Below.refl w.heap.size w)
 have H : (if a1_0 = 0 then (some (0, 0, false)) else (if a1_0 < 0 then ((spec_dyMinus.f a0_0 a0_1).bind fun bt1079 => ((spec_dyMinus.f a1_0 a1_1).bind fun bt1081 => (spec_dyDivide.j0 k a2 bt1079.1 bt1079.2 bt1081.1 bt1081.2))) else (spec_dyDivide.j0 k a2 a0_0 a0_1 a1_0 a1_1))) = some (r1, r2, r3) := h
 clear h
 by_cases c4 : a1_0 = 0
 ·
  rw [if_pos c4] at H
  have c4b0 : (a1_0 == 0) = true := beq_iff_eq.mpr c4
  have c4b1 : (a1_0 != 0) = false := bne_eq_false_iff_eq.mpr c4
  clear c4
  simp only [Option.some.injEq, Prod.mk.injEq] at H
  obtain ⟨rfl, rfl, rfl⟩ := H
  go_enter Try.func99, Try.ntmps99
  go_wp2_with (first | ((with_reducible refine gate_dst (N := 3) rfl ?_); refine zbe (N := 3) (cs := #[.int .i64 a0_0, .int .i64 a0_1]) (t := 27) ?_; intro gb1076 hg w5 hbox hb; have BK1076 := Aside0.mk (hbox); have GW1076 := Aside0.mk (zge (zb0 HB) hg); have GE1076 := GW1076; replace HB := Aside0.mk (below_step (zb0 HB) hb); clear hb hbox hg) | ((with_reducible refine gate_dst (N := 4) rfl ?_); refine zbe (N := 4) (cs := #[.int .i64 a1_0, .int .i64 a1_1]) (t := 27) ?_; intro gb1077 hg w6 hbox hb; have BK1077 := Aside0.mk (hbox); have GW1077 := Aside0.mk (zge (zb1 HB) hg); have GE1077 := GW1077; have NB1076_1077 := Aside0.mk (zlt BK1076 hg); have NB1077_1076 := Aside0.mk (zgt BK1076 hg); replace BK1076 := Aside0.mk (zbb BK1076 hb); replace HB := Aside0.mk (below_step (zb1 HB) hb); clear hb hbox hg) | ((with_reducible refine gate_dst (N := 6) rfl ?_); refine zbe (N := 6) (cs := #[.int .i64 0, .int .i64 0]) (t := 27) ?_; intro gb1078 hg w7 hbox hb; have BK1078 := Aside0.mk (hbox); have GW1078 := Aside0.mk (zge (zb1 HB) hg); have GE1078 := GW1078; have NB1076_1078 := Aside0.mk (zlt BK1076 hg); have NB1078_1076 := Aside0.mk (zgt BK1076 hg); have NB1077_1078 := Aside0.mk (zlt BK1077 hg); have NB1078_1077 := Aside0.mk (zgt BK1077 hg); replace BK1076 := Aside0.mk (zbb BK1076 hb); replace BK1077 := Aside0.mk (zbb BK1077 hb); replace HB := Aside0.mk (below_step (zb1 HB) hb); clear hb hbox hg; have hnb8 := NB1077_1076.out; have hnc8 := NB1076_1077.out; have hnb9 := NB1077_1078.out; have hnc9 := NB1078_1077.out; have hcz10_0 : w7.cell? ⟨gb1077, 0, none⟩ = some (.int .i64 a1_0) := zc BK1077 0; have hcz10_1 : w7.cell? ⟨gb1077, 1, none⟩ = some (.int .i64 a1_1) := zc BK1077 1; have hfz10_0 := blk_frozen BK1077.out 0; have hfz10_1 := blk_frozen BK1077.out 1; have hnb11 := NB1078_1076.out; have hnc11 := NB1076_1078.out; have hcz12_0 : w7.cell? ⟨gb1078, 0, none⟩ = some (.int .i64 0) := zc BK1078 0; have hcz12_1 : w7.cell? ⟨gb1078, 1, none⟩ = some (.int .i64 0) := zc BK1078 1; have hfz12_0 := blk_frozen BK1078.out 0; have hfz12_1 := blk_frozen BK1078.out 1))
  refine bodyPost_ret (results_ct rfl _ _ gb1078 27 #[.int .i64 0, .int .i64 0] (0, 0) _ rfl (by (with_reducible repeat (first | refine blk_drewN ?_ _ | refine blk_drew ?_ | refine blk_alloc ?_ _)); refine blk_put (cs := #[.int .i64 0, .int .i64 0]) ?_ 1 _ rfl; (with_reducible repeat (first | refine blk_drewN ?_ _ | refine blk_drew ?_ | refine blk_alloc ?_ _)); refine blk_put (cs := #[.int .i64 0, .int .i64 0]) ?_ 0 _ rfl; (with_reducible repeat (first | refine blk_drewN ?_ _ | refine blk_drew ?_ | refine blk_alloc ?_ _)); exact BK1078.out) Try.underlying27 rfl (by kernel_rfl)) rfl ?_
  exact ⟨by first | rfl | (simp [errW_none, errW_some] <;> rfl) | (simp [*, errW_none, errW_some] <;> rfl), (zb1 HB)⟩
 ·
  rw [if_neg c4] at H
  have c4b0 : (a1_0 == 0) = false := beq_eq_false_iff_ne.mpr c4
  have c4b1 : (a1_0 != 0) = true := bne_iff_ne.mpr c4
  have HC13 := Aside0.mk H
  clear H
  go_enter Try.func99, Try.ntmps99
  go_upto_if 16 with (first | ((with_reducible refine gate_dst (N := 3) rfl ?_); refine zbe (N := 3) (cs := #[.int .i64 a0_0, .int .i64 a0_1]) (t := 27) ?_; intro gb1076 hg w14 hbox hb; have BK1076 := Aside0.mk (hbox); have GW1076 := Aside0.mk (zge (zb0 HB) hg); have GE1076 := GW1076; replace HB := Aside0.mk (below_step (zb0 HB) hb); clear hb hbox hg) | ((with_reducible refine gate_dst (N := 4) rfl ?_); refine zbe (N := 4) (cs := #[.int .i64 a1_0, .int .i64 a1_1]) (t := 27) ?_; intro gb1077 hg w15 hbox hb; have BK1077 := Aside0.mk (hbox); have GW1077 := Aside0.mk (zge (zb1 HB) hg); have GE1077 := GW1077; have NB1076_1077 := Aside0.mk (zlt BK1076 hg); have NB1077_1076 := Aside0.mk (zgt BK1076 hg); replace BK1076 := Aside0.mk (zbb BK1076 hb); replace HB := Aside0.mk (below_step (zb1 HB) hb); clear hb hbox hg) | ((with_reducible refine gate_dst (N := 6) rfl ?_); refine zbe (N := 6) (cs := #[.int .i64 0, .int .i64 0]) (t := 27) ?_; intro gb1078 hg w16 hbox hb; have BK1078 := Aside0.mk (hbox); have GW1078 := Aside0.mk (zge (zb1 HB) hg); have GE1078 := GW1078; have NB1076_1078 := Aside0.mk (zlt BK1076 hg); have NB1078_1076 := Aside0.mk (zgt BK1076 hg); have NB1077_1078 := Aside0.mk (zlt BK1077 hg); have NB1078_1077 := Aside0.mk (zgt BK1077 hg); replace BK1076 := Aside0.mk (zbb BK1076 hb); replace BK1077 := Aside0.mk (zbb BK1077 hb); replace HB := Aside0.mk (below_step (zb1 HB) hb); clear hb hbox hg; have hnb17 := NB1077_1076.out; have hnc17 := NB1076_1077.out; have hnb18 := NB1077_1078.out; have hnc18 := NB1078_1077.out; have hcz19_0 : w16.cell? ⟨gb1077, 0, none⟩ = some (.int .i64 a1_0) := zc BK1077 0; have hcz19_1 : w16.cell? ⟨gb1077, 1, none⟩ = some (.int .i64 a1_1) := zc BK1077 1; have hfz19_0 := blk_frozen BK1077.out 0; have hfz19_1 := blk_frozen BK1077.out 1))
  (try simp only [Act.put, List.setIfInBounds_toArray, List.set_cons_zero, List.set_cons_succ])
  go_cut [] (fun wc => ∃ (kq : Nat) (x1077000_12 : Int) (x1077001_12 : Int) (x1078000_12 : Int) (x1078001_12 : Int), Aside0 (spec_dyDivide.j0 kq a2 x1077000_12 x1077001_12 x1078000_12 x1078001_12 = some (r1, r2, r3)) ∧ Aside0 (kq ≤ k) ∧ Aside0 (wc.heap[gb1076]? = some (.cells #[.int .i64 x1077000_12, .int .i64 x1077001_12] 27 (0, 0))) ∧ Aside0 (wc.heap[gb1077]? = some (.cells #[.int .i64 x1078000_12, .int .i64 x1078001_12] 27 (0, 0))) ∧ Aside0 (wc.heap[gb1078]? = some (.cells #[.int .i64 0, .int .i64 0] 27 (0, 0))) ∧ Aside0 (Below w.heap.size w wc))
  case first =>
   have H := HC13.out
   clear HC13
   by_cases c20 : a1_0 < 0
   ·
    rw [if_pos c20] at H
    have c20b0 : decide (a1_0 < 0) = true := decide_eq_true c20
    clear c20
    (first | rw [c20b0] | (simp only [i64_w, i32_w]; rw [c20b0]) | skip)
    replace H := Option.bind_eq_some_iff.mp H
    obtain ⟨⟨t1079, t1080⟩, A210, H⟩ := H
    replace H : ((spec_dyMinus.f a1_0 a1_1).bind fun bt1081 => (spec_dyDivide.j0 k a2 t1079 t1080 bt1081.1 bt1081.2)) = some (r1, r2, r3) := H
    have A21 := Aside0.mk A210
    clear A210
    replace H := Option.bind_eq_some_iff.mp H
    obtain ⟨⟨t1081, t1082⟩, A220, H⟩ := H
    replace H : (spec_dyDivide.j0 k a2 t1079 t1080 t1081 t1082) = some (r1, r2, r3) := H
    have A22 := Aside0.mk A220
    clear A220
    have H' := Aside0.mk H
    clear H
    have hnb23 := NB1076_1077.out
    have hnc23 := NB1077_1076.out
    have hnb24 := NB1076_1078.out
    have hnc24 := NB1078_1076.out
    have hcz25_0 : w16.cell? ⟨gb1076, 0, none⟩ = some (.int .i64 a0_0) := zc BK1076 0
    have hcz25_1 : w16.cell? ⟨gb1076, 1, none⟩ = some (.int .i64 a0_1) := zc BK1076 1
    have hfz25_0 := blk_frozen BK1076.out 0
    have hfz25_1 := blk_frozen BK1076.out 1
    go_wp2_with (first | ((with_reducible refine gate_callee (f := 87) rfl ?_); refine goesL_ (some 18) rfl rfl Try.func87 (by kernel_rfl) rfl #[.agg #[.int .i64 a0_0, .int .i64 a0_1]] rfl zq6 ?_; (with_reducible refine (spec_dyMinus.calls a0_0 a0_1 t1079 t1080 _ A21.out).mono ?_); rintro e w26 ⟨rfl, hb⟩; refine ⟨_, rfl, ?_⟩; replace BK1076 := Aside0.mk (zbb BK1076 hb); replace BK1077 := Aside0.mk (zbb BK1077 hb); replace BK1078 := Aside0.mk (zbb BK1078 hb); replace HB := Aside0.mk (below_step (zb1 HB) hb); (try clear hb); (try clear hb2); (try clear hk); (try clear hi); have hcz27_0 : w26.cell? ⟨gb1076, 0, none⟩ = some (.int .i64 a0_0) := zc BK1076 0; have hcz27_1 : w26.cell? ⟨gb1076, 1, none⟩ = some (.int .i64 a0_1) := zc BK1076 1; have hfz27_0 := blk_frozen BK1076.out 0; have hfz27_1 := blk_frozen BK1076.out 1; have hnb28 := NB1077_1078.out; have hnc28 := NB1078_1077.out; have hcz29_0 : w26.cell? ⟨gb1077, 0, none⟩ = some (.int .i64 a1_0) := zc BK1077 0; have hcz29_1 : w26.cell? ⟨gb1077, 1, none⟩ = some (.int .i64 a1_1) := zc BK1077 1; have hfz29_0 := blk_frozen BK1077.out 0; have hfz29_1 := blk_frozen BK1077.out 1) | ((with_reducible refine gate_callee (f := 87) rfl ?_); refine goesL_ (some 20) rfl rfl Try.func87 (by kernel_rfl) rfl #[.agg #[.int .i64 a1_0, .int .i64 a1_1]] rfl zq6 ?_; (with_reducible refine (spec_dyMinus.calls a1_0 a1_1 t1081 t1082 _ A22.out).mono ?_); rintro e w30 ⟨rfl, hb⟩; refine ⟨_, rfl, ?_⟩; replace BK1076 := Aside0.mk (blk_below (g := gb1076) (o := .cells #[.int .i64 t1079, .int .i64 t1080] 27 (0, 0)) (by (with_reducible repeat (first | refine blk_drewN ?_ _ | refine blk_drew ?_ | refine blk_alloc ?_ _)); refine blk_put (cs := #[.int .i64 t1079, .int .i64 a0_1]) ?_ 1 _ rfl; (with_reducible repeat (first | refine blk_drewN ?_ _ | refine blk_drew ?_ | refine blk_alloc ?_ _)); refine blk_put (cs := #[.int .i64 a0_0, .int .i64 a0_1]) ?_ 0 _ rfl; (with_reducible repeat (first | refine blk_drewN ?_ _ | refine blk_drew ?_ | refine blk_alloc ?_ _)); exact BK1076.out) hb); replace BK1077 := Aside0.mk (blk_below (g := gb1077) (o := .cells #[.int .i64 a1_0, .int .i64 a1_1] 27 (0, 0)) (zq5 BK1077) hb); replace BK1078 := Aside0.mk (blk_below (g := gb1078) (o := .cells #[.int .i64 0, .int .i64 0] 27 (0, 0)) (zq5 BK1078) hb); replace HB := Aside0.mk (below_step (zb1 HB) hb); (try clear hb); (try clear hb2); (try clear hk); (try clear hi); have hcz31_0 : w30.cell? ⟨gb1077, 0, none⟩ = some (.int .i64 a1_0) := zc BK1077 0; have hcz31_1 : w30.cell? ⟨gb1077, 1, none⟩ = some (.int .i64 a1_1) := zc BK1077 1; have hfz31_0 := blk_frozen BK1077.out 0; have hfz31_1 := blk_frozen BK1077.out 1))
    go_meet
    case rel => exact ⟨_, (t1079), (t1080), (t1081), (t1082), H', ⟨by first | omega | exact Nat.le_refl _⟩, ⟨zq5 BK1076⟩, ⟨by (with_reducible repeat (first | refine blk_drewN ?_ _ | refine blk_drew ?_ | refine blk_alloc ?_ _)); refine blk_put (cs := #[.int .i64 t1081, .int .i64 a1_1]) ?_ 1 _ rfl; (with_reducible repeat (first | refine blk_drewN ?_ _ | refine blk_drew ?_ | refine blk_alloc ?_ _)); refine blk_put (cs := #[.int .i64 a1_0, .int .i64 a1_1]) ?_ 0 _ rfl; (with_reducible repeat (first | refine blk_drewN ?_ _ | refine blk_drew ?_ | refine blk_alloc ?_ _)); exact BK1077.out⟩, ⟨zq5 BK1078⟩, ⟨(zb1 HB)⟩⟩
   ·
    rw [if_neg c20] at H
    have c20b0 : decide (a1_0 < 0) = false := decide_eq_false c20
    clear c20
    (first | rw [c20b0] | (simp only [i64_w, i32_w]; rw [c20b0]) | skip)
    have H' := Aside0.mk H
    clear H
    go_wp2
    go_meet
    case rel => exact ⟨_, (a0_0), (a0_1), (a1_0), (a1_1), H', ⟨by first | omega | exact Nat.le_refl _⟩, ⟨by (with_reducible repeat (first | refine blk_drewN ?_ _ | refine blk_drew ?_ | refine blk_alloc ?_ _)); exact BK1076.out⟩, ⟨by (with_reducible repeat (first | refine blk_drewN ?_ _ | refine blk_drew ?_ | refine blk_alloc ?_ _)); exact BK1077.out⟩, ⟨by (with_reducible repeat (first | refine blk_drewN ?_ _ | refine blk_drew ?_ | refine blk_alloc ?_ _)); exact BK1078.out⟩, ⟨(zb1 HB)⟩⟩
  case rest =>
   clear HC13
   try clear c1
   try clear c2
   try clear p2
   try clear c4
   try clear c4b0
   try clear c4b1
   try clear c8
   try clear c9
   try clear c11
   try clear c17
   try clear c18
   try clear c20
   try clear c20b0
   try clear c23
   try clear c24
   try clear c28
   try clear hcz10_0
   try clear hcz10_1
   try clear hcz12_0
   try clear hcz12_1
   try clear hcz19_0
   try clear hcz19_1
   try clear hcz25_0
   try clear hcz25_1
   try clear hcz27_0
   try clear hcz27_1
   try clear hcz29_0
   try clear hcz29_1
   try clear hcz31_0
   try clear hcz31_1
   try clear hfz10_0
   try clear hfz10_1
   try clear hfz12_0
   try clear hfz12_1
   try clear hfz19_0
   try clear hfz19_1
   try clear hfz25_0
   try clear hfz25_1
   try clear hfz27_0
   try clear hfz27_1
   try clear hfz29_0
   try clear hfz29_1
   try clear hfz31_0
   try clear hfz31_1
   obtain ⟨kq, x1077000_12, x1077001_12, x1078000_12, x1078001_12, HA, HJ12, BK1076, BK1077, BK1078, HB⟩ := hcut
   cases kq with
   | zero => exact absurd HA.out (by simp [spec_dyDivide.j0])
   | succ kj12 =>
    have H := HA.out
    clear HA
    simp only [spec_dyDivide.j0] at H
    replace H := Option.bind_eq_some_iff.mp H
    obtain ⟨t1083, A320, H⟩ := H
    replace H : (if (wrap64 ((wrap64 (x1078001_12 + a2)) - x1077001_12)) < 0 then ((spec_dyPower.f (wrap64 (-(wrap64 ((wrap64 (x1078001_12 + a2)) - x1077001_12))))).bind fun t1084 => ((spec_dyDown.f t1083 t1084).bind fun t1085 => ((spec_dyMake.f kj12 t1085 a2).bind fun bt1086 => (some (bt1086.1, bt1086.2.1, bt1086.2.2))))) else ((spec_dyDigits.f kj12 t1083 (wrap64 (x1077000_12 - (wrap64 (t1083 * x1078000_12)))) x1078000_12 (wrap64 ((wrap64 (x1078001_12 + a2)) - x1077001_12)) a2).bind fun bt1089 => (some (bt1089.1, bt1089.2.1, bt1089.2.2)))) = some (r1, r2, r3) := H
    have A32 := Aside0.mk A320
    clear A320
    by_cases c33 : (wrap64 ((wrap64 (x1078001_12 + a2)) - x1077001_12)) < 0
    ·
     rw [if_pos c33] at H
     have c33b0 : decide ((wrap64 ((wrap64 (x1078001_12 + a2)) - x1077001_12)) < 0) = true := decide_eq_true c33
     clear c33
     replace H := Option.bind_eq_some_iff.mp H
     obtain ⟨t1084, A340, H⟩ := H
     replace H : ((spec_dyDown.f t1083 t1084).bind fun t1085 => ((spec_dyMake.f kj12 t1085 a2).bind fun bt1086 => (some (bt1086.1, bt1086.2.1, bt1086.2.2)))) = some (r1, r2, r3) := H
     have A34 := Aside0.mk A340
     clear A340
     replace H := Option.bind_eq_some_iff.mp H
     obtain ⟨t1085, A350, H⟩ := H
     replace H : ((spec_dyMake.f kj12 t1085 a2).bind fun bt1086 => (some (bt1086.1, bt1086.2.1, bt1086.2.2))) = some (r1, r2, r3) := H
     have A35 := Aside0.mk A350
     clear A350
     replace H := Option.bind_eq_some_iff.mp H
     obtain ⟨⟨t1086, t1087, t1088⟩, A360, H⟩ := H
     replace H : (some (t1086, t1087, t1088)) = some (r1, r2, r3) := H
     have A36 := Aside0.mk A360
     clear A360
     simp only [Option.some.injEq, Prod.mk.injEq] at H
     obtain ⟨rfl, rfl, rfl⟩ := H
     have hnb37 := NB1077_1076.out
     have hnc37 := NB1076_1077.out
     have hnb38 := NB1077_1078.out
     have hnc38 := NB1078_1077.out
     have hcz39_0 : wc.cell? ⟨gb1077, 0, none⟩ = some (.int .i64 x1078000_12) := zc BK1077 0
     have hcz39_1 : wc.cell? ⟨gb1077, 1, none⟩ = some (.int .i64 x1078001_12) := zc BK1077 1
     have hfz39_0 := blk_frozen BK1077.out 0
     have hfz39_1 := blk_frozen BK1077.out 1
     have hnb40 := NB1076_1078.out
     have hnc40 := NB1078_1076.out
     have hcz41_0 : wc.cell? ⟨gb1076, 0, none⟩ = some (.int .i64 x1077000_12) := zc BK1076 0
     have hcz41_1 : wc.cell? ⟨gb1076, 1, none⟩ = some (.int .i64 x1077001_12) := zc BK1076 1
     have hfz41_0 := blk_frozen BK1076.out 0
     have hfz41_1 := blk_frozen BK1076.out 1
     go_wp2_with (first | ((with_reducible refine gate_callee (f := 108) rfl ?_); refine goesL_ (some 32) rfl rfl Try.func108 (by kernel_rfl) rfl #[.int .i64 x1077000_12, .int .i64 x1078000_12] rfl zq6 ?_; (with_reducible refine (spec_dyDown.calls x1077000_12 x1078000_12 t1083 _ A32.out).mono ?_); rintro e w' ⟨rfl, ⟨nd, rfl⟩⟩; refine ⟨_, rfl, ?_⟩; (try (rw [drewN_self wc]; generalize hq_ : World.drewN wc _ = wc; have n0_ : Aside0 (wc.heap[gb1076]? = some (.cells #[.int .i64 x1077000_12, .int .i64 x1077001_12] 27 (0, 0))) := ⟨by rw [← hq_]; exact (zq1 BK1076)⟩; have n1_ : Aside0 (wc.heap[gb1077]? = some (.cells #[.int .i64 x1078000_12, .int .i64 x1078001_12] 27 (0, 0))) := ⟨by rw [← hq_]; exact (zq1 BK1077)⟩; have n2_ : Aside0 (wc.heap[gb1078]? = some (.cells #[.int .i64 0, .int .i64 0] 27 (0, 0))) := ⟨by rw [← hq_]; exact (zq1 BK1078)⟩; have n3_ : Aside0 (Below w.heap.size w wc) := ⟨by rw [← hq_]; exact (zb1 HB)⟩; clear BK1076 BK1077 BK1078 HB hq_; have BK1076 := n0_; have BK1077 := n1_; have BK1078 := n2_; have HB := n3_; clear n0_ n1_ n2_ n3_))) | ((with_reducible refine gate_callee (f := 103) rfl ?_); refine goesL_ (some 38) rfl rfl Try.func103 (by kernel_rfl) rfl #[.int .i64 (wrap64 (-(wrap64 ((wrap64 (x1078001_12 + a2)) - x1077001_12))))] rfl zq6 ?_; (with_reducible refine (spec_dyPower.calls (wrap64 (-(wrap64 ((wrap64 (x1078001_12 + a2)) - x1077001_12)))) t1084 _ A34.out).mono ?_); rintro e w' ⟨rfl, ⟨nd, rfl⟩⟩; refine ⟨_, rfl, ?_⟩; (try (rw [drewN_self wc]; generalize hq_ : World.drewN wc _ = wc; have n0_ : Aside0 (wc.heap[gb1076]? = some (.cells #[.int .i64 x1077000_12, .int .i64 x1077001_12] 27 (0, 0))) := ⟨by rw [← hq_]; exact (zq1 BK1076)⟩; have n1_ : Aside0 (wc.heap[gb1077]? = some (.cells #[.int .i64 x1078000_12, .int .i64 x1078001_12] 27 (0, 0))) := ⟨by rw [← hq_]; exact (zq1 BK1077)⟩; have n2_ : Aside0 (wc.heap[gb1078]? = some (.cells #[.int .i64 0, .int .i64 0] 27 (0, 0))) := ⟨by rw [← hq_]; exact (zq1 BK1078)⟩; have n3_ : Aside0 (Below w.heap.size w wc) := ⟨by rw [← hq_]; exact (zb1 HB)⟩; clear BK1076 BK1077 BK1078 HB hq_; have BK1076 := n0_; have BK1077 := n1_; have BK1078 := n2_; have HB := n3_; clear n0_ n1_ n2_ n3_))) | ((with_reducible refine gate_callee (f := 108) rfl ?_); refine goesL_ (some 39) rfl rfl Try.func108 (by kernel_rfl) rfl #[.int .i64 t1083, .int .i64 t1084] rfl zq6 ?_; (with_reducible refine (spec_dyDown.calls t1083 t1084 t1085 _ A35.out).mono ?_); rintro e w' ⟨rfl, ⟨nd, rfl⟩⟩; refine ⟨_, rfl, ?_⟩; (try (rw [drewN_self wc]; generalize hq_ : World.drewN wc _ = wc; have n0_ : Aside0 (wc.heap[gb1076]? = some (.cells #[.int .i64 x1077000_12, .int .i64 x1077001_12] 27 (0, 0))) := ⟨by rw [← hq_]; exact (zq1 BK1076)⟩; have n1_ : Aside0 (wc.heap[gb1077]? = some (.cells #[.int .i64 x1078000_12, .int .i64 x1078001_12] 27 (0, 0))) := ⟨by rw [← hq_]; exact (zq1 BK1077)⟩; have n2_ : Aside0 (wc.heap[gb1078]? = some (.cells #[.int .i64 0, .int .i64 0] 27 (0, 0))) := ⟨by rw [← hq_]; exact (zq1 BK1078)⟩; have n3_ : Aside0 (Below w.heap.size w wc) := ⟨by rw [← hq_]; exact (zb1 HB)⟩; clear BK1076 BK1077 BK1078 HB hq_; have BK1076 := n0_; have BK1077 := n1_; have BK1078 := n2_; have HB := n3_; clear n0_ n1_ n2_ n3_))) | ((with_reducible refine gate_callee (f := 107) rfl ?_); refine goesL_ (some 41) rfl rfl Try.func107 (by kernel_rfl) rfl #[.int .i64 t1085, .int .i64 a2] rfl zq6 ?_; (with_reducible refine (spec_dyMake.calls kj12 t1085 a2 t1086 t1087 t1088 _ A36.out).mono ?_); rintro e w42 ⟨rfl, hb⟩; refine ⟨_, rfl, ?_⟩; replace BK1076 := Aside0.mk (zbb BK1076 hb); replace BK1077 := Aside0.mk (zbb BK1077 hb); replace BK1078 := Aside0.mk (zbb BK1078 hb); replace HB := Aside0.mk (below_step (zb1 HB) hb); (try clear hb); (try clear hb2); (try clear hk); (try clear hi); have hcz43_0 : w42.cell? ⟨gb1078, 0, none⟩ = some (.int .i64 0) := zc BK1078 0; have hcz43_1 : w42.cell? ⟨gb1078, 1, none⟩ = some (.int .i64 0) := zc BK1078 1; have hfz43_0 := blk_frozen BK1078.out 0; have hfz43_1 := blk_frozen BK1078.out 1))
     refine bodyPost_ret (results_ct rfl _ _ gb1078 27 #[.int .i64 t1086, .int .i64 t1087] (0, 0) _ rfl (by (with_reducible repeat (first | refine blk_drewN ?_ _ | refine blk_drew ?_ | refine blk_alloc ?_ _)); refine blk_put (cs := #[.int .i64 t1086, .int .i64 0]) ?_ 1 _ rfl; (with_reducible repeat (first | refine blk_drewN ?_ _ | refine blk_drew ?_ | refine blk_alloc ?_ _)); refine blk_put (cs := #[.int .i64 0, .int .i64 0]) ?_ 0 _ rfl; (with_reducible repeat (first | refine blk_drewN ?_ _ | refine blk_drew ?_ | refine blk_alloc ?_ _)); exact BK1078.out) Try.underlying27 rfl (by kernel_rfl)) rfl ?_
     exact ⟨by first | rfl | (simp [errW_none, errW_some] <;> rfl) | (simp [*, errW_none, errW_some] <;> rfl), (zb1 HB)⟩
    ·
     rw [if_neg c33] at H
     have c33b0 : decide ((wrap64 ((wrap64 (x1078001_12 + a2)) - x1077001_12)) < 0) = false := decide_eq_false c33
     clear c33
     replace H := Option.bind_eq_some_iff.mp H
     obtain ⟨⟨t1089, t1090, t1091⟩, A440, H⟩ := H
     replace H : (some (t1089, t1090, t1091)) = some (r1, r2, r3) := H
     have A44 := Aside0.mk A440
     clear A440
     simp only [Option.some.injEq, Prod.mk.injEq] at H
     obtain ⟨rfl, rfl, rfl⟩ := H
     have hnb45 := NB1077_1076.out
     have hnc45 := NB1076_1077.out
     have hnb46 := NB1077_1078.out
     have hnc46 := NB1078_1077.out
     have hcz47_0 : wc.cell? ⟨gb1077, 0, none⟩ = some (.int .i64 x1078000_12) := zc BK1077 0
     have hcz47_1 : wc.cell? ⟨gb1077, 1, none⟩ = some (.int .i64 x1078001_12) := zc BK1077 1
     have hfz47_0 := blk_frozen BK1077.out 0
     have hfz47_1 := blk_frozen BK1077.out 1
     have hnb48 := NB1076_1078.out
     have hnc48 := NB1078_1076.out
     have hcz49_0 : wc.cell? ⟨gb1076, 0, none⟩ = some (.int .i64 x1077000_12) := zc BK1076 0
     have hcz49_1 : wc.cell? ⟨gb1076, 1, none⟩ = some (.int .i64 x1077001_12) := zc BK1076 1
     have hfz49_0 := blk_frozen BK1076.out 0
     have hfz49_1 := blk_frozen BK1076.out 1
     go_wp2_with (first | ((with_reducible refine gate_callee (f := 108) rfl ?_); refine goesL_ (some 32) rfl rfl Try.func108 (by kernel_rfl) rfl #[.int .i64 x1077000_12, .int .i64 x1078000_12] rfl zq6 ?_; (with_reducible refine (spec_dyDown.calls x1077000_12 x1078000_12 t1083 _ A32.out).mono ?_); rintro e w' ⟨rfl, ⟨nd, rfl⟩⟩; refine ⟨_, rfl, ?_⟩; (try (rw [drewN_self wc]; generalize hq_ : World.drewN wc _ = wc; have n0_ : Aside0 (wc.heap[gb1076]? = some (.cells #[.int .i64 x1077000_12, .int .i64 x1077001_12] 27 (0, 0))) := ⟨by rw [← hq_]; exact (zq1 BK1076)⟩; have n1_ : Aside0 (wc.heap[gb1077]? = some (.cells #[.int .i64 x1078000_12, .int .i64 x1078001_12] 27 (0, 0))) := ⟨by rw [← hq_]; exact (zq1 BK1077)⟩; have n2_ : Aside0 (wc.heap[gb1078]? = some (.cells #[.int .i64 0, .int .i64 0] 27 (0, 0))) := ⟨by rw [← hq_]; exact (zq1 BK1078)⟩; have n3_ : Aside0 (Below w.heap.size w wc) := ⟨by rw [← hq_]; exact (zb1 HB)⟩; clear BK1076 BK1077 BK1078 HB hq_; have BK1076 := n0_; have BK1077 := n1_; have BK1078 := n2_; have HB := n3_; clear n0_ n1_ n2_ n3_)); have hcz50_0 : wc.cell? ⟨gb1076, 0, none⟩ = some (.int .i64 x1077000_12) := zc BK1076 0; have hcz50_1 : wc.cell? ⟨gb1076, 1, none⟩ = some (.int .i64 x1077001_12) := zc BK1076 1; have hfz50_0 := blk_frozen BK1076.out 0; have hfz50_1 := blk_frozen BK1076.out 1; have hcz51_0 : wc.cell? ⟨gb1077, 0, none⟩ = some (.int .i64 x1078000_12) := zc BK1077 0; have hcz51_1 : wc.cell? ⟨gb1077, 1, none⟩ = some (.int .i64 x1078001_12) := zc BK1077 1; have hfz51_0 := blk_frozen BK1077.out 0; have hfz51_1 := blk_frozen BK1077.out 1) | ((with_reducible refine gate_callee (f := 115) rfl ?_); refine goesL_ (some 56) rfl rfl Try.func115 (by kernel_rfl) rfl #[.int .i64 t1083, .int .i64 (wrap64 (x1077000_12 - (wrap64 (t1083 * x1078000_12)))), .int .i64 x1078000_12, .int .i64 (wrap64 ((wrap64 (x1078001_12 + a2)) - x1077001_12)), .int .i64 a2] rfl zq6 ?_; (with_reducible refine (spec_dyDigits.calls kj12 t1083 (wrap64 (x1077000_12 - (wrap64 (t1083 * x1078000_12)))) x1078000_12 (wrap64 ((wrap64 (x1078001_12 + a2)) - x1077001_12)) a2 t1089 t1090 t1091 _ A44.out).mono ?_); rintro e w52 ⟨rfl, hb⟩; refine ⟨_, rfl, ?_⟩; replace BK1076 := Aside0.mk (zbb BK1076 hb); replace BK1077 := Aside0.mk (zbb BK1077 hb); replace BK1078 := Aside0.mk (zbb BK1078 hb); replace HB := Aside0.mk (below_step (zb1 HB) hb); (try clear hb); (try clear hb2); (try clear hk); (try clear hi); have hcz53_0 : w52.cell? ⟨gb1078, 0, none⟩ = some (.int .i64 0) := zc BK1078 0; have hcz53_1 : w52.cell? ⟨gb1078, 1, none⟩ = some (.int .i64 0) := zc BK1078 1; have hfz53_0 := blk_frozen BK1078.out 0; have hfz53_1 := blk_frozen BK1078.out 1))
     refine bodyPost_ret (results_ct rfl _ _ gb1078 27 #[.int .i64 t1089, .int .i64 t1090] (0, 0) _ rfl (by (with_reducible repeat (first | refine blk_drewN ?_ _ | refine blk_drew ?_ | refine blk_alloc ?_ _)); refine blk_put (cs := #[.int .i64 t1089, .int .i64 0]) ?_ 1 _ rfl; (with_reducible repeat (first | refine blk_drewN ?_ _ | refine blk_drew ?_ | refine blk_alloc ?_ _)); refine blk_put (cs := #[.int .i64 0, .int .i64 0]) ?_ 0 _ rfl; (with_reducible repeat (first | refine blk_drewN ?_ _ | refine blk_drew ?_ | refine blk_alloc ?_ _)); exact BK1078.out) Try.underlying27 rfl (by kernel_rfl)) rfl ?_
     exact ⟨by first | rfl | (simp [errW_none, errW_some] <;> rfl) | (simp [*, errW_none, errW_some] <;> rfl), (zb1 HB)⟩
end Go.Proofs.Ytinpcalgdiigiaa.PD
