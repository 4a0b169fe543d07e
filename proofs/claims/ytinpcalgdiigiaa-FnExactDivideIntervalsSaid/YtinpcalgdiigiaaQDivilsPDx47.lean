-- By wip/mk/drv.py
import Derived.Test.YtinpcalgdiigiaaQDivilsPDx0
import Derived.Test.YtinpcalgdiigiaaQDivilsPDx1
import Derived.Test.YtinpcalgdiigiaaQDivilsPDx3
import Derived.Test.YtinpcalgdiigiaaQDivilsPDx4
namespace Go.Proofs.Ytinpcalgdiigiaa.PD
open Go.RowKit Go.Proofs.YtinpcalgdiigiaaW.PrintWords Go.Proofs.YtinpcalgdiigiaaW.PrintLast Go.Proofs.YtinpcalgdiigiaaW.PrintMore
attribute [local go_sem] max2_int min2_int max_two min_two max_three min_three max_four min_four
set_option linter.unusedVariables false
set_option linter.unusedSimpArgs false
/-! ### impl_wide_add: function 88 -/
set_option maxHeartbeats 8000000 in
set_option maxRecDepth 100000 in
theorem impl_wide_add.calls (k : Nat) (a0_0 : Bool) (a0_1 : Int) (a0_2 : Int) (a1_0 : Bool) (a1_1 : Int) (a1_2 : Int) (r1 : Bool) (r2 : Int) (r3 : Int) (w : World) (h : impl_wide_add.f k a0_0 a0_1 a0_2 a1_0 a1_1 a1_2 = some (r1, r2, r3)) :
  Calls Try.prog 88 #[.agg #[.bool a0_0, .int .u64 a0_1, .int .u64 a0_2], .agg #[.bool a1_0, .int .u64 a1_1, .int .u64 a1_2]] w fun e w' => e = .returned (.agg #[.bool r1, .int .u64 r2, .int .u64 r3]) ∧ Below w.heap.size w w' := by
 have hu64 := Try.underlying64
 have HB := Aside0.mk (Below.refl w.heap.size w)
 have H : (if (a0_0 == a1_0) = true then ((bits_Add64.f a0_2 a1_2 0).bind fun bt541 => ((bits_Add64.f a0_1 a1_1 bt541.2).bind fun bt543 => (some (a0_0, bt543.1, bt541.1)))) else ((impl_compareSizes.f k a0_0 a0_1 a0_2 a1_0 a1_1 a1_2).bind fun t545 => (if t545 < 0 then ((bits_Sub64.f a1_2 a0_2 0).bind fun bt546 => ((bits_Sub64.f a1_1 a0_1 bt546.2).bind fun bt548 => (some (a1_0, bt548.1, bt546.1)))) else ((bits_Sub64.f a0_2 a1_2 0).bind fun bt550 => ((bits_Sub64.f a0_1 a1_1 bt550.2).bind fun bt552 => (some (a0_0, bt552.1, bt550.1))))))) = some (r1, r2, r3) := h
 clear h
 by_cases c3 : (a0_0 == a1_0) = true
 ·
  rw [if_pos c3] at H
  have c3b0 : (a0_0 == a1_0) = true := c3
  (try (have c3b1 : decide (a0_0 = a1_0) = true := by simpa using c3))
  (try (have c3b2 : (a0_0 == a1_0) = true := by simpa using c3))
  clear c3
  replace H := Option.bind_eq_some_iff.mp H
  obtain ⟨⟨t541, t542⟩, A40, H⟩ := H
  replace H : ((bits_Add64.f a0_1 a1_1 t542).bind fun bt543 => (some (a0_0, bt543.1, t541))) = some (r1, r2, r3) := H
  have A4 := Aside0.mk A40
  clear A40
  have XA4 := fun (W : World) => bits_Add64.run a0_2 a1_2 0 t541 t542 W A4.out
  replace H := Option.bind_eq_some_iff.mp H
  obtain ⟨⟨t543, t544⟩, A50, H⟩ := H
  replace H : (some (a0_0, t543, t541)) = some (r1, r2, r3) := H
  have A5 := Aside0.mk A50
  clear A50
  have XA5 := fun (W : World) => bits_Add64.run a0_1 a1_1 t542 t543 t544 W A5.out
  simp only [Option.some.injEq, Prod.mk.injEq] at H
  obtain ⟨rfl, rfl, rfl⟩ := H
  go_enter Try.func88, Try.ntmps88
  go_wp2_with (first | ((with_reducible refine gate_dst (N := 2) rfl ?_); refine zbe (N := 2) (cs := #[.bool a0_0, .int .u64 a0_1, .int .u64 a0_2]) (t := 64) ?_; intro gb538 hg w6 hbox hb; have BK538 := Aside0.mk (hbox); have GW538 := Aside0.mk (zge (zb0 HB) hg); have GE538 := GW538; replace HB := Aside0.mk (below_step (zb0 HB) hb); clear hb hbox hg) | ((with_reducible refine gate_dst (N := 3) rfl ?_); refine zbe (N := 3) (cs := #[.bool a1_0, .int .u64 a1_1, .int .u64 a1_2]) (t := 64) ?_; intro gb539 hg w7 hbox hb; have BK539 := Aside0.mk (hbox); have GW539 := Aside0.mk (zge (zb1 HB) hg); have GE539 := GW539; have NB538_539 := Aside0.mk (zlt BK538 hg); have NB539_538 := Aside0.mk (zgt BK538 hg); replace BK538 := Aside0.mk (zbb BK538 hb); replace HB := Aside0.mk (below_step (zb1 HB) hb); clear hb hbox hg) | ((with_reducible refine gate_dst (N := 4) rfl ?_); refine zbe (N := 4) (cs := #[.bool false, .int .u64 0, .int .u64 0]) (t := 64) ?_; intro gb540 hg w8 hbox hb; have BK540 := Aside0.mk (hbox); have GW540 := Aside0.mk (zge (zb1 HB) hg); have GE540 := GW540; have NB538_540 := Aside0.mk (zlt BK538 hg); have NB540_538 := Aside0.mk (zgt BK538 hg); have NB539_540 := Aside0.mk (zlt BK539 hg); have NB540_539 := Aside0.mk (zgt BK539 hg); replace BK538 := Aside0.mk (zbb BK538 hb); replace BK539 := Aside0.mk (zbb BK539 hb); replace HB := Aside0.mk (below_step (zb1 HB) hb); clear hb hbox hg; have hnb9 := NB538_539.out; have hnc9 := NB539_538.out; have hnb10 := NB538_540.out; have hnc10 := NB540_538.out; have hcz11_0 : w8.cell? ⟨gb538, 0, none⟩ = some (.bool a0_0) := zc BK538 0; have hcz11_1 : w8.cell? ⟨gb538, 1, none⟩ = some (.int .u64 a0_1) := zc BK538 1; have hcz11_2 : w8.cell? ⟨gb538, 2, none⟩ = some (.int .u64 a0_2) := zc BK538 2; have hfz11_0 := blk_frozen BK538.out 0; have hfz11_1 := blk_frozen BK538.out 1; have hfz11_2 := blk_frozen BK538.out 2; have hnb12 := NB539_540.out; have hnc12 := NB540_539.out; have hcz13_0 : w8.cell? ⟨gb539, 0, none⟩ = some (.bool a1_0) := zc BK539 0; have hcz13_1 : w8.cell? ⟨gb539, 1, none⟩ = some (.int .u64 a1_1) := zc BK539 1; have hcz13_2 : w8.cell? ⟨gb539, 2, none⟩ = some (.int .u64 a1_2) := zc BK539 2; have hfz13_0 := blk_frozen BK539.out 0; have hfz13_1 := blk_frozen BK539.out 1; have hfz13_2 := blk_frozen BK539.out 2; have hcz14_0 : w8.cell? ⟨gb540, 0, none⟩ = some (.bool false) := zc BK540 0; have hcz14_1 : w8.cell? ⟨gb540, 1, none⟩ = some (.int .u64 0) := zc BK540 1; have hcz14_2 : w8.cell? ⟨gb540, 2, none⟩ = some (.int .u64 0) := zc BK540 2; have hfz14_0 := blk_frozen BK540.out 0; have hfz14_1 := blk_frozen BK540.out 1; have hfz14_2 := blk_frozen BK540.out 2))
  refine bodyPost_ret (results_cell_row rfl _ _ gb540 64 #[.bool a0_0, .int .u64 t543, .int .u64 t541] (0, 0) _ rfl (by (with_reducible repeat (first | refine blk_drewN ?_ _ | refine blk_drew ?_ | refine blk_alloc ?_ _)); refine blk_put (cs := #[.bool a0_0, .int .u64 t543, .int .u64 0]) ?_ 2 _ rfl; (with_reducible repeat (first | refine blk_drewN ?_ _ | refine blk_drew ?_ | refine blk_alloc ?_ _)); refine blk_put (cs := #[.bool a0_0, .int .u64 0, .int .u64 0]) ?_ 1 _ rfl; (with_reducible repeat (first | refine blk_drewN ?_ _ | refine blk_drew ?_ | refine blk_alloc ?_ _)); refine blk_put (cs := #[.bool false, .int .u64 0, .int .u64 0]) ?_ 0 _ rfl; (with_reducible repeat (first | refine blk_drewN ?_ _ | refine blk_drew ?_ | refine blk_alloc ?_ _)); exact BK540.out) Try.underlying64 rfl (by kernel_rfl)) rfl ?_
  exact ⟨by first | rfl | (simp [errW_none, errW_some] <;> rfl) | (simp [*, errW_none, errW_some] <;> rfl), (zb1 HB)⟩
 ·
  rw [if_neg c3] at H
  have c3b0 : (a0_0 == a1_0) = false := by simpa using c3
  (try (have c3b1 : decide (a0_0 = a1_0) = false := by simpa using c3))
  (try (have c3b2 : (a0_0 == a1_0) = false := by simpa using c3))
  (try (have c3b3 : ¬ (a0_0 = a1_0) := by simpa using c3))
  clear c3
  replace H := Option.bind_eq_some_iff.mp H
  obtain ⟨t545, A150, H⟩ := H
  replace H : (if t545 < 0 then ((bits_Sub64.f a1_2 a0_2 0).bind fun bt546 => ((bits_Sub64.f a1_1 a0_1 bt546.2).bind fun bt548 => (some (a1_0, bt548.1, bt546.1)))) else ((bits_Sub64.f a0_2 a1_2 0).bind fun bt550 => ((bits_Sub64.f a0_1 a1_1 bt550.2).bind fun bt552 => (some (a0_0, bt552.1, bt550.1))))) = some (r1, r2, r3) := H
  have A15 := Aside0.mk A150
  clear A150
  by_cases c16 : t545 < 0
  ·
   rw [if_pos c16] at H
   have c16b0 : decide (t545 < 0) = true := decide_eq_true c16
   clear c16
   replace H := Option.bind_eq_some_iff.mp H
   obtain ⟨⟨t546, t547⟩, A170, H⟩ := H
   replace H : ((bits_Sub64.f a1_1 a0_1 t547).bind fun bt548 => (some (a1_0, bt548.1, t546))) = some (r1, r2, r3) := H
   have A17 := Aside0.mk A170
   clear A170
   have XA17 := fun (W : World) => bits_Sub64.run a1_2 a0_2 0 t546 t547 W A17.out
   replace H := Option.bind_eq_some_iff.mp H
   obtain ⟨⟨t548, t549⟩, A180, H⟩ := H
   replace H : (some (a1_0, t548, t546)) = some (r1, r2, r3) := H
   have A18 := Aside0.mk A180
   clear A180
   have XA18 := fun (W : World) => bits_Sub64.run a1_1 a0_1 t547 t548 t549 W A18.out
   simp only [Option.some.injEq, Prod.mk.injEq] at H
   obtain ⟨rfl, rfl, rfl⟩ := H
   go_enter Try.func88, Try.ntmps88
   go_wp2_with (first | ((with_reducible refine gate_dst (N := 2) rfl ?_); refine zbe (N := 2) (cs := #[.bool a0_0, .int .u64 a0_1, .int .u64 a0_2]) (t := 64) ?_; intro gb538 hg w19 hbox hb; have BK538 := Aside0.mk (hbox); have GW538 := Aside0.mk (zge (zb0 HB) hg); have GE538 := GW538; replace HB := Aside0.mk (below_step (zb0 HB) hb); clear hb hbox hg) | ((with_reducible refine gate_dst (N := 3) rfl ?_); refine zbe (N := 3) (cs := #[.bool a1_0, .int .u64 a1_1, .int .u64 a1_2]) (t := 64) ?_; intro gb539 hg w20 hbox hb; have BK539 := Aside0.mk (hbox); have GW539 := Aside0.mk (zge (zb1 HB) hg); have GE539 := GW539; have NB538_539 := Aside0.mk (zlt BK538 hg); have NB539_538 := Aside0.mk (zgt BK538 hg); replace BK538 := Aside0.mk (zbb BK538 hb); replace HB := Aside0.mk (below_step (zb1 HB) hb); clear hb hbox hg) | ((with_reducible refine gate_dst (N := 4) rfl ?_); refine zbe (N := 4) (cs := #[.bool false, .int .u64 0, .int .u64 0]) (t := 64) ?_; intro gb540 hg w21 hbox hb; have BK540 := Aside0.mk (hbox); have GW540 := Aside0.mk (zge (zb1 HB) hg); have GE540 := GW540; have NB538_540 := Aside0.mk (zlt BK538 hg); have NB540_538 := Aside0.mk (zgt BK538 hg); have NB539_540 := Aside0.mk (zlt BK539 hg); have NB540_539 := Aside0.mk (zgt BK539 hg); replace BK538 := Aside0.mk (zbb BK538 hb); replace BK539 := Aside0.mk (zbb BK539 hb); replace HB := Aside0.mk (below_step (zb1 HB) hb); clear hb hbox hg; have hnb22 := NB538_539.out; have hnc22 := NB539_538.out; have hnb23 := NB538_540.out; have hnc23 := NB540_538.out; have hcz24_0 : w21.cell? ⟨gb538, 0, none⟩ = some (.bool a0_0) := zc BK538 0; have hcz24_1 : w21.cell? ⟨gb538, 1, none⟩ = some (.int .u64 a0_1) := zc BK538 1; have hcz24_2 : w21.cell? ⟨gb538, 2, none⟩ = some (.int .u64 a0_2) := zc BK538 2; have hfz24_0 := blk_frozen BK538.out 0; have hfz24_1 := blk_frozen BK538.out 1; have hfz24_2 := blk_frozen BK538.out 2; have hnb25 := NB539_540.out; have hnc25 := NB540_539.out; have hcz26_0 : w21.cell? ⟨gb539, 0, none⟩ = some (.bool a1_0) := zc BK539 0; have hcz26_1 : w21.cell? ⟨gb539, 1, none⟩ = some (.int .u64 a1_1) := zc BK539 1; have hcz26_2 : w21.cell? ⟨gb539, 2, none⟩ = some (.int .u64 a1_2) := zc BK539 2; have hfz26_0 := blk_frozen BK539.out 0; have hfz26_1 := blk_frozen BK539.out 1; have hfz26_2 := blk_frozen BK539.out 2) | ((with_reducible refine gate_callee (f := 105) rfl ?_); refine goesL_ (some 42) rfl rfl Try.func105 (by kernel_rfl) rfl #[.agg #[.bool a0_0, .int .u64 a0_1, .int .u64 a0_2], .agg #[.bool a1_0, .int .u64 a1_1, .int .u64 a1_2]] rfl zq6 ?_; (with_reducible refine (impl_compareSizes.calls k a0_0 a0_1 a0_2 a1_0 a1_1 a1_2 t545 _ A15.out).mono ?_); rintro e w27 ⟨rfl, hb⟩; refine ⟨_, rfl, ?_⟩; replace BK538 := Aside0.mk (zbb BK538 hb); replace BK539 := Aside0.mk (zbb BK539 hb); replace BK540 := Aside0.mk (zbb BK540 hb); replace HB := Aside0.mk (below_step (zb1 HB) hb); (try clear hb); (try clear hb2); (try clear hk); (try clear hi); have hcz28_0 : w27.cell? ⟨gb539, 0, none⟩ = some (.bool a1_0) := zc BK539 0; have hcz28_1 : w27.cell? ⟨gb539, 1, none⟩ = some (.int .u64 a1_1) := zc BK539 1; have hcz28_2 : w27.cell? ⟨gb539, 2, none⟩ = some (.int .u64 a1_2) := zc BK539 2; have hfz28_0 := blk_frozen BK539.out 0; have hfz28_1 := blk_frozen BK539.out 1; have hfz28_2 := blk_frozen BK539.out 2; have hcz29_0 : w27.cell? ⟨gb538, 0, none⟩ = some (.bool a0_0) := zc BK538 0; have hcz29_1 : w27.cell? ⟨gb538, 1, none⟩ = some (.int .u64 a0_1) := zc BK538 1; have hcz29_2 : w27.cell? ⟨gb538, 2, none⟩ = some (.int .u64 a0_2) := zc BK538 2; have hfz29_0 := blk_frozen BK538.out 0; have hfz29_1 := blk_frozen BK538.out 1; have hfz29_2 := blk_frozen BK538.out 2; have hcz30_0 : w27.cell? ⟨gb540, 0, none⟩ = some (.bool false) := zc BK540 0; have hcz30_1 : w27.cell? ⟨gb540, 1, none⟩ = some (.int .u64 0) := zc BK540 1; have hcz30_2 : w27.cell? ⟨gb540, 2, none⟩ = some (.int .u64 0) := zc BK540 2; have hfz30_0 := blk_frozen BK540.out 0; have hfz30_1 := blk_frozen BK540.out 1; have hfz30_2 := blk_frozen BK540.out 2))
   refine bodyPost_ret (results_cell_row rfl _ _ gb540 64 #[.bool a1_0, .int .u64 t548, .int .u64 t546] (0, 0) _ rfl (by (with_reducible repeat (first | refine blk_drewN ?_ _ | refine blk_drew ?_ | refine blk_alloc ?_ _)); refine blk_put (cs := #[.bool a1_0, .int .u64 t548, .int .u64 0]) ?_ 2 _ rfl; (with_reducible repeat (first | refine blk_drewN ?_ _ | refine blk_drew ?_ | refine blk_alloc ?_ _)); refine blk_put (cs := #[.bool a1_0, .int .u64 0, .int .u64 0]) ?_ 1 _ rfl; (with_reducible repeat (first | refine blk_drewN ?_ _ | refine blk_drew ?_ | refine blk_alloc ?_ _)); refine blk_put (cs := #[.bool false, .int .u64 0, .int .u64 0]) ?_ 0 _ rfl; (with_reducible repeat (first | refine blk_drewN ?_ _ | refine blk_drew ?_ | refine blk_alloc ?_ _)); refine blk_far ?_ NB540_539.out _; (with_reducible repeat (first | refine blk_drewN ?_ _ | refine blk_drew ?_ | refine blk_alloc ?_ _)); refine blk_far ?_ NB540_539.out _; (with_reducible repeat (first | refine blk_drewN ?_ _ | refine blk_drew ?_ | refine blk_alloc ?_ _)); refine blk_far ?_ NB540_539.out _; (with_reducible repeat (first | refine blk_drewN ?_ _ | refine blk_drew ?_ | refine blk_alloc ?_ _)); refine blk_far ?_ NB540_538.out _; (with_reducible repeat (first | refine blk_drewN ?_ _ | refine blk_drew ?_ | refine blk_alloc ?_ _)); refine blk_far ?_ NB540_538.out _; (with_reducible repeat (first | refine blk_drewN ?_ _ | refine blk_drew ?_ | refine blk_alloc ?_ _)); refine blk_far ?_ NB540_538.out _; (with_reducible repeat (first | refine blk_drewN ?_ _ | refine blk_drew ?_ | refine blk_alloc ?_ _)); exact BK540.out) Try.underlying64 rfl (by kernel_rfl)) rfl ?_
   exact ⟨by first | rfl | (simp [errW_none, errW_some] <;> rfl) | (simp [*, errW_none, errW_some] <;> rfl), (zb1 HB)⟩
  ·
   rw [if_neg c16] at H
   have c16b0 : decide (t545 < 0) = false := decide_eq_false c16
   clear c16
   replace H := Option.bind_eq_some_iff.mp H
   obtain ⟨⟨t550, t551⟩, A310, H⟩ := H
   replace H : ((bits_Sub64.f a0_1 a1_1 t551).bind fun bt552 => (some (a0_0, bt552.1, t550))) = some (r1, r2, r3) := H
   have A31 := Aside0.mk A310
   clear A310
   have XA31 := fun (W : World) => bits_Sub64.run a0_2 a1_2 0 t550 t551 W A31.out
   replace H := Option.bind_eq_some_iff.mp H
   obtain ⟨⟨t552, t553⟩, A320, H⟩ := H
   replace H : (some (a0_0, t552, t550)) = some (r1, r2, r3) := H
   have A32 := Aside0.mk A320
   clear A320
   have XA32 := fun (W : World) => bits_Sub64.run a0_1 a1_1 t551 t552 t553 W A32.out
   simp only [Option.some.injEq, Prod.mk.injEq] at H
   obtain ⟨rfl, rfl, rfl⟩ := H
   go_enter Try.func88, Try.ntmps88
   go_wp2_with (first | ((with_reducible refine gate_dst (N := 2) rfl ?_); refine zbe (N := 2) (cs := #[.bool a0_0, .int .u64 a0_1, .int .u64 a0_2]) (t := 64) ?_; intro gb538 hg w33 hbox hb; have BK538 := Aside0.mk (hbox); have GW538 := Aside0.mk (zge (zb0 HB) hg); have GE538 := GW538; replace HB := Aside0.mk (below_step (zb0 HB) hb); clear hb hbox hg) | ((with_reducible refine gate_dst (N := 3) rfl ?_); refine zbe (N := 3) (cs := #[.bool a1_0, .int .u64 a1_1, .int .u64 a1_2]) (t := 64) ?_; intro gb539 hg w34 hbox hb; have BK539 := Aside0.mk (hbox); have GW539 := Aside0.mk (zge (zb1 HB) hg); have GE539 := GW539; have NB538_539 := Aside0.mk (zlt BK538 hg); have NB539_538 := Aside0.mk (zgt BK538 hg); replace BK538 := Aside0.mk (zbb BK538 hb); replace HB := Aside0.mk (below_step (zb1 HB) hb); clear hb hbox hg) | ((with_reducible refine gate_dst (N := 4) rfl ?_); refine zbe (N := 4) (cs := #[.bool false, .int .u64 0, .int .u64 0]) (t := 64) ?_; intro gb540 hg w35 hbox hb; have BK540 := Aside0.mk (hbox); have GW540 := Aside0.mk (zge (zb1 HB) hg); have GE540 := GW540; have NB538_540 := Aside0.mk (zlt BK538 hg); have NB540_538 := Aside0.mk (zgt BK538 hg); have NB539_540 := Aside0.mk (zlt BK539 hg); have NB540_539 := Aside0.mk (zgt BK539 hg); replace BK538 := Aside0.mk (zbb BK538 hb); replace BK539 := Aside0.mk (zbb BK539 hb); replace HB := Aside0.mk (below_step (zb1 HB) hb); clear hb hbox hg; have hnb36 := NB538_539.out; have hnc36 := NB539_538.out; have hnb37 := NB538_540.out; have hnc37 := NB540_538.out; have hcz38_0 : w35.cell? ⟨gb538, 0, none⟩ = some (.bool a0_0) := zc BK538 0; have hcz38_1 : w35.cell? ⟨gb538, 1, none⟩ = some (.int .u64 a0_1) := zc BK538 1; have hcz38_2 : w35.cell? ⟨gb538, 2, none⟩ = some (.int .u64 a0_2) := zc BK538 2; have hfz38_0 := blk_frozen BK538.out 0; have hfz38_1 := blk_frozen BK538.out 1; have hfz38_2 := blk_frozen BK538.out 2; have hnb39 := NB539_540.out; have hnc39 := NB540_539.out; have hcz40_0 : w35.cell? ⟨gb539, 0, none⟩ = some (.bool a1_0) := zc BK539 0; have hcz40_1 : w35.cell? ⟨gb539, 1, none⟩ = some (.int .u64 a1_1) := zc BK539 1; have hcz40_2 : w35.cell? ⟨gb539, 2, none⟩ = some (.int .u64 a1_2) := zc BK539 2; have hfz40_0 := blk_frozen BK539.out 0; have hfz40_1 := blk_frozen BK539.out 1; have hfz40_2 := blk_frozen BK539.out 2) | ((with_reducible refine gate_callee (f := 105) rfl ?_); refine goesL_ (some 42) rfl rfl Try.func105 (by kernel_rfl) rfl #[.agg #[.bool a0_0, .int .u64 a0_1, .int .u64 a0_2], .agg #[.bool a1_0, .int .u64 a1_1, .int .u64 a1_2]] rfl zq6 ?_; (with_reducible refine (impl_compareSizes.calls k a0_0 a0_1 a0_2 a1_0 a1_1 a1_2 t545 _ A15.out).mono ?_); rintro e w41 ⟨rfl, hb⟩; refine ⟨_, rfl, ?_⟩; replace BK538 := Aside0.mk (zbb BK538 hb); replace BK539 := Aside0.mk (zbb BK539 hb); replace BK540 := Aside0.mk (zbb BK540 hb); replace HB := Aside0.mk (below_step (zb1 HB) hb); (try clear hb); (try clear hb2); (try clear hk); (try clear hi); have hcz42_0 : w41.cell? ⟨gb538, 0, none⟩ = some (.bool a0_0) := zc BK538 0; have hcz42_1 : w41.cell? ⟨gb538, 1, none⟩ = some (.int .u64 a0_1) := zc BK538 1; have hcz42_2 : w41.cell? ⟨gb538, 2, none⟩ = some (.int .u64 a0_2) := zc BK538 2; have hfz42_0 := blk_frozen BK538.out 0; have hfz42_1 := blk_frozen BK538.out 1; have hfz42_2 := blk_frozen BK538.out 2; have hcz43_0 : w41.cell? ⟨gb539, 0, none⟩ = some (.bool a1_0) := zc BK539 0; have hcz43_1 : w41.cell? ⟨gb539, 1, none⟩ = some (.int .u64 a1_1) := zc BK539 1; have hcz43_2 : w41.cell? ⟨gb539, 2, none⟩ = some (.int .u64 a1_2) := zc BK539 2; have hfz43_0 := blk_frozen BK539.out 0; have hfz43_1 := blk_frozen BK539.out 1; have hfz43_2 := blk_frozen BK539.out 2; have hcz44_0 : w41.cell? ⟨gb540, 0, none⟩ = some (.bool false) := zc BK540 0; have hcz44_1 : w41.cell? ⟨gb540, 1, none⟩ = some (.int .u64 0) := zc BK540 1; have hcz44_2 : w41.cell? ⟨gb540, 2, none⟩ = some (.int .u64 0) := zc BK540 2; have hfz44_0 := blk_frozen BK540.out 0; have hfz44_1 := blk_frozen BK540.out 1; have hfz44_2 := blk_frozen BK540.out 2))
   refine bodyPost_ret (results_cell_row rfl _ _ gb540 64 #[.bool a0_0, .int .u64 t552, .int .u64 t550] (0, 0) _ rfl (by (with_reducible repeat (first | refine blk_drewN ?_ _ | refine blk_drew ?_ | refine blk_alloc ?_ _)); refine blk_put (cs := #[.bool a0_0, .int .u64 t552, .int .u64 0]) ?_ 2 _ rfl; (with_reducible repeat (first | refine blk_drewN ?_ _ | refine blk_drew ?_ | refine blk_alloc ?_ _)); refine blk_put (cs := #[.bool a0_0, .int .u64 0, .int .u64 0]) ?_ 1 _ rfl; (with_reducible repeat (first | refine blk_drewN ?_ _ | refine blk_drew ?_ | refine blk_alloc ?_ _)); refine blk_put (cs := #[.bool false, .int .u64 0, .int .u64 0]) ?_ 0 _ rfl; (with_reducible repeat (first | refine blk_drewN ?_ _ | refine blk_drew ?_ | refine blk_alloc ?_ _)); exact BK540.out) Try.underlying64 rfl (by kernel_rfl)) rfl ?_
   exact ⟨by first | rfl | (simp [errW_none, errW_some] <;> rfl) | (simp [*, errW_none, errW_some] <;> rfl), (zb1 HB)⟩
end Go.Proofs.Ytinpcalgdiigiaa.PD
