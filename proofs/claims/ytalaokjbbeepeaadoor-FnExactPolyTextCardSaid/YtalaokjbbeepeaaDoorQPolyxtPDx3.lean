-- By wip/mk/drv.py
import Derived.Test.YtalaokjbbeepeaaDoorQPolyxtPDx0
import Derived.Test.YtalaokjbbeepeaaDoorQPolyxtPDx1
namespace Go.Proofs.YtalaokjbbeepeaaDoor.PD
open Go.RowKit Go.Proofs.YtalaokjbbeepeaaDoorW.PrintWords Go.Proofs.YtalaokjbbeepeaaDoorW.PrintLast Go.Proofs.YtalaokjbbeepeaaDoorW.PrintMore
attribute [local go_sem] max2_int min2_int max_two min_two max_three min_three max_four min_four
set_option linter.unusedVariables false
set_option linter.unusedSimpArgs false
/-! ### spec_l1Sign: function 42 -/
set_option maxHeartbeats 8000000 in
set_option maxRecDepth 100000 in
theorem spec_l1Sign.calls (a0 : Int) (r : Int) (w : World) (h : spec_l1Sign.f a0 = some r) :
  Calls Tryd.prog 42 #[.int .i64 a0] w fun e w' => e = .returned (.int .i64 r) ∧ Drawn0 w w' := by
 have H : (if a0 > 0 then (some 1) else (if a0 < 0 then (some (-1)) else (some 0))) = some r := h
 clear h
 by_cases c2 : a0 > 0
 ·
  rw [if_pos c2] at H
  have c2b0 : decide (0 < a0) = true := decide_eq_true c2
  clear c2
  obtain rfl := Option.some.inj H
  go_enter Tryd.func42, Tryd.ntmps42
  go_wp2
  go_ret
  exact ⟨by first | rfl | (simp; done) | (simp [*]; done), by repeat (first | exact Drawn0.refl _ | apply Drawn0.step)⟩
 ·
  rw [if_neg c2] at H
  have c2b0 : decide (0 < a0) = false := decide_eq_false c2
  clear c2
  by_cases c3 : a0 < 0
  ·
   rw [if_pos c3] at H
   have c3b0 : decide (a0 < 0) = true := decide_eq_true c3
   clear c3
   obtain rfl := Option.some.inj H
   go_enter Tryd.func42, Tryd.ntmps42
   go_wp2
   go_ret
   exact ⟨by first | rfl | (simp; done) | (simp [*]; done), by repeat (first | exact Drawn0.refl _ | apply Drawn0.step)⟩
  ·
   rw [if_neg c3] at H
   have c3b0 : decide (a0 < 0) = false := decide_eq_false c3
   clear c3
   obtain rfl := Option.some.inj H
   go_enter Tryd.func42, Tryd.ntmps42
   go_wp2
   go_ret
   exact ⟨by first | rfl | (simp; done) | (simp [*]; done), by repeat (first | exact Drawn0.refl _ | apply Drawn0.step)⟩
/-! ### spec_poOrder: function 33 -/
set_option maxHeartbeats 8000000 in
set_option maxRecDepth 100000 in
theorem spec_poOrder.calls (a0_0 : Int) (a0_1 : Int) (a0_2 : Int) (a0_3 : Int) (a1_0 : Int) (a1_1 : Int) (a1_2 : Int) (a1_3 : Int) (r : Int) (w : World) (h : spec_poOrder.f a0_0 a0_1 a0_2 a0_3 a1_0 a1_1 a1_2 a1_3 = some r) :
  Calls Tryd.prog 33 #[.agg #[.int .i64 a0_0, .int .i64 a0_1, .int .i64 a0_2, .int .i64 a0_3], .agg #[.int .i64 a1_0, .int .i64 a1_1, .int .i64 a1_2, .int .i64 a1_3]] w fun e w' => e = .returned (.int .i64 r) ∧ Below w.heap.size w w' := by
 have hu26 := Tryd.underlying26
 have HB := Aside0.mk (Below.refl w.heap.size w)
 have H : (if a0_1 = a1_1 then (if a0_2 = a1_2 then ((spec_l1Sign.f (wrap64 (a0_3 - a1_3))).bind fun t193 => (some t193)) else ((spec_l1Sign.f (wrap64 (a0_2 - a1_2))).bind fun t194 => (some t194))) else ((spec_l1Sign.f (wrap64 (a0_1 - a1_1))).bind fun t195 => (some t195))) = some r := h
 clear h
 by_cases c3 : a0_1 = a1_1
 ·
  rw [if_pos c3] at H
  have c3b0 : (a0_1 == a1_1) = true := beq_iff_eq.mpr c3
  have c3b1 : (a0_1 != a1_1) = false := bne_eq_false_iff_eq.mpr c3
  clear c3
  by_cases c4 : a0_2 = a1_2
  ·
   rw [if_pos c4] at H
   have c4b0 : (a0_2 == a1_2) = true := beq_iff_eq.mpr c4
   have c4b1 : (a0_2 != a1_2) = false := bne_eq_false_iff_eq.mpr c4
   clear c4
   replace H := Option.bind_eq_some_iff.mp H
   obtain ⟨t193, A50, H⟩ := H
   replace H : (some t193) = some r := H
   have A5 := Aside0.mk A50
   clear A50
   obtain rfl := Option.some.inj H
   go_enter Tryd.func33, Tryd.ntmps33
   go_wp2_with (first | ((with_reducible refine gate_dst (N := 2) rfl ?_); refine zbe (N := 2) (cs := #[.int .i64 a0_0, .int .i64 a0_1, .int .i64 a0_2, .int .i64 a0_3]) (t := 26) ?_; intro gb191 hg w6 hbox hb; have BK191 := Aside0.mk (hbox); have GW191 := Aside0.mk (zge (zb0 HB) hg); have GE191 := GW191; replace HB := Aside0.mk (below_step (zb0 HB) hb); clear hb hbox hg) | ((with_reducible refine gate_dst (N := 3) rfl ?_); refine zbe (N := 3) (cs := #[.int .i64 a1_0, .int .i64 a1_1, .int .i64 a1_2, .int .i64 a1_3]) (t := 26) ?_; intro gb192 hg w7 hbox hb; have BK192 := Aside0.mk (hbox); have GW192 := Aside0.mk (zge (zb1 HB) hg); have GE192 := GW192; have NB191_192 := Aside0.mk (zlt BK191 hg); have NB192_191 := Aside0.mk (zgt BK191 hg); replace BK191 := Aside0.mk (zbb BK191 hb); replace HB := Aside0.mk (below_step (zb1 HB) hb); clear hb hbox hg; have hnb8 := NB191_192.out; have hnc8 := NB192_191.out; have hcz9_0 : w7.cell? ⟨gb191, 0, none⟩ = some (.int .i64 a0_0) := zc BK191 0; have hcz9_1 : w7.cell? ⟨gb191, 1, none⟩ = some (.int .i64 a0_1) := zc BK191 1; have hcz9_2 : w7.cell? ⟨gb191, 2, none⟩ = some (.int .i64 a0_2) := zc BK191 2; have hcz9_3 : w7.cell? ⟨gb191, 3, none⟩ = some (.int .i64 a0_3) := zc BK191 3; have hfz9_0 := blk_frozen BK191.out 0; have hfz9_1 := blk_frozen BK191.out 1; have hfz9_2 := blk_frozen BK191.out 2; have hfz9_3 := blk_frozen BK191.out 3; have hcz10_0 : w7.cell? ⟨gb192, 0, none⟩ = some (.int .i64 a1_0) := zc BK192 0; have hcz10_1 : w7.cell? ⟨gb192, 1, none⟩ = some (.int .i64 a1_1) := zc BK192 1; have hcz10_2 : w7.cell? ⟨gb192, 2, none⟩ = some (.int .i64 a1_2) := zc BK192 2; have hcz10_3 : w7.cell? ⟨gb192, 3, none⟩ = some (.int .i64 a1_3) := zc BK192 3; have hfz10_0 := blk_frozen BK192.out 0; have hfz10_1 := blk_frozen BK192.out 1; have hfz10_2 := blk_frozen BK192.out 2; have hfz10_3 := blk_frozen BK192.out 3) | ((with_reducible refine gate_callee (f := 42) rfl ?_); refine goesL_ (some 34) rfl rfl Tryd.func42 (by kernel_rfl) rfl #[.int .i64 (wrap64 (a0_3 - a1_3))] rfl zq6 ?_; (with_reducible refine (spec_l1Sign.calls (wrap64 (a0_3 - a1_3)) t193 _ A5.out).mono ?_); rintro e w' ⟨rfl, ⟨nd, rfl⟩⟩; refine ⟨_, rfl, ?_⟩))
   go_ret
   exact ⟨by first | rfl | (simp [errW_none, errW_some] <;> rfl) | (simp [*, errW_none, errW_some] <;> rfl), (zb1 HB)⟩
  ·
   rw [if_neg c4] at H
   have c4b0 : (a0_2 == a1_2) = false := beq_eq_false_iff_ne.mpr c4
   have c4b1 : (a0_2 != a1_2) = true := bne_iff_ne.mpr c4
   replace H := Option.bind_eq_some_iff.mp H
   obtain ⟨t194, A110, H⟩ := H
   replace H : (some t194) = some r := H
   have A11 := Aside0.mk A110
   clear A110
   obtain rfl := Option.some.inj H
   go_enter Tryd.func33, Tryd.ntmps33
   go_wp2_with (first | ((with_reducible refine gate_dst (N := 2) rfl ?_); refine zbe (N := 2) (cs := #[.int .i64 a0_0, .int .i64 a0_1, .int .i64 a0_2, .int .i64 a0_3]) (t := 26) ?_; intro gb191 hg w12 hbox hb; have BK191 := Aside0.mk (hbox); have GW191 := Aside0.mk (zge (zb0 HB) hg); have GE191 := GW191; replace HB := Aside0.mk (below_step (zb0 HB) hb); clear hb hbox hg) | ((with_reducible refine gate_dst (N := 3) rfl ?_); refine zbe (N := 3) (cs := #[.int .i64 a1_0, .int .i64 a1_1, .int .i64 a1_2, .int .i64 a1_3]) (t := 26) ?_; intro gb192 hg w13 hbox hb; have BK192 := Aside0.mk (hbox); have GW192 := Aside0.mk (zge (zb1 HB) hg); have GE192 := GW192; have NB191_192 := Aside0.mk (zlt BK191 hg); have NB192_191 := Aside0.mk (zgt BK191 hg); replace BK191 := Aside0.mk (zbb BK191 hb); replace HB := Aside0.mk (below_step (zb1 HB) hb); clear hb hbox hg; have hnb14 := NB191_192.out; have hnc14 := NB192_191.out; have hcz15_0 : w13.cell? ⟨gb191, 0, none⟩ = some (.int .i64 a0_0) := zc BK191 0; have hcz15_1 : w13.cell? ⟨gb191, 1, none⟩ = some (.int .i64 a0_1) := zc BK191 1; have hcz15_2 : w13.cell? ⟨gb191, 2, none⟩ = some (.int .i64 a0_2) := zc BK191 2; have hcz15_3 : w13.cell? ⟨gb191, 3, none⟩ = some (.int .i64 a0_3) := zc BK191 3; have hfz15_0 := blk_frozen BK191.out 0; have hfz15_1 := blk_frozen BK191.out 1; have hfz15_2 := blk_frozen BK191.out 2; have hfz15_3 := blk_frozen BK191.out 3; have hcz16_0 : w13.cell? ⟨gb192, 0, none⟩ = some (.int .i64 a1_0) := zc BK192 0; have hcz16_1 : w13.cell? ⟨gb192, 1, none⟩ = some (.int .i64 a1_1) := zc BK192 1; have hcz16_2 : w13.cell? ⟨gb192, 2, none⟩ = some (.int .i64 a1_2) := zc BK192 2; have hcz16_3 : w13.cell? ⟨gb192, 3, none⟩ = some (.int .i64 a1_3) := zc BK192 3; have hfz16_0 := blk_frozen BK192.out 0; have hfz16_1 := blk_frozen BK192.out 1; have hfz16_2 := blk_frozen BK192.out 2; have hfz16_3 := blk_frozen BK192.out 3) | ((with_reducible refine gate_callee (f := 42) rfl ?_); refine goesL_ (some 28) rfl rfl Tryd.func42 (by kernel_rfl) rfl #[.int .i64 (wrap64 (a0_2 - a1_2))] rfl zq6 ?_; (with_reducible refine (spec_l1Sign.calls (wrap64 (a0_2 - a1_2)) t194 _ A11.out).mono ?_); rintro e w' ⟨rfl, ⟨nd, rfl⟩⟩; refine ⟨_, rfl, ?_⟩))
   go_ret
   exact ⟨by first | rfl | (simp [errW_none, errW_some] <;> rfl) | (simp [*, errW_none, errW_some] <;> rfl), (zb1 HB)⟩
 ·
  rw [if_neg c3] at H
  have c3b0 : (a0_1 == a1_1) = false := beq_eq_false_iff_ne.mpr c3
  have c3b1 : (a0_1 != a1_1) = true := bne_iff_ne.mpr c3
  replace H := Option.bind_eq_some_iff.mp H
  obtain ⟨t195, A170, H⟩ := H
  replace H : (some t195) = some r := H
  have A17 := Aside0.mk A170
  clear A170
  obtain rfl := Option.some.inj H
  go_enter Tryd.func33, Tryd.ntmps33
  go_wp2_with (first | ((with_reducible refine gate_dst (N := 2) rfl ?_); refine zbe (N := 2) (cs := #[.int .i64 a0_0, .int .i64 a0_1, .int .i64 a0_2, .int .i64 a0_3]) (t := 26) ?_; intro gb191 hg w18 hbox hb; have BK191 := Aside0.mk (hbox); have GW191 := Aside0.mk (zge (zb0 HB) hg); have GE191 := GW191; replace HB := Aside0.mk (below_step (zb0 HB) hb); clear hb hbox hg) | ((with_reducible refine gate_dst (N := 3) rfl ?_); refine zbe (N := 3) (cs := #[.int .i64 a1_0, .int .i64 a1_1, .int .i64 a1_2, .int .i64 a1_3]) (t := 26) ?_; intro gb192 hg w19 hbox hb; have BK192 := Aside0.mk (hbox); have GW192 := Aside0.mk (zge (zb1 HB) hg); have GE192 := GW192; have NB191_192 := Aside0.mk (zlt BK191 hg); have NB192_191 := Aside0.mk (zgt BK191 hg); replace BK191 := Aside0.mk (zbb BK191 hb); replace HB := Aside0.mk (below_step (zb1 HB) hb); clear hb hbox hg; have hnb20 := NB191_192.out; have hnc20 := NB192_191.out; have hcz21_0 : w19.cell? ⟨gb191, 0, none⟩ = some (.int .i64 a0_0) := zc BK191 0; have hcz21_1 : w19.cell? ⟨gb191, 1, none⟩ = some (.int .i64 a0_1) := zc BK191 1; have hcz21_2 : w19.cell? ⟨gb191, 2, none⟩ = some (.int .i64 a0_2) := zc BK191 2; have hcz21_3 : w19.cell? ⟨gb191, 3, none⟩ = some (.int .i64 a0_3) := zc BK191 3; have hfz21_0 := blk_frozen BK191.out 0; have hfz21_1 := blk_frozen BK191.out 1; have hfz21_2 := blk_frozen BK191.out 2; have hfz21_3 := blk_frozen BK191.out 3; have hcz22_0 : w19.cell? ⟨gb192, 0, none⟩ = some (.int .i64 a1_0) := zc BK192 0; have hcz22_1 : w19.cell? ⟨gb192, 1, none⟩ = some (.int .i64 a1_1) := zc BK192 1; have hcz22_2 : w19.cell? ⟨gb192, 2, none⟩ = some (.int .i64 a1_2) := zc BK192 2; have hcz22_3 : w19.cell? ⟨gb192, 3, none⟩ = some (.int .i64 a1_3) := zc BK192 3; have hfz22_0 := blk_frozen BK192.out 0; have hfz22_1 := blk_frozen BK192.out 1; have hfz22_2 := blk_frozen BK192.out 2; have hfz22_3 := blk_frozen BK192.out 3) | ((with_reducible refine gate_callee (f := 42) rfl ?_); refine goesL_ (some 16) rfl rfl Tryd.func42 (by kernel_rfl) rfl #[.int .i64 (wrap64 (a0_1 - a1_1))] rfl zq6 ?_; (with_reducible refine (spec_l1Sign.calls (wrap64 (a0_1 - a1_1)) t195 _ A17.out).mono ?_); rintro e w' ⟨rfl, ⟨nd, rfl⟩⟩; refine ⟨_, rfl, ?_⟩))
  go_ret
  exact ⟨by first | rfl | (simp [errW_none, errW_some] <;> rfl) | (simp [*, errW_none, errW_some] <;> rfl), (zb1 HB)⟩
/-! ### laws_roomBehind: function 19 -/
set_option maxHeartbeats 8000000 in
set_option maxRecDepth 100000 in
theorem laws_roomBehind.calls (a0 : Int) (r : Int) (w : World) (h : laws_roomBehind.f a0 = some r) :
  Calls Tryd.prog 19 #[.int .i64 a0] w fun e w' => e = .returned (.int .i64 r) ∧ Drawn0 w w' := by
 have H : (if (Int.tmod a0 6) = 5 then (some 0) else (if (Int.tmod a0 3) = 0 then (some 1) else (some a0))) = some r := h
 clear h
 by_cases c2 : (Int.tmod a0 6) = 5
 ·
  rw [if_pos c2] at H
  have c2b0 : ((Int.tmod a0 6) == 5) = true := beq_iff_eq.mpr c2
  have c2b1 : ((Int.tmod a0 6) != 5) = false := bne_eq_false_iff_eq.mpr c2
  clear c2
  obtain rfl := Option.some.inj H
  go_enter Tryd.func19, Tryd.ntmps19
  go_wp2
  go_ret
  exact ⟨by first | rfl | (simp; done) | (simp [*]; done), by repeat (first | exact Drawn0.refl _ | apply Drawn0.step)⟩
 ·
  rw [if_neg c2] at H
  have c2b0 : ((Int.tmod a0 6) == 5) = false := beq_eq_false_iff_ne.mpr c2
  have c2b1 : ((Int.tmod a0 6) != 5) = true := bne_iff_ne.mpr c2
  by_cases c3 : (Int.tmod a0 3) = 0
  ·
   rw [if_pos c3] at H
   have c3b0 : ((Int.tmod a0 3) == 0) = true := beq_iff_eq.mpr c3
   have c3b1 : ((Int.tmod a0 3) != 0) = false := bne_eq_false_iff_eq.mpr c3
   clear c3
   obtain rfl := Option.some.inj H
   go_enter Tryd.func19, Tryd.ntmps19
   go_wp2
   go_ret
   exact ⟨by first | rfl | (simp; done) | (simp [*]; done), by repeat (first | exact Drawn0.refl _ | apply Drawn0.step)⟩
  ·
   rw [if_neg c3] at H
   have c3b0 : ((Int.tmod a0 3) == 0) = false := beq_eq_false_iff_ne.mpr c3
   have c3b1 : ((Int.tmod a0 3) != 0) = true := bne_iff_ne.mpr c3
   obtain rfl := Option.some.inj H
   go_enter Tryd.func19, Tryd.ntmps19
   go_wp2
   go_ret
   exact ⟨by first | rfl | (simp; done) | (simp [*]; done), by repeat (first | exact Drawn0.refl _ | apply Drawn0.step)⟩
theorem laws_roomBehind.at_ (n : Nat) : laws_roomBehind.f (n : Int) = some (room n : Int) := by
 unfold laws_roomBehind.f room
 rw [Int.tmod_eq_emod_of_nonneg (by omega), Int.tmod_eq_emod_of_nonneg (by omega)]
 by_cases h : n % 6 = 5
 ·
  rw [if_pos (by omega), if_pos h]; rfl
 ·
  rw [if_neg (by omega), if_neg h]
  by_cases h2 : n % 3 = 0
  ·
   rw [if_pos (by omega), if_pos h2]; rfl
  ·
   rw [if_neg (by omega), if_neg h2]
/-! ### laws_fillerTerm: function 20 -/
set_option maxHeartbeats 8000000 in
set_option maxRecDepth 100000 in
theorem laws_fillerTerm.calls  (r1 : Int) (r2 : Int) (r3 : Int) (r4 : Int) (w : World) (h : laws_fillerTerm.f  = some (r1, r2, r3, r4)) :
  Calls Tryd.prog 20 #[] w fun e w' => e = .returned (.agg #[.int .i64 r1, .int .i64 r2, .int .i64 r3, .int .i64 r4]) ∧ Below w.heap.size w w' := by
 have hu26 := Tryd.underlying26
 have HB := Aside0.mk (Below.refl w.heap.size w)
 have H : (some ((-7000000000000000101), (-7000000000000000101), (-7000000000000000101), (-7000000000000000101))) = some (r1, r2, r3, r4) := h
 clear h
 simp only [Option.some.injEq, Prod.mk.injEq] at H
 obtain ⟨rfl, rfl, rfl, rfl⟩ := H
 go_enter Tryd.func20, Tryd.ntmps20
 go_wp2_with (first | ((with_reducible refine gate_dst (N := 0) rfl ?_); refine zbe (N := 0) (cs := #[.int .i64 0, .int .i64 0, .int .i64 0, .int .i64 0]) (t := 26) ?_; intro gb205 hg w1 hbox hb; have BK205 := Aside0.mk (hbox); have GW205 := Aside0.mk (zge (zb0 HB) hg); have GE205 := GW205; replace HB := Aside0.mk (below_step (zb0 HB) hb); clear hb hbox hg; have hcz2_0 : w1.cell? ⟨gb205, 0, none⟩ = some (.int .i64 0) := zc BK205 0; have hcz2_1 : w1.cell? ⟨gb205, 1, none⟩ = some (.int .i64 0) := zc BK205 1; have hcz2_2 : w1.cell? ⟨gb205, 2, none⟩ = some (.int .i64 0) := zc BK205 2; have hcz2_3 : w1.cell? ⟨gb205, 3, none⟩ = some (.int .i64 0) := zc BK205 3; have hfz2_0 := blk_frozen BK205.out 0; have hfz2_1 := blk_frozen BK205.out 1; have hfz2_2 := blk_frozen BK205.out 2; have hfz2_3 := blk_frozen BK205.out 3))
 refine bodyPost_ret (results_cell_row rfl _ _ gb205 26 #[.int .i64 (-7000000000000000101), .int .i64 (-7000000000000000101), .int .i64 (-7000000000000000101), .int .i64 (-7000000000000000101)] (0, 0) _ rfl (by (with_reducible repeat (first | refine blk_drewN ?_ _ | refine blk_drew ?_ | refine blk_alloc ?_ _)); refine blk_put (cs := #[.int .i64 (-7000000000000000101), .int .i64 (-7000000000000000101), .int .i64 (-7000000000000000101), .int .i64 0]) ?_ 3 _ rfl; (with_reducible repeat (first | refine blk_drewN ?_ _ | refine blk_drew ?_ | refine blk_alloc ?_ _)); refine blk_put (cs := #[.int .i64 (-7000000000000000101), .int .i64 (-7000000000000000101), .int .i64 0, .int .i64 0]) ?_ 2 _ rfl; (with_reducible repeat (first | refine blk_drewN ?_ _ | refine blk_drew ?_ | refine blk_alloc ?_ _)); refine blk_put (cs := #[.int .i64 (-7000000000000000101), .int .i64 0, .int .i64 0, .int .i64 0]) ?_ 1 _ rfl; (with_reducible repeat (first | refine blk_drewN ?_ _ | refine blk_drew ?_ | refine blk_alloc ?_ _)); refine blk_put (cs := #[.int .i64 0, .int .i64 0, .int .i64 0, .int .i64 0]) ?_ 0 _ rfl; (with_reducible repeat (first | refine blk_drewN ?_ _ | refine blk_drew ?_ | refine blk_alloc ?_ _)); exact BK205.out) Tryd.underlying26 rfl (by kernel_rfl)) rfl ?_
 exact ⟨by first | rfl | (simp [errW_none, errW_some] <;> rfl) | (simp [*, errW_none, errW_some] <;> rfl), (zb1 HB)⟩
/-! ### laws_eqTerm: function 34 -/
set_option maxHeartbeats 8000000 in
set_option maxRecDepth 100000 in
theorem laws_eqTerm.calls (a0_0 : Int) (a0_1 : Int) (a0_2 : Int) (a0_3 : Int) (a1_0 : Int) (a1_1 : Int) (a1_2 : Int) (a1_3 : Int) (r : Bool) (w : World) (h : laws_eqTerm.f a0_0 a0_1 a0_2 a0_3 a1_0 a1_1 a1_2 a1_3 = some r) :
  Calls Tryd.prog 34 #[.agg #[.int .i64 a0_0, .int .i64 a0_1, .int .i64 a0_2, .int .i64 a0_3], .agg #[.int .i64 a1_0, .int .i64 a1_1, .int .i64 a1_2, .int .i64 a1_3]] w fun e w' => e = .returned (.bool r) ∧ Below w.heap.size w w' := by
 have hu26 := Tryd.underlying26
 have HB := Aside0.mk (Below.refl w.heap.size w)
 have H : (if a0_0 = a1_0 then (if a0_1 = a1_1 then (if a0_2 = a1_2 then (if a0_3 = a1_3 then (some true) else (some false)) else (some false)) else (some false)) else (some false)) = some r := h
 clear h
 by_cases c3 : a0_0 = a1_0
 ·
  rw [if_pos c3] at H
  have c3b0 : (a0_0 == a1_0) = true := beq_iff_eq.mpr c3
  have c3b1 : (a0_0 != a1_0) = false := bne_eq_false_iff_eq.mpr c3
  clear c3
  by_cases c4 : a0_1 = a1_1
  ·
   rw [if_pos c4] at H
   have c4b0 : (a0_1 == a1_1) = true := beq_iff_eq.mpr c4
   have c4b1 : (a0_1 != a1_1) = false := bne_eq_false_iff_eq.mpr c4
   clear c4
   by_cases c5 : a0_2 = a1_2
   ·
    rw [if_pos c5] at H
    have c5b0 : (a0_2 == a1_2) = true := beq_iff_eq.mpr c5
    have c5b1 : (a0_2 != a1_2) = false := bne_eq_false_iff_eq.mpr c5
    clear c5
    by_cases c6 : a0_3 = a1_3
    ·
     rw [if_pos c6] at H
     have c6b0 : (a0_3 == a1_3) = true := beq_iff_eq.mpr c6
     have c6b1 : (a0_3 != a1_3) = false := bne_eq_false_iff_eq.mpr c6
     clear c6
     obtain rfl := Option.some.inj H
     go_enter Tryd.func34, Tryd.ntmps34
     go_wp2_with (first | ((with_reducible refine gate_dst (N := 2) rfl ?_); refine zbe (N := 2) (cs := #[.int .i64 a0_0, .int .i64 a0_1, .int .i64 a0_2, .int .i64 a0_3]) (t := 26) ?_; intro gb228 hg w7 hbox hb; have BK228 := Aside0.mk (hbox); have GW228 := Aside0.mk (zge (zb0 HB) hg); have GE228 := GW228; replace HB := Aside0.mk (below_step (zb0 HB) hb); clear hb hbox hg) | ((with_reducible refine gate_dst (N := 3) rfl ?_); refine zbe (N := 3) (cs := #[.int .i64 a1_0, .int .i64 a1_1, .int .i64 a1_2, .int .i64 a1_3]) (t := 26) ?_; intro gb229 hg w8 hbox hb; have BK229 := Aside0.mk (hbox); have GW229 := Aside0.mk (zge (zb1 HB) hg); have GE229 := GW229; have NB228_229 := Aside0.mk (zlt BK228 hg); have NB229_228 := Aside0.mk (zgt BK228 hg); replace BK228 := Aside0.mk (zbb BK228 hb); replace HB := Aside0.mk (below_step (zb1 HB) hb); clear hb hbox hg; have hnb9 := NB228_229.out; have hnc9 := NB229_228.out; have hcz10_0 : w8.cell? ⟨gb228, 0, none⟩ = some (.int .i64 a0_0) := zc BK228 0; have hcz10_1 : w8.cell? ⟨gb228, 1, none⟩ = some (.int .i64 a0_1) := zc BK228 1; have hcz10_2 : w8.cell? ⟨gb228, 2, none⟩ = some (.int .i64 a0_2) := zc BK228 2; have hcz10_3 : w8.cell? ⟨gb228, 3, none⟩ = some (.int .i64 a0_3) := zc BK228 3; have hfz10_0 := blk_frozen BK228.out 0; have hfz10_1 := blk_frozen BK228.out 1; have hfz10_2 := blk_frozen BK228.out 2; have hfz10_3 := blk_frozen BK228.out 3; have hcz11_0 : w8.cell? ⟨gb229, 0, none⟩ = some (.int .i64 a1_0) := zc BK229 0; have hcz11_1 : w8.cell? ⟨gb229, 1, none⟩ = some (.int .i64 a1_1) := zc BK229 1; have hcz11_2 : w8.cell? ⟨gb229, 2, none⟩ = some (.int .i64 a1_2) := zc BK229 2; have hcz11_3 : w8.cell? ⟨gb229, 3, none⟩ = some (.int .i64 a1_3) := zc BK229 3; have hfz11_0 := blk_frozen BK229.out 0; have hfz11_1 := blk_frozen BK229.out 1; have hfz11_2 := blk_frozen BK229.out 2; have hfz11_3 := blk_frozen BK229.out 3))
     go_ret
     exact ⟨by first | rfl | (simp [errW_none, errW_some] <;> rfl) | (simp [*, errW_none, errW_some] <;> rfl), (zb1 HB)⟩
    ·
     rw [if_neg c6] at H
     have c6b0 : (a0_3 == a1_3) = false := beq_eq_false_iff_ne.mpr c6
     have c6b1 : (a0_3 != a1_3) = true := bne_iff_ne.mpr c6
     obtain rfl := Option.some.inj H
     go_enter Tryd.func34, Tryd.ntmps34
     go_wp2_with (first | ((with_reducible refine gate_dst (N := 2) rfl ?_); refine zbe (N := 2) (cs := #[.int .i64 a0_0, .int .i64 a0_1, .int .i64 a0_2, .int .i64 a0_3]) (t := 26) ?_; intro gb228 hg w12 hbox hb; have BK228 := Aside0.mk (hbox); have GW228 := Aside0.mk (zge (zb0 HB) hg); have GE228 := GW228; replace HB := Aside0.mk (below_step (zb0 HB) hb); clear hb hbox hg) | ((with_reducible refine gate_dst (N := 3) rfl ?_); refine zbe (N := 3) (cs := #[.int .i64 a1_0, .int .i64 a1_1, .int .i64 a1_2, .int .i64 a1_3]) (t := 26) ?_; intro gb229 hg w13 hbox hb; have BK229 := Aside0.mk (hbox); have GW229 := Aside0.mk (zge (zb1 HB) hg); have GE229 := GW229; have NB228_229 := Aside0.mk (zlt BK228 hg); have NB229_228 := Aside0.mk (zgt BK228 hg); replace BK228 := Aside0.mk (zbb BK228 hb); replace HB := Aside0.mk (below_step (zb1 HB) hb); clear hb hbox hg; have hnb14 := NB228_229.out; have hnc14 := NB229_228.out; have hcz15_0 : w13.cell? ⟨gb228, 0, none⟩ = some (.int .i64 a0_0) := zc BK228 0; have hcz15_1 : w13.cell? ⟨gb228, 1, none⟩ = some (.int .i64 a0_1) := zc BK228 1; have hcz15_2 : w13.cell? ⟨gb228, 2, none⟩ = some (.int .i64 a0_2) := zc BK228 2; have hcz15_3 : w13.cell? ⟨gb228, 3, none⟩ = some (.int .i64 a0_3) := zc BK228 3; have hfz15_0 := blk_frozen BK228.out 0; have hfz15_1 := blk_frozen BK228.out 1; have hfz15_2 := blk_frozen BK228.out 2; have hfz15_3 := blk_frozen BK228.out 3; have hcz16_0 : w13.cell? ⟨gb229, 0, none⟩ = some (.int .i64 a1_0) := zc BK229 0; have hcz16_1 : w13.cell? ⟨gb229, 1, none⟩ = some (.int .i64 a1_1) := zc BK229 1; have hcz16_2 : w13.cell? ⟨gb229, 2, none⟩ = some (.int .i64 a1_2) := zc BK229 2; have hcz16_3 : w13.cell? ⟨gb229, 3, none⟩ = some (.int .i64 a1_3) := zc BK229 3; have hfz16_0 := blk_frozen BK229.out 0; have hfz16_1 := blk_frozen BK229.out 1; have hfz16_2 := blk_frozen BK229.out 2; have hfz16_3 := blk_frozen BK229.out 3))
     go_ret
     exact ⟨by first | rfl | (simp [errW_none, errW_some] <;> rfl) | (simp [*, errW_none, errW_some] <;> rfl), (zb1 HB)⟩
   ·
    rw [if_neg c5] at H
    have c5b0 : (a0_2 == a1_2) = false := beq_eq_false_iff_ne.mpr c5
    have c5b1 : (a0_2 != a1_2) = true := bne_iff_ne.mpr c5
    obtain rfl := Option.some.inj H
    go_enter Tryd.func34, Tryd.ntmps34
    go_wp2_with (first | ((with_reducible refine gate_dst (N := 2) rfl ?_); refine zbe (N := 2) (cs := #[.int .i64 a0_0, .int .i64 a0_1, .int .i64 a0_2, .int .i64 a0_3]) (t := 26) ?_; intro gb228 hg w17 hbox hb; have BK228 := Aside0.mk (hbox); have GW228 := Aside0.mk (zge (zb0 HB) hg); have GE228 := GW228; replace HB := Aside0.mk (below_step (zb0 HB) hb); clear hb hbox hg) | ((with_reducible refine gate_dst (N := 3) rfl ?_); refine zbe (N := 3) (cs := #[.int .i64 a1_0, .int .i64 a1_1, .int .i64 a1_2, .int .i64 a1_3]) (t := 26) ?_; intro gb229 hg w18 hbox hb; have BK229 := Aside0.mk (hbox); have GW229 := Aside0.mk (zge (zb1 HB) hg); have GE229 := GW229; have NB228_229 := Aside0.mk (zlt BK228 hg); have NB229_228 := Aside0.mk (zgt BK228 hg); replace BK228 := Aside0.mk (zbb BK228 hb); replace HB := Aside0.mk (below_step (zb1 HB) hb); clear hb hbox hg; have hnb19 := NB228_229.out; have hnc19 := NB229_228.out; have hcz20_0 : w18.cell? ⟨gb228, 0, none⟩ = some (.int .i64 a0_0) := zc BK228 0; have hcz20_1 : w18.cell? ⟨gb228, 1, none⟩ = some (.int .i64 a0_1) := zc BK228 1; have hcz20_2 : w18.cell? ⟨gb228, 2, none⟩ = some (.int .i64 a0_2) := zc BK228 2; have hcz20_3 : w18.cell? ⟨gb228, 3, none⟩ = some (.int .i64 a0_3) := zc BK228 3; have hfz20_0 := blk_frozen BK228.out 0; have hfz20_1 := blk_frozen BK228.out 1; have hfz20_2 := blk_frozen BK228.out 2; have hfz20_3 := blk_frozen BK228.out 3; have hcz21_0 : w18.cell? ⟨gb229, 0, none⟩ = some (.int .i64 a1_0) := zc BK229 0; have hcz21_1 : w18.cell? ⟨gb229, 1, none⟩ = some (.int .i64 a1_1) := zc BK229 1; have hcz21_2 : w18.cell? ⟨gb229, 2, none⟩ = some (.int .i64 a1_2) := zc BK229 2; have hcz21_3 : w18.cell? ⟨gb229, 3, none⟩ = some (.int .i64 a1_3) := zc BK229 3; have hfz21_0 := blk_frozen BK229.out 0; have hfz21_1 := blk_frozen BK229.out 1; have hfz21_2 := blk_frozen BK229.out 2; have hfz21_3 := blk_frozen BK229.out 3))
    go_ret
    exact ⟨by first | rfl | (simp [errW_none, errW_some] <;> rfl) | (simp [*, errW_none, errW_some] <;> rfl), (zb1 HB)⟩
  ·
   rw [if_neg c4] at H
   have c4b0 : (a0_1 == a1_1) = false := beq_eq_false_iff_ne.mpr c4
   have c4b1 : (a0_1 != a1_1) = true := bne_iff_ne.mpr c4
   obtain rfl := Option.some.inj H
   go_enter Tryd.func34, Tryd.ntmps34
   go_wp2_with (first | ((with_reducible refine gate_dst (N := 2) rfl ?_); refine zbe (N := 2) (cs := #[.int .i64 a0_0, .int .i64 a0_1, .int .i64 a0_2, .int .i64 a0_3]) (t := 26) ?_; intro gb228 hg w22 hbox hb; have BK228 := Aside0.mk (hbox); have GW228 := Aside0.mk (zge (zb0 HB) hg); have GE228 := GW228; replace HB := Aside0.mk (below_step (zb0 HB) hb); clear hb hbox hg) | ((with_reducible refine gate_dst (N := 3) rfl ?_); refine zbe (N := 3) (cs := #[.int .i64 a1_0, .int .i64 a1_1, .int .i64 a1_2, .int .i64 a1_3]) (t := 26) ?_; intro gb229 hg w23 hbox hb; have BK229 := Aside0.mk (hbox); have GW229 := Aside0.mk (zge (zb1 HB) hg); have GE229 := GW229; have NB228_229 := Aside0.mk (zlt BK228 hg); have NB229_228 := Aside0.mk (zgt BK228 hg); replace BK228 := Aside0.mk (zbb BK228 hb); replace HB := Aside0.mk (below_step (zb1 HB) hb); clear hb hbox hg; have hnb24 := NB228_229.out; have hnc24 := NB229_228.out; have hcz25_0 : w23.cell? ⟨gb228, 0, none⟩ = some (.int .i64 a0_0) := zc BK228 0; have hcz25_1 : w23.cell? ⟨gb228, 1, none⟩ = some (.int .i64 a0_1) := zc BK228 1; have hcz25_2 : w23.cell? ⟨gb228, 2, none⟩ = some (.int .i64 a0_2) := zc BK228 2; have hcz25_3 : w23.cell? ⟨gb228, 3, none⟩ = some (.int .i64 a0_3) := zc BK228 3; have hfz25_0 := blk_frozen BK228.out 0; have hfz25_1 := blk_frozen BK228.out 1; have hfz25_2 := blk_frozen BK228.out 2; have hfz25_3 := blk_frozen BK228.out 3; have hcz26_0 : w23.cell? ⟨gb229, 0, none⟩ = some (.int .i64 a1_0) := zc BK229 0; have hcz26_1 : w23.cell? ⟨gb229, 1, none⟩ = some (.int .i64 a1_1) := zc BK229 1; have hcz26_2 : w23.cell? ⟨gb229, 2, none⟩ = some (.int .i64 a1_2) := zc BK229 2; have hcz26_3 : w23.cell? ⟨gb229, 3, none⟩ = some (.int .i64 a1_3) := zc BK229 3; have hfz26_0 := blk_frozen BK229.out 0; have hfz26_1 := blk_frozen BK229.out 1; have hfz26_2 := blk_frozen BK229.out 2; have hfz26_3 := blk_frozen BK229.out 3))
   go_ret
   exact ⟨by first | rfl | (simp [errW_none, errW_some] <;> rfl) | (simp [*, errW_none, errW_some] <;> rfl), (zb1 HB)⟩
 ·
  rw [if_neg c3] at H
  have c3b0 : (a0_0 == a1_0) = false := beq_eq_false_iff_ne.mpr c3
  have c3b1 : (a0_0 != a1_0) = true := bne_iff_ne.mpr c3
  obtain rfl := Option.some.inj H
  go_enter Tryd.func34, Tryd.ntmps34
  go_wp2_with (first | ((with_reducible refine gate_dst (N := 2) rfl ?_); refine zbe (N := 2) (cs := #[.int .i64 a0_0, .int .i64 a0_1, .int .i64 a0_2, .int .i64 a0_3]) (t := 26) ?_; intro gb228 hg w27 hbox hb; have BK228 := Aside0.mk (hbox); have GW228 := Aside0.mk (zge (zb0 HB) hg); have GE228 := GW228; replace HB := Aside0.mk (below_step (zb0 HB) hb); clear hb hbox hg) | ((with_reducible refine gate_dst (N := 3) rfl ?_); refine zbe (N := 3) (cs := #[.int .i64 a1_0, .int .i64 a1_1, .int .i64 a1_2, .int .i64 a1_3]) (t := 26) ?_; intro gb229 hg w28 hbox hb; have BK229 := Aside0.mk (hbox); have GW229 := Aside0.mk (zge (zb1 HB) hg); have GE229 := GW229; have NB228_229 := Aside0.mk (zlt BK228 hg); have NB229_228 := Aside0.mk (zgt BK228 hg); replace BK228 := Aside0.mk (zbb BK228 hb); replace HB := Aside0.mk (below_step (zb1 HB) hb); clear hb hbox hg; have hnb29 := NB228_229.out; have hnc29 := NB229_228.out; have hcz30_0 : w28.cell? ⟨gb228, 0, none⟩ = some (.int .i64 a0_0) := zc BK228 0; have hcz30_1 : w28.cell? ⟨gb228, 1, none⟩ = some (.int .i64 a0_1) := zc BK228 1; have hcz30_2 : w28.cell? ⟨gb228, 2, none⟩ = some (.int .i64 a0_2) := zc BK228 2; have hcz30_3 : w28.cell? ⟨gb228, 3, none⟩ = some (.int .i64 a0_3) := zc BK228 3; have hfz30_0 := blk_frozen BK228.out 0; have hfz30_1 := blk_frozen BK228.out 1; have hfz30_2 := blk_frozen BK228.out 2; have hfz30_3 := blk_frozen BK228.out 3; have hcz31_0 : w28.cell? ⟨gb229, 0, none⟩ = some (.int .i64 a1_0) := zc BK229 0; have hcz31_1 : w28.cell? ⟨gb229, 1, none⟩ = some (.int .i64 a1_1) := zc BK229 1; have hcz31_2 : w28.cell? ⟨gb229, 2, none⟩ = some (.int .i64 a1_2) := zc BK229 2; have hcz31_3 : w28.cell? ⟨gb229, 3, none⟩ = some (.int .i64 a1_3) := zc BK229 3; have hfz31_0 := blk_frozen BK229.out 0; have hfz31_1 := blk_frozen BK229.out 1; have hfz31_2 := blk_frozen BK229.out 2; have hfz31_3 := blk_frozen BK229.out 3))
  go_ret
  exact ⟨by first | rfl | (simp [errW_none, errW_some] <;> rfl) | (simp [*, errW_none, errW_some] <;> rfl), (zb1 HB)⟩
end Go.Proofs.YtalaokjbbeepeaaDoor.PD
