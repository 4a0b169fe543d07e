-- By wip/mk/drv.py
import Derived.Test.YtgaoniapddpaaaaQVoluOfPDx0
import Derived.Test.YtgaoniapddpaaaaQVoluOfPDx1
import Derived.Test.YtgaoniapddpaaaaQVoluOfPDx8
import Derived.Test.YtgaoniapddpaaaaQVoluOfPDx27
import Derived.Test.YtgaoniapddpaaaaQVoluOfPDx30
namespace Go.Proofs.Ytgaoniapddpaaaa.PD
open Go.RowKit Go.Proofs.YtgaoniapddpaaaaW.PrintWords Go.Proofs.YtgaoniapddpaaaaW.PrintLast Go.Proofs.YtgaoniapddpaaaaW.PrintMore
attribute [local go_sem] max2_int min2_int max_two min_two max_three min_three max_four min_four
set_option linter.unusedVariables false
set_option linter.unusedSimpArgs false
/-! ### impl_VolumeOf: function 27 -/
theorem z27_0 {P Q : Prop} (h : Aside0 (Q)) (f : Q → P := by intro h_; repeat (first | (with_reducible first | exact h_ | apply IsS27.alloc | apply IsS27.drewN | apply IsS27.drew | apply IsS27.set_0 | refine IsS27.far ?_ (Aside0.out (by assumption)) _) | exact h_)) : P := f h.out
theorem z27_1 {w W0 W1 : World} {B : Nat} (h : Aside0 (Below B w W0)) (f : Below B w W0 → Below B w W1 := by intro h_; repeat (first | (with_reducible first | exact h_ | apply below_alloc | apply pw_below_drewN | apply below_drew1 | refine below_set ?_ (IsS27.ge (Aside0.out (by assumption))) | refine below_set ?_ (Aside0.out (by assumption))) | exact h_)) : Below B w W1 := f h.out
set_option maxHeartbeats 8000000 in
set_option maxRecDepth 100000 in
theorem impl_VolumeOf.calls (k : Nat) (a0_0 : Int) (A0_1 : Option Addr) (c0_1 : Nat) (l0_1 : List Int) (A0_2 : Option Addr) (c0_2 : Nat) (l0_2 : List Int) (r1 : Int) (r2 : Int) (r3 : Bool) (w : World) (hr0_1 : Kd.C (Kd.int .i64) w A0_1 l0_1.length l0_1) (hc0_1 : l0_1.length ≤ c0_1) (hr0_2 : Kd.C (Kd.int .i64) w A0_2 l0_2.length l0_2) (hc0_2 : l0_2.length ≤ c0_2) (h : impl_VolumeOf.f k a0_0 l0_1 l0_2 = some (r1, r2, r3)) :
  Calls Try.prog 27 #[.agg #[.int .i64 a0_0, .slice A0_1 l0_1.length c0_1, .slice A0_2 l0_2.length c0_2]] w fun e w' => e = .returned (.tuple #[.agg #[.int .i64 r1, .int .i64 r2], .bool r3]) ∧ Below w.heap.size w w' := by
 have hu27 := Try.underlying27
 have hu37 := Try.underlying37
 have HR0_1 := Aside0.mk hr0_1
 have HC0_1 := Aside0.mk hc0_1
 clear hr0_1 hc0_1
 have HR0_2 := Aside0.mk hr0_2
 have HC0_2 := Aside0.mk hc0_2
 clear hr0_2 hc0_2
 have HB := Aside0.mk (Below.refl w.heap.size w)
 have H : ((impl_isBox.f k a0_0 l0_1 l0_2).bind fun bt363 => (if bt363.1 = true then ((impl_Box_volume.f k bt363.2 l0_1 l0_2).bind fun bt365 => (some (bt365.1, bt365.2.1, bt365.2.2.1))) else (some (0, 0, false)))) = some (r1, r2, r3) := h
 clear h
 replace H := Option.bind_eq_some_iff.mp H
 obtain ⟨⟨t363, t364⟩, A20, H⟩ := H
 replace H : (if t363 = true then ((impl_Box_volume.f k t364 l0_1 l0_2).bind fun bt365 => (some (bt365.1, bt365.2.1, bt365.2.2.1))) else (some (0, 0, false))) = some (r1, r2, r3) := H
 have A2 := Aside0.mk A20
 clear A20
 by_cases c3 : t363 = true
 ·
  subst c3
  have H1 : ((impl_Box_volume.f k t364 l0_1 l0_2).bind fun bt365 => (some (bt365.1, bt365.2.1, bt365.2.2.1))) = some (r1, r2, r3) := by rw [if_pos rfl] at H; exact H
  clear H
  have H := H1
  clear H1
  replace H := Option.bind_eq_some_iff.mp H
  obtain ⟨⟨t365, t366, t367, t368⟩, A40, H⟩ := H
  replace H : (some (t365, t366, t367)) = some (r1, r2, r3) := H
  have A4 := Aside0.mk A40
  clear A40
  simp only [Option.some.injEq, Prod.mk.injEq] at H
  obtain ⟨rfl, rfl, rfl⟩ := H
  go_enter Try.func27, Try.ntmps27
  go_wp2_with (first | ((with_reducible refine gate_dst (N := 1) rfl ?_); refine zbe (N := 1) (cs := #[.int .i64 a0_0, .slice A0_1 l0_1.length c0_1, .slice A0_2 l0_2.length c0_2]) (t := 27) ?_; intro gb361 hg w5 hbox hb; have BK361 := Aside0.mk (hbox); have GW361 := Aside0.mk (zge (zb0 HB) hg); have GE361 := GW361; replace HB := Aside0.mk (below_step (zb0 HB) hb); clear hb hbox hg) | ((with_reducible refine gate_dst (N := 2) rfl ?_); refine zbe (N := 2) (cs := #[.int .i64 0, .int .i64 0]) (t := 37) ?_; intro gb362 hg w6 hbox hb; have BK362 := Aside0.mk (hbox); have GW362 := Aside0.mk (zge (zb1 HB) hg); have GE362 := GW362; have NB361_362 := Aside0.mk (zlt BK361 hg); have NB362_361 := Aside0.mk (zgt BK361 hg); replace BK361 := Aside0.mk (zbb BK361 hb); replace HB := Aside0.mk (below_step (zb1 HB) hb); clear hb hbox hg; have HI361 : Aside0 (IsS27 w w6 gb361 a0_0 l0_1 l0_2) := ⟨⟨A0_1, c0_1, A0_2, c0_2, (zq1 BK361), GE361.out, HR0_1.out, HR0_2.out⟩⟩) | ((with_reducible refine gate_callee (f := 57) rfl ?_); refine goesL_ (some 4) rfl rfl Try.func57 (by kernel_rfl) rfl #[.pointer (some ⟨gb361, 0, none⟩)] rfl zq6 ?_; (with_reducible refine (impl_isBox.calls k gb361 a0_0 l0_1 l0_2 true t364 w _ ?side1 ?side2 A2.out).mono ?_); (case side1 => exact z27_0 HI361); (case side2 => exact z27_1 HB); rintro e w7 ⟨rfl, hi, hb, hk⟩; refine ⟨_, rfl, ?_⟩; replace BK362 := Aside0.mk (KeepBut.blk hk (zq1 BK362) NB362_361.out (by simp)); replace HB := Aside0.mk (hb); replace HI361 := Aside0.mk (hi); (try clear hb); (try clear hb2); (try clear hk); (try clear hi)) | ((with_reducible refine gate_callee (f := 68) rfl ?_); refine goesL_ (some 7) rfl rfl Try.func68 (by kernel_rfl) rfl #[.pointer (some ⟨gb361, 0, none⟩)] rfl zq6 ?_; (with_reducible refine (impl_Box_volume.calls k gb361 t364 l0_1 l0_2 t365 t366 t367 t368 w _ ?side1 ?side2 A4.out).mono ?_); (case side1 => exact z27_0 HI361); (case side2 => exact z27_1 HB); rintro e w8 ⟨rfl, hi, hb, hk⟩; refine ⟨_, rfl, ?_⟩; replace BK362 := Aside0.mk (KeepBut.blk hk (zq1 BK362) NB362_361.out (by simp)); replace HB := Aside0.mk (hb); replace HI361 := Aside0.mk (hi); (try clear hb); (try clear hb2); (try clear hk); (try clear hi); have hnb9 := NB362_361.out; have hnc9 := NB361_362.out; have hcz10_0 : w8.cell? ⟨gb362, 0, none⟩ = some (.int .i64 0) := zc BK362 0; have hcz10_1 : w8.cell? ⟨gb362, 1, none⟩ = some (.int .i64 0) := zc BK362 1; have hfz10_0 := blk_frozen BK362.out 0; have hfz10_1 := blk_frozen BK362.out 1))
  refine bodyPost_ret (results_ct rfl _ _ gb362 37 #[.int .i64 t365, .int .i64 t366] (0, 0) _ rfl (by (with_reducible repeat (first | refine blk_drewN ?_ _ | refine blk_drew ?_ | refine blk_alloc ?_ _)); refine blk_put (cs := #[.int .i64 t365, .int .i64 0]) ?_ 1 _ rfl; (with_reducible repeat (first | refine blk_drewN ?_ _ | refine blk_drew ?_ | refine blk_alloc ?_ _)); refine blk_put (cs := #[.int .i64 0, .int .i64 0]) ?_ 0 _ rfl; (with_reducible repeat (first | refine blk_drewN ?_ _ | refine blk_drew ?_ | refine blk_alloc ?_ _)); exact BK362.out) Try.underlying37 rfl (by kernel_rfl)) rfl ?_
  exact ⟨by first | rfl | (simp [errW_none, errW_some] <;> rfl) | (simp [*, errW_none, errW_some] <;> rfl), (z27_1 HB)⟩
 ·
  replace c3 := Bool.eq_false_iff.mpr c3
  subst c3
  have H1 : (some (0, 0, false)) = some (r1, r2, r3) := by rw [if_neg (show ¬ (false = true) by decide)] at H; exact H
  clear H
  have H := H1
  clear H1
  simp only [Option.some.injEq, Prod.mk.injEq] at H
  obtain ⟨rfl, rfl, rfl⟩ := H
  go_enter Try.func27, Try.ntmps27
  go_wp2_with (first | ((with_reducible refine gate_dst (N := 1) rfl ?_); refine zbe (N := 1) (cs := #[.int .i64 a0_0, .slice A0_1 l0_1.length c0_1, .slice A0_2 l0_2.length c0_2]) (t := 27) ?_; intro gb361 hg w11 hbox hb; have BK361 := Aside0.mk (hbox); have GW361 := Aside0.mk (zge (zb0 HB) hg); have GE361 := GW361; replace HB := Aside0.mk (below_step (zb0 HB) hb); clear hb hbox hg) | ((with_reducible refine gate_dst (N := 2) rfl ?_); refine zbe (N := 2) (cs := #[.int .i64 0, .int .i64 0]) (t := 37) ?_; intro gb362 hg w12 hbox hb; have BK362 := Aside0.mk (hbox); have GW362 := Aside0.mk (zge (zb1 HB) hg); have GE362 := GW362; have NB361_362 := Aside0.mk (zlt BK361 hg); have NB362_361 := Aside0.mk (zgt BK361 hg); replace BK361 := Aside0.mk (zbb BK361 hb); replace HB := Aside0.mk (below_step (zb1 HB) hb); clear hb hbox hg; have HI361 : Aside0 (IsS27 w w12 gb361 a0_0 l0_1 l0_2) := ⟨⟨A0_1, c0_1, A0_2, c0_2, (zq1 BK361), GE361.out, HR0_1.out, HR0_2.out⟩⟩) | ((with_reducible refine gate_callee (f := 57) rfl ?_); refine goesL_ (some 4) rfl rfl Try.func57 (by kernel_rfl) rfl #[.pointer (some ⟨gb361, 0, none⟩)] rfl zq6 ?_; (with_reducible refine (impl_isBox.calls k gb361 a0_0 l0_1 l0_2 false t364 w _ ?side1 ?side2 A2.out).mono ?_); (case side1 => exact z27_0 HI361); (case side2 => exact z27_1 HB); rintro e w13 ⟨rfl, hi, hb, hk⟩; refine ⟨_, rfl, ?_⟩; replace BK362 := Aside0.mk (KeepBut.blk hk (zq1 BK362) NB362_361.out (by simp)); replace HB := Aside0.mk (hb); replace HI361 := Aside0.mk (hi); (try clear hb); (try clear hb2); (try clear hk); (try clear hi); have hnb14 := NB362_361.out; have hnc14 := NB361_362.out; have hcz15_0 : w13.cell? ⟨gb362, 0, none⟩ = some (.int .i64 0) := zc BK362 0; have hcz15_1 : w13.cell? ⟨gb362, 1, none⟩ = some (.int .i64 0) := zc BK362 1; have hfz15_0 := blk_frozen BK362.out 0; have hfz15_1 := blk_frozen BK362.out 1))
  refine bodyPost_ret (results_ct rfl _ _ gb362 37 #[.int .i64 0, .int .i64 0] (0, 0) _ rfl (by (with_reducible repeat (first | refine blk_drewN ?_ _ | refine blk_drew ?_ | refine blk_alloc ?_ _)); refine blk_put (cs := #[.int .i64 0, .int .i64 0]) ?_ 1 _ rfl; (with_reducible repeat (first | refine blk_drewN ?_ _ | refine blk_drew ?_ | refine blk_alloc ?_ _)); refine blk_put (cs := #[.int .i64 0, .int .i64 0]) ?_ 0 _ rfl; (with_reducible repeat (first | refine blk_drewN ?_ _ | refine blk_drew ?_ | refine blk_alloc ?_ _)); exact BK362.out) Try.underlying37 rfl (by kernel_rfl)) rfl ?_
  exact ⟨by first | rfl | (simp [errW_none, errW_some] <;> rfl) | (simp [*, errW_none, errW_some] <;> rfl), (z27_1 HB)⟩
end Go.Proofs.Ytgaoniapddpaaaa.PD
