-- By wip/mk/drv.py
import Derived.Test.YtinpcalgdiigiaaQDivilsPDx0
import Derived.Test.YtinpcalgdiigiaaQDivilsPDx1
import Derived.Test.YtinpcalgdiigiaaQDivilsPDx6
namespace Go.Proofs.Ytinpcalgdiigiaa.PD
open Go.RowKit Go.Proofs.YtinpcalgdiigiaaW.PrintWords Go.Proofs.YtinpcalgdiigiaaW.PrintLast Go.Proofs.YtinpcalgdiigiaaW.PrintMore
attribute [local go_sem] max2_int min2_int max_two min_two max_three min_three max_four min_four
set_option linter.unusedVariables false
set_option linter.unusedSimpArgs false
/-! ### spec_ivTwo: function 45 -/
set_option maxHeartbeats 8000000 in
set_option maxRecDepth 100000 in
theorem spec_ivTwo.calls (k : Nat) (a0_0 : Int) (a0_1 : Int) (a0_2 : Int) (a0_3 : Int) (a1_0 : Int) (a1_1 : Int) (a1_2 : Int) (a1_3 : Int) (r : Bool) (w : World) (h : spec_ivTwo.f k a0_0 a0_1 a0_2 a0_3 a1_0 a1_1 a1_2 a1_3 = some r) :
  Calls Try.prog 45 #[.agg #[.int .i64 a0_0, .int .i64 a0_1, .int .i64 a0_2, .int .i64 a0_3], .agg #[.int .i64 a1_0, .int .i64 a1_1, .int .i64 a1_2, .int .i64 a1_3]] w fun e w' => e = .returned (.bool r) ∧ Below w.heap.size w w' := by
 have hu29 := Try.underlying29
 have HB := Aside0.mk (Below.refl w.heap.size w)
 have H : ((spec_ivGood.f k a0_0 a0_1 a0_2 a0_3).bind fun t198 => (if t198 = true then ((spec_ivGood.f k a1_0 a1_1 a1_2 a1_3).bind fun t199 => (some t199)) else (some false))) = some r := h
 clear h
 replace H := Option.bind_eq_some_iff.mp H
 obtain ⟨t198, A30, H⟩ := H
 replace H : (if t198 = true then ((spec_ivGood.f k a1_0 a1_1 a1_2 a1_3).bind fun t199 => (some t199)) else (some false)) = some r := H
 have A3 := Aside0.mk A30
 clear A30
 by_cases c4 : t198 = true
 ·
  subst c4
  have H1 : ((spec_ivGood.f k a1_0 a1_1 a1_2 a1_3).bind fun t199 => (some t199)) = some r := by rw [if_pos rfl] at H; exact H
  clear H
  have H := H1
  clear H1
  replace H := Option.bind_eq_some_iff.mp H
  obtain ⟨t199, A50, H⟩ := H
  replace H : (some t199) = some r := H
  have A5 := Aside0.mk A50
  clear A50
  obtain rfl := Option.some.inj H
  go_enter Try.func45, Try.ntmps45
  go_wp2_with (first | ((with_reducible refine gate_dst (N := 2) rfl ?_); refine zbe (N := 2) (cs := #[.int .i64 a0_0, .int .i64 a0_1, .int .i64 a0_2, .int .i64 a0_3]) (t := 29) ?_; intro gb196 hg w6 hbox hb; have BK196 := Aside0.mk (hbox); have GW196 := Aside0.mk (zge (zb0 HB) hg); have GE196 := GW196; replace HB := Aside0.mk (below_step (zb0 HB) hb); clear hb hbox hg) | ((with_reducible refine gate_dst (N := 3) rfl ?_); refine zbe (N := 3) (cs := #[.int .i64 a1_0, .int .i64 a1_1, .int .i64 a1_2, .int .i64 a1_3]) (t := 29) ?_; intro gb197 hg w7 hbox hb; have BK197 := Aside0.mk (hbox); have GW197 := Aside0.mk (zge (zb1 HB) hg); have GE197 := GW197; have NB196_197 := Aside0.mk (zlt BK196 hg); have NB197_196 := Aside0.mk (zgt BK196 hg); replace BK196 := Aside0.mk (zbb BK196 hb); replace HB := Aside0.mk (below_step (zb1 HB) hb); clear hb hbox hg; have hnb8 := NB196_197.out; have hnc8 := NB197_196.out; have hcz9_0 : w7.cell? ⟨gb196, 0, none⟩ = some (.int .i64 a0_0) := zc BK196 0; have hcz9_1 : w7.cell? ⟨gb196, 1, none⟩ = some (.int .i64 a0_1) := zc BK196 1; have hcz9_2 : w7.cell? ⟨gb196, 2, none⟩ = some (.int .i64 a0_2) := zc BK196 2; have hcz9_3 : w7.cell? ⟨gb196, 3, none⟩ = some (.int .i64 a0_3) := zc BK196 3; have hfz9_0 := blk_frozen BK196.out 0; have hfz9_1 := blk_frozen BK196.out 1; have hfz9_2 := blk_frozen BK196.out 2; have hfz9_3 := blk_frozen BK196.out 3) | ((with_reducible refine gate_callee (f := 42) rfl ?_); refine goesL_ (some 6) rfl rfl Try.func42 (by kernel_rfl) rfl #[.agg #[.int .i64 a0_0, .int .i64 a0_1, .int .i64 a0_2, .int .i64 a0_3]] rfl zq6 ?_; (with_reducible refine (spec_ivGood.calls k a0_0 a0_1 a0_2 a0_3 true _ A3.out).mono ?_); rintro e w10 ⟨rfl, hb⟩; refine ⟨_, rfl, ?_⟩; replace BK196 := Aside0.mk (zbb BK196 hb); replace BK197 := Aside0.mk (zbb BK197 hb); replace HB := Aside0.mk (below_step (zb1 HB) hb); (try clear hb); (try clear hb2); (try clear hk); (try clear hi); have hcz11_0 : w10.cell? ⟨gb197, 0, none⟩ = some (.int .i64 a1_0) := zc BK197 0; have hcz11_1 : w10.cell? ⟨gb197, 1, none⟩ = some (.int .i64 a1_1) := zc BK197 1; have hcz11_2 : w10.cell? ⟨gb197, 2, none⟩ = some (.int .i64 a1_2) := zc BK197 2; have hcz11_3 : w10.cell? ⟨gb197, 3, none⟩ = some (.int .i64 a1_3) := zc BK197 3; have hfz11_0 := blk_frozen BK197.out 0; have hfz11_1 := blk_frozen BK197.out 1; have hfz11_2 := blk_frozen BK197.out 2; have hfz11_3 := blk_frozen BK197.out 3) | (go_at_call 42; (with_reducible refine (spec_ivGood.calls k a1_0 a1_1 a1_2 a1_3 t199 _ A5.out).mono ?_); rintro e w12 ⟨rfl, hb⟩; replace BK196 := Aside0.mk (zbb BK196 hb); replace BK197 := Aside0.mk (zbb BK197 hb); replace HB := Aside0.mk (below_step (zb1 HB) hb); (try clear hb); (try clear hb2); (try clear hk); (try clear hi)))
  go_ret
  exact ⟨by first | rfl | (simp [errW_none, errW_some] <;> rfl) | (simp [*, errW_none, errW_some] <;> rfl), (zb1 HB)⟩
 ·
  replace c4 := Bool.eq_false_iff.mpr c4
  subst c4
  have H1 : (some false) = some r := by rw [if_neg (show ¬ (false = true) by decide)] at H; exact H
  clear H
  have H := H1
  clear H1
  obtain rfl := Option.some.inj H
  go_enter Try.func45, Try.ntmps45
  go_wp2_with (first | ((with_reducible refine gate_dst (N := 2) rfl ?_); refine zbe (N := 2) (cs := #[.int .i64 a0_0, .int .i64 a0_1, .int .i64 a0_2, .int .i64 a0_3]) (t := 29) ?_; intro gb196 hg w13 hbox hb; have BK196 := Aside0.mk (hbox); have GW196 := Aside0.mk (zge (zb0 HB) hg); have GE196 := GW196; replace HB := Aside0.mk (below_step (zb0 HB) hb); clear hb hbox hg) | ((with_reducible refine gate_dst (N := 3) rfl ?_); refine zbe (N := 3) (cs := #[.int .i64 a1_0, .int .i64 a1_1, .int .i64 a1_2, .int .i64 a1_3]) (t := 29) ?_; intro gb197 hg w14 hbox hb; have BK197 := Aside0.mk (hbox); have GW197 := Aside0.mk (zge (zb1 HB) hg); have GE197 := GW197; have NB196_197 := Aside0.mk (zlt BK196 hg); have NB197_196 := Aside0.mk (zgt BK196 hg); replace BK196 := Aside0.mk (zbb BK196 hb); replace HB := Aside0.mk (below_step (zb1 HB) hb); clear hb hbox hg; have hnb15 := NB196_197.out; have hnc15 := NB197_196.out; have hcz16_0 : w14.cell? ⟨gb196, 0, none⟩ = some (.int .i64 a0_0) := zc BK196 0; have hcz16_1 : w14.cell? ⟨gb196, 1, none⟩ = some (.int .i64 a0_1) := zc BK196 1; have hcz16_2 : w14.cell? ⟨gb196, 2, none⟩ = some (.int .i64 a0_2) := zc BK196 2; have hcz16_3 : w14.cell? ⟨gb196, 3, none⟩ = some (.int .i64 a0_3) := zc BK196 3; have hfz16_0 := blk_frozen BK196.out 0; have hfz16_1 := blk_frozen BK196.out 1; have hfz16_2 := blk_frozen BK196.out 2; have hfz16_3 := blk_frozen BK196.out 3) | ((with_reducible refine gate_callee (f := 42) rfl ?_); refine goesL_ (some 6) rfl rfl Try.func42 (by kernel_rfl) rfl #[.agg #[.int .i64 a0_0, .int .i64 a0_1, .int .i64 a0_2, .int .i64 a0_3]] rfl zq6 ?_; (with_reducible refine (spec_ivGood.calls k a0_0 a0_1 a0_2 a0_3 false _ A3.out).mono ?_); rintro e w17 ⟨rfl, hb⟩; refine ⟨_, rfl, ?_⟩; replace BK196 := Aside0.mk (zbb BK196 hb); replace BK197 := Aside0.mk (zbb BK197 hb); replace HB := Aside0.mk (below_step (zb1 HB) hb); (try clear hb); (try clear hb2); (try clear hk); (try clear hi)))
  go_ret
  exact ⟨by first | rfl | (simp [errW_none, errW_some] <;> rfl) | (simp [*, errW_none, errW_some] <;> rfl), (zb1 HB)⟩
end Go.Proofs.Ytinpcalgdiigiaa.PD
