-- By wip/mk/drv.py
import Derived.Test.YtinpcalgdiigiaaQPowealPDx0
import Derived.Test.YtinpcalgdiigiaaQPowealPDx1
import Derived.Test.YtinpcalgdiigiaaQPowealPDx2
import Derived.Test.YtinpcalgdiigiaaQPowealPDx3
import Derived.Test.YtinpcalgdiigiaaQPowealPDx73
import Derived.Test.YtinpcalgdiigiaaQPowealPDx75
namespace Go.Proofs.Ytinpcalgdiigiaa.PD
open Go.RowKit Go.Proofs.YtinpcalgdiigiaaW.PrintWords Go.Proofs.YtinpcalgdiigiaaW.PrintLast Go.Proofs.YtinpcalgdiigiaaW.PrintMore
attribute [local go_sem] max2_int min2_int max_two min_two max_three min_three max_four min_four
set_option linter.unusedVariables false
set_option linter.unusedSimpArgs false
/-! ### laws_FnExactPowerOfInterval: function 13 -/
set_option maxHeartbeats 8000000 in
set_option maxRecDepth 100000 in
theorem laws_FnExactPowerOfInterval.calls (k : Nat) (a0_0 : Int) (a0_1 : Int) (a0_2 : Int) (a0_3 : Int) (a1 : Int) (r : Bool) (w : World) (h : laws_FnExactPowerOfInterval.f k a0_0 a0_1 a0_2 a0_3 a1 = some r) :
  Calls Try.prog 13 #[.agg #[.int .i64 a0_0, .int .i64 a0_1, .int .i64 a0_2, .int .i64 a0_3], .int .i64 a1] w fun e w' => e = .returned (.bool r) ∧ Below w.heap.size w w' := by
 have hu25 := Try.underlying25
 have hu29 := Try.underlying29
 have HB := Aside0.mk (Below.refl w.heap.size w)
 have H : ((laws_toInterval.f a0_0 a0_1 a0_2 a0_3).bind fun bt1048 => ((spec_PowerOfInterval.f k bt1048.1 bt1048.2.1 bt1048.2.2.1 bt1048.2.2.2 a1).bind fun bt1052 => ((laws_toInterval.f a0_0 a0_1 a0_2 a0_3).bind fun bt1058 => ((impl_PowerOfInterval.f k bt1058.1 bt1058.2.1 bt1058.2.2.1 bt1058.2.2.2 a1).bind fun bt1062 => ((laws_eqInterval.f bt1062.1 bt1062.2.1 bt1062.2.2.1 bt1062.2.2.2.1 bt1052.1 bt1052.2.1 bt1052.2.2.1 bt1052.2.2.2.1).bind fun t1068 => (if t1068 = true then (if (bt1062.2.2.2.2 != bt1052.2.2.2.2) = true then (none) else (some true)) else (none))))))) = some r := h
 clear h
 replace H := Option.bind_eq_some_iff.mp H
 obtain ⟨⟨t1048, t1049, t1050, t1051⟩, A30, H⟩ := H
 replace H : ((spec_PowerOfInterval.f k t1048 t1049 t1050 t1051 a1).bind fun bt1052 => ((laws_toInterval.f a0_0 a0_1 a0_2 a0_3).bind fun bt1058 => ((impl_PowerOfInterval.f k bt1058.1 bt1058.2.1 bt1058.2.2.1 bt1058.2.2.2 a1).bind fun bt1062 => ((laws_eqInterval.f bt1062.1 bt1062.2.1 bt1062.2.2.1 bt1062.2.2.2.1 bt1052.1 bt1052.2.1 bt1052.2.2.1 bt1052.2.2.2.1).bind fun t1068 => (if t1068 = true then (if (bt1062.2.2.2.2 != bt1052.2.2.2.2) = true then (none) else (some true)) else (none)))))) = some r := H
 have A3 := Aside0.mk A30
 clear A30
 replace H := Option.bind_eq_some_iff.mp H
 obtain ⟨⟨t1052, t1053, t1054, t1055, t1056⟩, A40, H⟩ := H
 replace H : ((laws_toInterval.f a0_0 a0_1 a0_2 a0_3).bind fun bt1058 => ((impl_PowerOfInterval.f k bt1058.1 bt1058.2.1 bt1058.2.2.1 bt1058.2.2.2 a1).bind fun bt1062 => ((laws_eqInterval.f bt1062.1 bt1062.2.1 bt1062.2.2.1 bt1062.2.2.2.1 t1052 t1053 t1054 t1055).bind fun t1068 => (if t1068 = true then (if (bt1062.2.2.2.2 != t1056) = true then (none) else (some true)) else (none))))) = some r := H
 have A4 := Aside0.mk A40
 clear A40
 replace H := Option.bind_eq_some_iff.mp H
 obtain ⟨⟨t1058, t1059, t1060, t1061⟩, A50, H⟩ := H
 replace H : ((impl_PowerOfInterval.f k t1058 t1059 t1060 t1061 a1).bind fun bt1062 => ((laws_eqInterval.f bt1062.1 bt1062.2.1 bt1062.2.2.1 bt1062.2.2.2.1 t1052 t1053 t1054 t1055).bind fun t1068 => (if t1068 = true then (if (bt1062.2.2.2.2 != t1056) = true then (none) else (some true)) else (none)))) = some r := H
 have A5 := Aside0.mk A50
 clear A50
 replace H := Option.bind_eq_some_iff.mp H
 obtain ⟨⟨t1062, t1063, t1064, t1065, t1066⟩, A60, H⟩ := H
 replace H : ((laws_eqInterval.f t1062 t1063 t1064 t1065 t1052 t1053 t1054 t1055).bind fun t1068 => (if t1068 = true then (if (t1066 != t1056) = true then (none) else (some true)) else (none))) = some r := H
 have A6 := Aside0.mk A60
 clear A60
 replace H := Option.bind_eq_some_iff.mp H
 obtain ⟨t1068, A70, H⟩ := H
 replace H : (if t1068 = true then (if (t1066 != t1056) = true then (none) else (some true)) else (none)) = some r := H
 have A7 := Aside0.mk A70
 clear A70
 by_cases c8 : t1068 = true
 ·
  subst c8
  have H1 : (if (t1066 != t1056) = true then (none) else (some true)) = some r := by rw [if_pos rfl] at H; exact H
  clear H
  have H := H1
  clear H1
  by_cases c9 : (t1066 != t1056) = true
  ·
   rw [if_pos c9] at H
   exact absurd H (by simp)
  ·
   rw [if_neg c9] at H
   have c9b0 : (t1066 != t1056) = false := by simpa using c9
   (try (have c9b1 : decide (t1066 = t1056) = true := by simpa using c9))
   (try (have c9b2 : (t1066 == t1056) = true := by simpa using c9))
   clear c9
   obtain rfl := Option.some.inj H
   go_enter Try.func13, Try.ntmps13
   go_wp2_with (first | ((with_reducible refine gate_dst (N := 2) rfl ?_); refine zbe (N := 2) (cs := #[.int .i64 a0_0, .int .i64 a0_1, .int .i64 a0_2, .int .i64 a0_3]) (t := 25) ?_; intro gb1047 hg w10 hbox hb; have BK1047 := Aside0.mk (hbox); have GW1047 := Aside0.mk (zge (zb0 HB) hg); have GE1047 := GW1047; replace HB := Aside0.mk (below_step (zb0 HB) hb); clear hb hbox hg; have hcz11_0 : w10.cell? ⟨gb1047, 0, none⟩ = some (.int .i64 a0_0) := zc BK1047 0; have hcz11_1 : w10.cell? ⟨gb1047, 1, none⟩ = some (.int .i64 a0_1) := zc BK1047 1; have hcz11_2 : w10.cell? ⟨gb1047, 2, none⟩ = some (.int .i64 a0_2) := zc BK1047 2; have hcz11_3 : w10.cell? ⟨gb1047, 3, none⟩ = some (.int .i64 a0_3) := zc BK1047 3; have hfz11_0 := blk_frozen BK1047.out 0; have hfz11_1 := blk_frozen BK1047.out 1; have hfz11_2 := blk_frozen BK1047.out 2; have hfz11_3 := blk_frozen BK1047.out 3) | ((with_reducible refine gate_callee (f := 16) rfl ?_); refine goesL_ (some 11) rfl rfl Try.func16 (by kernel_rfl) rfl #[.agg #[.int .i64 a0_0, .int .i64 a0_1, .int .i64 a0_2, .int .i64 a0_3]] rfl zq6 ?_; (with_reducible refine (laws_toInterval.calls a0_0 a0_1 a0_2 a0_3 t1048 t1049 t1050 t1051 _ A3.out).mono ?_); rintro e w12 ⟨rfl, hb⟩; refine ⟨_, rfl, ?_⟩; replace BK1047 := Aside0.mk (zbb BK1047 hb); replace HB := Aside0.mk (below_step (zb1 HB) hb); (try clear hb); (try clear hb2); (try clear hk); (try clear hi)) | ((with_reducible refine gate_callee (f := 38) rfl ?_); refine goesL_ (some 13) rfl rfl Try.func38 (by kernel_rfl) rfl #[.agg #[.int .i64 t1048, .int .i64 t1049, .int .i64 t1050, .int .i64 t1051], .int .i64 a1] rfl zq6 ?_; (with_reducible refine (spec_PowerOfInterval.calls k t1048 t1049 t1050 t1051 a1 t1052 t1053 t1054 t1055 t1056 _ A4.out).mono ?_); rintro e w13 ⟨rfl, hb⟩; refine ⟨_, rfl, ?_⟩; replace BK1047 := Aside0.mk (zbb BK1047 hb); replace HB := Aside0.mk (below_step (zb1 HB) hb); (try clear hb); (try clear hb2); (try clear hk); (try clear hi)) | ((with_reducible refine gate_dst (N := 5) rfl ?_); refine zbe (N := 5) (cs := #[.int .i64 0, .int .i64 0, .int .i64 0, .int .i64 0]) (t := 29) ?_; intro gb1057 hg w14 hbox hb; have BK1057 := Aside0.mk (hbox); have GW1057 := Aside0.mk (zge (zb1 HB) hg); have GE1057 := GW1057; have NB1047_1057 := Aside0.mk (zlt BK1047 hg); have NB1057_1047 := Aside0.mk (zgt BK1047 hg); replace BK1047 := Aside0.mk (zbb BK1047 hb); replace HB := Aside0.mk (below_step (zb1 HB) hb); clear hb hbox hg; have hnb15 := NB1057_1047.out; have hnc15 := NB1047_1057.out; have hcz16_0 : w14.cell? ⟨gb1057, 0, none⟩ = some (.int .i64 0) := zc BK1057 0; have hcz16_1 : w14.cell? ⟨gb1057, 1, none⟩ = some (.int .i64 0) := zc BK1057 1; have hcz16_2 : w14.cell? ⟨gb1057, 2, none⟩ = some (.int .i64 0) := zc BK1057 2; have hcz16_3 : w14.cell? ⟨gb1057, 3, none⟩ = some (.int .i64 0) := zc BK1057 3; have hfz16_0 := blk_frozen BK1057.out 0; have hfz16_1 := blk_frozen BK1057.out 1; have hfz16_2 := blk_frozen BK1057.out 2; have hfz16_3 := blk_frozen BK1057.out 3; have hcz17_0 : w14.cell? ⟨gb1047, 0, none⟩ = some (.int .i64 a0_0) := zc BK1047 0; have hcz17_1 : w14.cell? ⟨gb1047, 1, none⟩ = some (.int .i64 a0_1) := zc BK1047 1; have hcz17_2 : w14.cell? ⟨gb1047, 2, none⟩ = some (.int .i64 a0_2) := zc BK1047 2; have hcz17_3 : w14.cell? ⟨gb1047, 3, none⟩ = some (.int .i64 a0_3) := zc BK1047 3; have hfz17_0 := blk_frozen BK1047.out 0; have hfz17_1 := blk_frozen BK1047.out 1; have hfz17_2 := blk_frozen BK1047.out 2; have hfz17_3 := blk_frozen BK1047.out 3) | ((with_reducible refine gate_callee (f := 16) rfl ?_); refine goesL_ (some 18) rfl rfl Try.func16 (by kernel_rfl) rfl #[.agg #[.int .i64 a0_0, .int .i64 a0_1, .int .i64 a0_2, .int .i64 a0_3]] rfl zq6 ?_; (with_reducible refine (laws_toInterval.calls a0_0 a0_1 a0_2 a0_3 t1058 t1059 t1060 t1061 _ A5.out).mono ?_); rintro e w18 ⟨rfl, hb⟩; refine ⟨_, rfl, ?_⟩; replace BK1047 := Aside0.mk (blk_below (g := gb1047) (o := .cells #[.int .i64 a0_0, .int .i64 a0_1, .int .i64 a0_2, .int .i64 a0_3] 25 (0, 0)) (zq5 BK1047) hb); replace BK1057 := Aside0.mk (blk_below (g := gb1057) (o := .cells #[.int .i64 t1052, .int .i64 t1053, .int .i64 t1054, .int .i64 t1055] 29 (0, 0)) (by (with_reducible repeat (first | refine blk_drewN ?_ _ | refine blk_drew ?_ | refine blk_alloc ?_ _)); refine blk_put (cs := #[.int .i64 t1052, .int .i64 t1053, .int .i64 t1054, .int .i64 0]) ?_ 3 _ rfl; (with_reducible repeat (first | refine blk_drewN ?_ _ | refine blk_drew ?_ | refine blk_alloc ?_ _)); refine blk_put (cs := #[.int .i64 t1052, .int .i64 t1053, .int .i64 0, .int .i64 0]) ?_ 2 _ rfl; (with_reducible repeat (first | refine blk_drewN ?_ _ | refine blk_drew ?_ | refine blk_alloc ?_ _)); refine blk_put (cs := #[.int .i64 t1052, .int .i64 0, .int .i64 0, .int .i64 0]) ?_ 1 _ rfl; (with_reducible repeat (first | refine blk_drewN ?_ _ | refine blk_drew ?_ | refine blk_alloc ?_ _)); refine blk_put (cs := #[.int .i64 0, .int .i64 0, .int .i64 0, .int .i64 0]) ?_ 0 _ rfl; (with_reducible repeat (first | refine blk_drewN ?_ _ | refine blk_drew ?_ | refine blk_alloc ?_ _)); exact BK1057.out) hb); replace HB := Aside0.mk (below_step (zb1 HB) hb); (try clear hb); (try clear hb2); (try clear hk); (try clear hi)) | ((with_reducible refine gate_callee (f := 39) rfl ?_); refine goesL_ (some 20) rfl rfl Try.func39 (by kernel_rfl) rfl #[.agg #[.int .i64 t1058, .int .i64 t1059, .int .i64 t1060, .int .i64 t1061], .int .i64 a1] rfl zq6 ?_; (with_reducible refine (impl_PowerOfInterval.calls k t1058 t1059 t1060 t1061 a1 t1062 t1063 t1064 t1065 t1066 _ A6.out).mono ?_); rintro e w19 ⟨rfl, hb⟩; refine ⟨_, rfl, ?_⟩; replace BK1047 := Aside0.mk (zbb BK1047 hb); replace BK1057 := Aside0.mk (zbb BK1057 hb); replace HB := Aside0.mk (below_step (zb1 HB) hb); (try clear hb); (try clear hb2); (try clear hk); (try clear hi)) | ((with_reducible refine gate_dst (N := 7) rfl ?_); refine zbe (N := 7) (cs := #[.int .i64 0, .int .i64 0, .int .i64 0, .int .i64 0]) (t := 29) ?_; intro gb1067 hg w20 hbox hb; have BK1067 := Aside0.mk (hbox); have GW1067 := Aside0.mk (zge (zb1 HB) hg); have GE1067 := GW1067; have NB1047_1067 := Aside0.mk (zlt BK1047 hg); have NB1067_1047 := Aside0.mk (zgt BK1047 hg); have NB1057_1067 := Aside0.mk (zlt BK1057 hg); have NB1067_1057 := Aside0.mk (zgt BK1057 hg); replace BK1047 := Aside0.mk (zbb BK1047 hb); replace BK1057 := Aside0.mk (zbb BK1057 hb); replace HB := Aside0.mk (below_step (zb1 HB) hb); clear hb hbox hg; have hnb21 := NB1067_1047.out; have hnc21 := NB1047_1067.out; have hnb22 := NB1067_1057.out; have hnc22 := NB1057_1067.out; have hcz23_0 : w20.cell? ⟨gb1067, 0, none⟩ = some (.int .i64 0) := zc BK1067 0; have hcz23_1 : w20.cell? ⟨gb1067, 1, none⟩ = some (.int .i64 0) := zc BK1067 1; have hcz23_2 : w20.cell? ⟨gb1067, 2, none⟩ = some (.int .i64 0) := zc BK1067 2; have hcz23_3 : w20.cell? ⟨gb1067, 3, none⟩ = some (.int .i64 0) := zc BK1067 3; have hfz23_0 := blk_frozen BK1067.out 0; have hfz23_1 := blk_frozen BK1067.out 1; have hfz23_2 := blk_frozen BK1067.out 2; have hfz23_3 := blk_frozen BK1067.out 3; have hcz24_0 : w20.cell? ⟨gb1057, 0, none⟩ = some (.int .i64 t1052) := zc BK1057 0; have hcz24_1 : w20.cell? ⟨gb1057, 1, none⟩ = some (.int .i64 t1053) := zc BK1057 1; have hcz24_2 : w20.cell? ⟨gb1057, 2, none⟩ = some (.int .i64 t1054) := zc BK1057 2; have hcz24_3 : w20.cell? ⟨gb1057, 3, none⟩ = some (.int .i64 t1055) := zc BK1057 3; have hfz24_0 := blk_frozen BK1057.out 0; have hfz24_1 := blk_frozen BK1057.out 1; have hfz24_2 := blk_frozen BK1057.out 2; have hfz24_3 := blk_frozen BK1057.out 3) | ((with_reducible refine gate_callee (f := 24) rfl ?_); refine goesL_ (some 25) rfl rfl Try.func24 (by kernel_rfl) rfl #[.agg #[.int .i64 t1062, .int .i64 t1063, .int .i64 t1064, .int .i64 t1065], .agg #[.int .i64 t1052, .int .i64 t1053, .int .i64 t1054, .int .i64 t1055]] rfl zq6 ?_; (with_reducible refine (laws_eqInterval.calls t1062 t1063 t1064 t1065 t1052 t1053 t1054 t1055 true _ A7.out).mono ?_); rintro e w25 ⟨rfl, hb⟩; refine ⟨_, rfl, ?_⟩; replace BK1047 := Aside0.mk (blk_below (g := gb1047) (o := .cells #[.int .i64 a0_0, .int .i64 a0_1, .int .i64 a0_2, .int .i64 a0_3] 25 (0, 0)) (zq5 BK1047) hb); replace BK1057 := Aside0.mk (blk_below (g := gb1057) (o := .cells #[.int .i64 t1052, .int .i64 t1053, .int .i64 t1054, .int .i64 t1055] 29 (0, 0)) (zq5 BK1057) hb); replace BK1067 := Aside0.mk (blk_below (g := gb1067) (o := .cells #[.int .i64 t1062, .int .i64 t1063, .int .i64 t1064, .int .i64 t1065] 29 (0, 0)) (by (with_reducible repeat (first | refine blk_drewN ?_ _ | refine blk_drew ?_ | refine blk_alloc ?_ _)); refine blk_put (cs := #[.int .i64 t1062, .int .i64 t1063, .int .i64 t1064, .int .i64 0]) ?_ 3 _ rfl; (with_reducible repeat (first | refine blk_drewN ?_ _ | refine blk_drew ?_ | refine blk_alloc ?_ _)); refine blk_put (cs := #[.int .i64 t1062, .int .i64 t1063, .int .i64 0, .int .i64 0]) ?_ 2 _ rfl; (with_reducible repeat (first | refine blk_drewN ?_ _ | refine blk_drew ?_ | refine blk_alloc ?_ _)); refine blk_put (cs := #[.int .i64 t1062, .int .i64 0, .int .i64 0, .int .i64 0]) ?_ 1 _ rfl; (with_reducible repeat (first | refine blk_drewN ?_ _ | refine blk_drew ?_ | refine blk_alloc ?_ _)); refine blk_put (cs := #[.int .i64 0, .int .i64 0, .int .i64 0, .int .i64 0]) ?_ 0 _ rfl; (with_reducible repeat (first | refine blk_drewN ?_ _ | refine blk_drew ?_ | refine blk_alloc ?_ _)); exact BK1067.out) hb); replace HB := Aside0.mk (below_step (zb1 HB) hb); (try clear hb); (try clear hb2); (try clear hk); (try clear hi)))
   go_ret
   exact ⟨by first | rfl | (simp [errW_none, errW_some] <;> rfl) | (simp [*, errW_none, errW_some] <;> rfl), (zb1 HB)⟩
 ·
  replace c8 := Bool.eq_false_iff.mpr c8
  subst c8
  have H1 : (none) = some r := by rw [if_neg (show ¬ (false = true) by decide)] at H; exact H
  clear H
  have H := H1
  clear H1
  exact absurd H (by simp)
end Go.Proofs.Ytinpcalgdiigiaa.PD
