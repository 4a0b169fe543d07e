-- By wip/mk/drv.py
import Derived.Test.YtinpcalgdiigiaaQDivilsPDx0
import Derived.Test.YtinpcalgdiigiaaQDivilsPDx1
import Derived.Test.YtinpcalgdiigiaaQDivilsPDx3
import Derived.Test.YtinpcalgdiigiaaQDivilsPDx9
import Derived.Test.YtinpcalgdiigiaaQDivilsPDx39
import Derived.Test.YtinpcalgdiigiaaQDivilsPDx47
import Derived.Test.YtinpcalgdiigiaaQDivilsPDx83
namespace Go.Proofs.Ytinpcalgdiigiaa.PD
open Go.RowKit Go.Proofs.YtinpcalgdiigiaaW.PrintWords Go.Proofs.YtinpcalgdiigiaaW.PrintLast Go.Proofs.YtinpcalgdiigiaaW.PrintMore
attribute [local go_sem] max2_int min2_int max_two min_two max_three min_three max_four min_four
set_option linter.unusedVariables false
set_option linter.unusedSimpArgs false
/-! ### impl_quotientDown: function 100 -/
def impl_quotientDown.T3 : Bool × List (List Nat × List Nat) := (true, [([], []), ([0], [0]), ([], []), ([2], [2]), ([1, 3, 3], [1, 3]), ([4], [4]), ([5], [5]), ([5], [5]), ([6, 4, 0, 1, 2, 3, 4, 5, 6], [6]), ([7, 8, 0, 1, 2, 3, 4, 5, 6, 7, 8], [7])])
def impl_quotientDown.B3 : List Nat := [0, 1, 0, 4, 15, 31, 63, 63, 127, 511]
theorem impl_quotientDown.tab3 : rtab .any (opsOf Try.f100 3) = impl_quotientDown.T3 := by kernel_rfl
theorem impl_quotientDown.bits3 : waitsOk impl_quotientDown.T3.2 impl_quotientDown.B3 = true := by kernel_rfl
def impl_quotientDown.T4 : Bool × List (List Nat × List Nat) := (true, [([], []), ([], []), ([1], [1]), ([], []), ([3], [3]), ([0, 2, 4, 4], [0, 2, 4]), ([5], [5]), ([6], [6]), ([6], [6]), ([7, 5, 0, 1, 2, 3, 4, 5, 6, 7], [7]), ([8, 9, 0, 1, 2, 3, 4, 5, 6, 7, 8, 9], [8])])
def impl_quotientDown.B4 : List Nat := [0, 0, 2, 0, 8, 31, 63, 127, 127, 255, 1023]
theorem impl_quotientDown.tab4 : rtab .any (opsOf Try.f100 4) = impl_quotientDown.T4 := by kernel_rfl
theorem impl_quotientDown.bits4 : waitsOk impl_quotientDown.T4.2 impl_quotientDown.B4 = true := by kernel_rfl
def impl_quotientDown.T7 : Bool × List (List Nat × List Nat) := (true, [([], []), ([0], [0]), ([1], [1]), ([2], [2]), ([2], [2]), ([4, 2], [2, 4]), ([2], [2]), ([5, 6, 2], [2, 5, 6]), ([7, 2], [2, 7]), ([3, 8, 2, 2], [2, 3, 8]), ([2], [2]), ([9, 10, 9, 2], [2, 9, 10]), ([11, 2], [2, 11]), ([2, 12], [2, 12]), ([13, 11, 0, 1, 2, 3, 4, 5, 6, 7, 8, 9, 10, 11, 12, 13], [13])])
def impl_quotientDown.B7 : List Nat := [0, 1, 3, 7, 7, 23, 7, 119, 247, 511, 7, 2047, 4095, 8191, 16383]
theorem impl_quotientDown.tab7 : rtab .any (opsOf Try.f100 7) = impl_quotientDown.T7 := by kernel_rfl
theorem impl_quotientDown.bits7 : waitsOk impl_quotientDown.T7.2 impl_quotientDown.B7 = true := by kernel_rfl
set_option maxHeartbeats 8000000 in
set_option maxRecDepth 100000 in
theorem impl_quotientDown.calls (k : Nat) (a0 : Int) (a1 : Int) (a2 : Int) (a3 : Int) (r1 : Int) (r2 : Int) (r3 : Bool) (w : World) (h : impl_quotientDown.f k a0 a1 a2 a3 = some (r1, r2, r3)) :
  Calls Try.prog 100 #[.int .i64 a0, .int .i64 a1, .int .i64 a2, .int .i64 a3] w fun e w' => e = .returned (.tuple #[.agg #[.int .i64 r1, .int .i64 r2], .bool r3]) ∧ Below w.heap.size w w' := by
 have hu27 := Try.underlying27
 have hu64 := Try.underlying64
 have HB := Aside0.mk (Below.refl w.heap.size w)
 have H : ((impl_wideOf.f a0).bind fun bt1144 => ((impl_wide_shift.f bt1144.1 bt1144.2.1 bt1144.2.2 (mx (wrap64 (a1 + a3)) 0)).bind fun bt1147 => ((impl_size.f a2).bind fun t1151 => ((bits_Div64.f k 0 bt1147.2.1 t1151).bind fun bt1152 => ((impl_size.f a2).bind fun t1154 => ((bits_Div64.f k bt1152.2 bt1147.2.2 t1154).bind fun bt1155 => ((impl_wide_shift.f (!(decide (a0 < 0)) == (decide (a2 < 0))) bt1152.1 bt1155.1 (mn (wrap64 (a1 + a3)) 0)).bind fun bt1158 => (if bt1155.2 = 0 then ((impl_wide_shift.f bt1158.1 bt1158.2.1 bt1158.2.2 (mx (wrap64 ((wrap64 (-a1)) - a3)) 0)).bind fun bt1162 => ((impl_compareSizes.f k bt1162.1 bt1162.2.1 bt1162.2.2 (!(decide (a0 < 0)) == (decide (a2 < 0))) bt1152.1 bt1155.1).bind fun t1165 => (impl_quotientDown.j0 k a3 (t1165 == 0) (!(decide (a0 < 0)) == (decide (a2 < 0))) bt1147.2.1 bt1147.2.2 bt1158.1 bt1158.2.1 bt1158.2.2))) else (impl_quotientDown.j0 k a3 false (!(decide (a0 < 0)) == (decide (a2 < 0))) bt1147.2.1 bt1147.2.2 bt1158.1 bt1158.2.1 bt1158.2.2))))))))) = some (r1, r2, r3) := h
 clear h
 replace H := Option.bind_eq_some_iff.mp H
 obtain ⟨⟨t1144, t1145, t1146⟩, A50, H⟩ := H
 replace H : ((impl_wide_shift.f t1144 t1145 t1146 (mx (wrap64 (a1 + a3)) 0)).bind fun bt1147 => ((impl_size.f a2).bind fun t1151 => ((bits_Div64.f k 0 bt1147.2.1 t1151).bind fun bt1152 => ((impl_size.f a2).bind fun t1154 => ((bits_Div64.f k bt1152.2 bt1147.2.2 t1154).bind fun bt1155 => ((impl_wide_shift.f (!(decide (a0 < 0)) == (decide (a2 < 0))) bt1152.1 bt1155.1 (mn (wrap64 (a1 + a3)) 0)).bind fun bt1158 => (if bt1155.2 = 0 then ((impl_wide_shift.f bt1158.1 bt1158.2.1 bt1158.2.2 (mx (wrap64 ((wrap64 (-a1)) - a3)) 0)).bind fun bt1162 => ((impl_compareSizes.f k bt1162.1 bt1162.2.1 bt1162.2.2 (!(decide (a0 < 0)) == (decide (a2 < 0))) bt1152.1 bt1155.1).bind fun t1165 => (impl_quotientDown.j0 k a3 (t1165 == 0) (!(decide (a0 < 0)) == (decide (a2 < 0))) bt1147.2.1 bt1147.2.2 bt1158.1 bt1158.2.1 bt1158.2.2))) else (impl_quotientDown.j0 k a3 false (!(decide (a0 < 0)) == (decide (a2 < 0))) bt1147.2.1 bt1147.2.2 bt1158.1 bt1158.2.1 bt1158.2.2)))))))) = some (r1, r2, r3) := H
 have A5 := Aside0.mk A50
 clear A50
 obtain ⟨ji6, hji6⟩ : ∃ j_ : Int, (mx (wrap64 (a1 + a3)) 0) = j_ := ⟨_, rfl⟩
 replace H : ((impl_wide_shift.f t1144 t1145 t1146 (ji6)).bind fun bt1147 => ((impl_size.f a2).bind fun t1151 => ((bits_Div64.f k 0 bt1147.2.1 t1151).bind fun bt1152 => ((impl_size.f a2).bind fun t1154 => ((bits_Div64.f k bt1152.2 bt1147.2.2 t1154).bind fun bt1155 => ((impl_wide_shift.f (!(decide (a0 < 0)) == (decide (a2 < 0))) bt1152.1 bt1155.1 (mn (wrap64 (a1 + a3)) 0)).bind fun bt1158 => (if bt1155.2 = 0 then ((impl_wide_shift.f bt1158.1 bt1158.2.1 bt1158.2.2 (mx (wrap64 ((wrap64 (-a1)) - a3)) 0)).bind fun bt1162 => ((impl_compareSizes.f k bt1162.1 bt1162.2.1 bt1162.2.2 (!(decide (a0 < 0)) == (decide (a2 < 0))) bt1152.1 bt1155.1).bind fun t1165 => (impl_quotientDown.j0 k a3 (t1165 == 0) (!(decide (a0 < 0)) == (decide (a2 < 0))) bt1147.2.1 bt1147.2.2 bt1158.1 bt1158.2.1 bt1158.2.2))) else (impl_quotientDown.j0 k a3 false (!(decide (a0 < 0)) == (decide (a2 < 0))) bt1147.2.1 bt1147.2.2 bt1158.1 bt1158.2.1 bt1158.2.2)))))))) = some (r1, r2, r3) := by first | (rw [hji6] at H; exact H) | (simp only [hji6] at H ⊢; exact H)
 (try rw [hji6] at A5)
 (try (have hji6l : 0 ≤ ji6 := by (rw [← hji6]; unfold mx; (repeat' split) <;> omega)))
 (try (have hji6m : 0 ≤ ji6 := by omega))
 have hji6_ : (if (wrap64 (a1 + a3)) < 0 then 0 else (wrap64 (a1 + a3))) = ji6 := hji6
 replace H := Option.bind_eq_some_iff.mp H
 obtain ⟨⟨t1147, t1148, t1149⟩, A70, H⟩ := H
 replace H : ((impl_size.f a2).bind fun t1151 => ((bits_Div64.f k 0 t1148 t1151).bind fun bt1152 => ((impl_size.f a2).bind fun t1154 => ((bits_Div64.f k bt1152.2 t1149 t1154).bind fun bt1155 => ((impl_wide_shift.f (!(decide (a0 < 0)) == (decide (a2 < 0))) bt1152.1 bt1155.1 (mn (wrap64 (a1 + a3)) 0)).bind fun bt1158 => (if bt1155.2 = 0 then ((impl_wide_shift.f bt1158.1 bt1158.2.1 bt1158.2.2 (mx (wrap64 ((wrap64 (-a1)) - a3)) 0)).bind fun bt1162 => ((impl_compareSizes.f k bt1162.1 bt1162.2.1 bt1162.2.2 (!(decide (a0 < 0)) == (decide (a2 < 0))) bt1152.1 bt1155.1).bind fun t1165 => (impl_quotientDown.j0 k a3 (t1165 == 0) (!(decide (a0 < 0)) == (decide (a2 < 0))) t1148 t1149 bt1158.1 bt1158.2.1 bt1158.2.2))) else (impl_quotientDown.j0 k a3 false (!(decide (a0 < 0)) == (decide (a2 < 0))) t1148 t1149 bt1158.1 bt1158.2.1 bt1158.2.2))))))) = some (r1, r2, r3) := H
 have A7 := Aside0.mk A70
 clear A70
 replace H := Option.bind_eq_some_iff.mp H
 obtain ⟨t1151, A80, H⟩ := H
 replace H : ((bits_Div64.f k 0 t1148 t1151).bind fun bt1152 => ((impl_size.f a2).bind fun t1154 => ((bits_Div64.f k bt1152.2 t1149 t1154).bind fun bt1155 => ((impl_wide_shift.f (!(decide (a0 < 0)) == (decide (a2 < 0))) bt1152.1 bt1155.1 (mn (wrap64 (a1 + a3)) 0)).bind fun bt1158 => (if bt1155.2 = 0 then ((impl_wide_shift.f bt1158.1 bt1158.2.1 bt1158.2.2 (mx (wrap64 ((wrap64 (-a1)) - a3)) 0)).bind fun bt1162 => ((impl_compareSizes.f k bt1162.1 bt1162.2.1 bt1162.2.2 (!(decide (a0 < 0)) == (decide (a2 < 0))) bt1152.1 bt1155.1).bind fun t1165 => (impl_quotientDown.j0 k a3 (t1165 == 0) (!(decide (a0 < 0)) == (decide (a2 < 0))) t1148 t1149 bt1158.1 bt1158.2.1 bt1158.2.2))) else (impl_quotientDown.j0 k a3 false (!(decide (a0 < 0)) == (decide (a2 < 0))) t1148 t1149 bt1158.1 bt1158.2.1 bt1158.2.2)))))) = some (r1, r2, r3) := H
 have A8 := Aside0.mk A80
 clear A80
 replace H := Option.bind_eq_some_iff.mp H
 obtain ⟨⟨t1152, t1153⟩, A90, H⟩ := H
 replace H : ((impl_size.f a2).bind fun t1154 => ((bits_Div64.f k t1153 t1149 t1154).bind fun bt1155 => ((impl_wide_shift.f (!(decide (a0 < 0)) == (decide (a2 < 0))) t1152 bt1155.1 (mn (wrap64 (a1 + a3)) 0)).bind fun bt1158 => (if bt1155.2 = 0 then ((impl_wide_shift.f bt1158.1 bt1158.2.1 bt1158.2.2 (mx (wrap64 ((wrap64 (-a1)) - a3)) 0)).bind fun bt1162 => ((impl_compareSizes.f k bt1162.1 bt1162.2.1 bt1162.2.2 (!(decide (a0 < 0)) == (decide (a2 < 0))) t1152 bt1155.1).bind fun t1165 => (impl_quotientDown.j0 k a3 (t1165 == 0) (!(decide (a0 < 0)) == (decide (a2 < 0))) t1148 t1149 bt1158.1 bt1158.2.1 bt1158.2.2))) else (impl_quotientDown.j0 k a3 false (!(decide (a0 < 0)) == (decide (a2 < 0))) t1148 t1149 bt1158.1 bt1158.2.1 bt1158.2.2))))) = some (r1, r2, r3) := H
 have A9 := Aside0.mk A90
 clear A90
 replace H := Option.bind_eq_some_iff.mp H
 obtain ⟨t1154, A100, H⟩ := H
 replace H : ((bits_Div64.f k t1153 t1149 t1154).bind fun bt1155 => ((impl_wide_shift.f (!(decide (a0 < 0)) == (decide (a2 < 0))) t1152 bt1155.1 (mn (wrap64 (a1 + a3)) 0)).bind fun bt1158 => (if bt1155.2 = 0 then ((impl_wide_shift.f bt1158.1 bt1158.2.1 bt1158.2.2 (mx (wrap64 ((wrap64 (-a1)) - a3)) 0)).bind fun bt1162 => ((impl_compareSizes.f k bt1162.1 bt1162.2.1 bt1162.2.2 (!(decide (a0 < 0)) == (decide (a2 < 0))) t1152 bt1155.1).bind fun t1165 => (impl_quotientDown.j0 k a3 (t1165 == 0) (!(decide (a0 < 0)) == (decide (a2 < 0))) t1148 t1149 bt1158.1 bt1158.2.1 bt1158.2.2))) else (impl_quotientDown.j0 k a3 false (!(decide (a0 < 0)) == (decide (a2 < 0))) t1148 t1149 bt1158.1 bt1158.2.1 bt1158.2.2)))) = some (r1, r2, r3) := H
 have A10 := Aside0.mk A100
 clear A100
 replace H := Option.bind_eq_some_iff.mp H
 obtain ⟨⟨t1155, t1156⟩, A110, H⟩ := H
 replace H : ((impl_wide_shift.f (!(decide (a0 < 0)) == (decide (a2 < 0))) t1152 t1155 (mn (wrap64 (a1 + a3)) 0)).bind fun bt1158 => (if t1156 = 0 then ((impl_wide_shift.f bt1158.1 bt1158.2.1 bt1158.2.2 (mx (wrap64 ((wrap64 (-a1)) - a3)) 0)).bind fun bt1162 => ((impl_compareSizes.f k bt1162.1 bt1162.2.1 bt1162.2.2 (!(decide (a0 < 0)) == (decide (a2 < 0))) t1152 t1155).bind fun t1165 => (impl_quotientDown.j0 k a3 (t1165 == 0) (!(decide (a0 < 0)) == (decide (a2 < 0))) t1148 t1149 bt1158.1 bt1158.2.1 bt1158.2.2))) else (impl_quotientDown.j0 k a3 false (!(decide (a0 < 0)) == (decide (a2 < 0))) t1148 t1149 bt1158.1 bt1158.2.1 bt1158.2.2))) = some (r1, r2, r3) := H
 have A11 := Aside0.mk A110
 clear A110
 obtain ⟨ji12, hji12⟩ : ∃ j_ : Int, (mn (wrap64 (a1 + a3)) 0) = j_ := ⟨_, rfl⟩
 replace H : ((impl_wide_shift.f (!(decide (a0 < 0)) == (decide (a2 < 0))) t1152 t1155 (ji12)).bind fun bt1158 => (if t1156 = 0 then ((impl_wide_shift.f bt1158.1 bt1158.2.1 bt1158.2.2 (mx (wrap64 ((wrap64 (-a1)) - a3)) 0)).bind fun bt1162 => ((impl_compareSizes.f k bt1162.1 bt1162.2.1 bt1162.2.2 (!(decide (a0 < 0)) == (decide (a2 < 0))) t1152 t1155).bind fun t1165 => (impl_quotientDown.j0 k a3 (t1165 == 0) (!(decide (a0 < 0)) == (decide (a2 < 0))) t1148 t1149 bt1158.1 bt1158.2.1 bt1158.2.2))) else (impl_quotientDown.j0 k a3 false (!(decide (a0 < 0)) == (decide (a2 < 0))) t1148 t1149 bt1158.1 bt1158.2.1 bt1158.2.2))) = some (r1, r2, r3) := by first | (rw [hji12] at H; exact H) | (simp only [hji12] at H ⊢; exact H)
 (try rw [hji12] at A5)
 (try rw [hji12] at A7)
 (try rw [hji12] at A8)
 (try rw [hji12] at A9)
 (try rw [hji12] at A10)
 (try rw [hji12] at A11)
 (try (have hji12h : ji12 ≤ 0 := by (rw [← hji12]; unfold mn; (repeat' split) <;> omega)))
 (try (have hji12g : ji12 ≤ 64 := by omega))
 have hji12_ : (if 0 < (wrap64 (a1 + a3)) then 0 else (wrap64 (a1 + a3))) = ji12 := hji12
 replace H := Option.bind_eq_some_iff.mp H
 obtain ⟨⟨t1158, t1159, t1160⟩, A130, H⟩ := H
 replace H : (if t1156 = 0 then ((impl_wide_shift.f t1158 t1159 t1160 (mx (wrap64 ((wrap64 (-a1)) - a3)) 0)).bind fun bt1162 => ((impl_compareSizes.f k bt1162.1 bt1162.2.1 bt1162.2.2 (!(decide (a0 < 0)) == (decide (a2 < 0))) t1152 t1155).bind fun t1165 => (impl_quotientDown.j0 k a3 (t1165 == 0) (!(decide (a0 < 0)) == (decide (a2 < 0))) t1148 t1149 t1158 t1159 t1160))) else (impl_quotientDown.j0 k a3 false (!(decide (a0 < 0)) == (decide (a2 < 0))) t1148 t1149 t1158 t1159 t1160)) = some (r1, r2, r3) := H
 have A13 := Aside0.mk A130
 clear A130
 have HC14 := Aside0.mk H
 clear H
 go_enter Try.func100, Try.ntmps100
 try go_wp2_with (first | ((with_reducible refine gate_dst (N := 8) rfl ?_); (try (refine gate_guard (by rfl) ?_; dsimp only)); refine zbe (N := 8) (cs := #[.int .i64 0, .int .i64 0]) (t := 27) ?_; intro gb1143 hg w15 hbox hb; have BK1143 := Aside0.mk (hbox); have GW1143 := Aside0.mk (zge (zb0 HB) hg); have GE1143 := GW1143; replace HB := Aside0.mk (below_step (zb0 HB) hb); clear hb hbox hg) | ((with_reducible refine gate_callee (f := 79) rfl ?_); refine goesL_ (some 19) rfl rfl Try.func79 (by kernel_rfl) rfl #[.int .i64 a0] rfl zq6 ?_; (with_reducible refine (impl_wideOf.calls a0 t1144 t1145 t1146 _ A5.out).mono ?_); rintro e w16 ⟨rfl, hb⟩; refine ⟨_, rfl, ?_⟩; replace BK1143 := Aside0.mk (zbb BK1143 hb); replace HB := Aside0.mk (below_step (zb1 HB) hb); (try clear hb); (try clear hb2); (try clear hk); (try clear hi)) | ((with_reducible refine gate_callee (f := 80) rfl ?_); refine goesL_ (some 24) rfl rfl Try.func80 (by kernel_rfl) rfl #[.agg #[.bool t1144, .int .u64 t1145, .int .u64 t1146], .int .i64 ji6] rfl (by (try simp only [List.map_toArray, List.map_cons, List.map_nil]); first | done | (simp only [hji6]; rfl) | rfl | (simp only [List.length_drop, List.length_take]; rfl)) ?_; (with_reducible refine (impl_wide_shift.calls t1144 t1145 t1146 ji6 t1147 t1148 t1149 _ A7.out).mono ?_); rintro e w17 ⟨rfl, hb⟩; refine ⟨_, rfl, ?_⟩; replace BK1143 := Aside0.mk (zbb BK1143 hb); replace HB := Aside0.mk (below_step (zb1 HB) hb); (try clear hb); (try clear hb2); (try clear hk); (try clear hi)) | ((with_reducible refine gate_dst (N := 10) rfl ?_); (try (refine gate_guard (by rfl) ?_; dsimp only)); refine zbe (N := 10) (cs := #[.bool false, .int .u64 0, .int .u64 0]) (t := 64) ?_; intro gb1150 hg w18 hbox hb; have BK1150 := Aside0.mk (hbox); have GW1150 := Aside0.mk (zge (zb1 HB) hg); have GE1150 := GW1150; have NB1143_1150 := Aside0.mk (zlt BK1143 hg); have NB1150_1143 := Aside0.mk (zgt BK1143 hg); replace BK1143 := Aside0.mk (zbb BK1143 hb); replace HB := Aside0.mk (below_step (zb1 HB) hb); clear hb hbox hg; have hnb19 := NB1150_1143.out; have hnc19 := NB1143_1150.out; have hcz20_0 : w18.cell? ⟨gb1150, 0, none⟩ = some (.bool false) := zc BK1150 0; have hcz20_1 : w18.cell? ⟨gb1150, 1, none⟩ = some (.int .u64 0) := zc BK1150 1; have hcz20_2 : w18.cell? ⟨gb1150, 2, none⟩ = some (.int .u64 0) := zc BK1150 2; have hfz20_0 := blk_frozen BK1150.out 0; have hfz20_1 := blk_frozen BK1150.out 1; have hfz20_2 := blk_frozen BK1150.out 2))
 have n0_ : Aside0 (((((w18.setCell ⟨gb1150, 0, none⟩ (.bool t1147)).setCell ⟨gb1150, 1, none⟩ (.int .u64 t1148)).setCell ⟨gb1150, 2, none⟩ (.int .u64 t1149)).setCell ⟨gb1150, 0, none⟩ (.bool (!(decide (a0 < 0)) == (decide (a2 < 0))))).heap[gb1143]? = some (.cells #[.int .i64 0, .int .i64 0] 27 (0, 0))) := ⟨zq5 BK1143⟩
 have n1_ : Aside0 (((((w18.setCell ⟨gb1150, 0, none⟩ (.bool t1147)).setCell ⟨gb1150, 1, none⟩ (.int .u64 t1148)).setCell ⟨gb1150, 2, none⟩ (.int .u64 t1149)).setCell ⟨gb1150, 0, none⟩ (.bool (!(decide (a0 < 0)) == (decide (a2 < 0))))).heap[gb1150]? = some (.cells #[.bool (!(decide (a0 < 0)) == (decide (a2 < 0))), .int .u64 t1148, .int .u64 t1149] 64 (0, 0))) := ⟨by (with_reducible repeat (first | refine blk_drewN ?_ _ | refine blk_drew ?_ | refine blk_alloc ?_ _)); refine blk_put (cs := #[.bool t1147, .int .u64 t1148, .int .u64 t1149]) ?_ 0 _ rfl; (with_reducible repeat (first | refine blk_drewN ?_ _ | refine blk_drew ?_ | refine blk_alloc ?_ _)); refine blk_put (cs := #[.bool t1147, .int .u64 t1148, .int .u64 0]) ?_ 2 _ rfl; (with_reducible repeat (first | refine blk_drewN ?_ _ | refine blk_drew ?_ | refine blk_alloc ?_ _)); refine blk_put (cs := #[.bool t1147, .int .u64 0, .int .u64 0]) ?_ 1 _ rfl; (with_reducible repeat (first | refine blk_drewN ?_ _ | refine blk_drew ?_ | refine blk_alloc ?_ _)); refine blk_put (cs := #[.bool false, .int .u64 0, .int .u64 0]) ?_ 0 _ rfl; (with_reducible repeat (first | refine blk_drewN ?_ _ | refine blk_drew ?_ | refine blk_alloc ?_ _)); exact BK1150.out⟩
 have n2_ : Aside0 (Below w.heap.size w ((((w18.setCell ⟨gb1150, 0, none⟩ (.bool t1147)).setCell ⟨gb1150, 1, none⟩ (.int .u64 t1148)).setCell ⟨gb1150, 2, none⟩ (.int .u64 t1149)).setCell ⟨gb1150, 0, none⟩ (.bool (!(decide (a0 < 0)) == (decide (a2 < 0)))))) := ⟨(zb1 HB)⟩
 (try clear BK1143)
 (try clear BK1150)
 (try clear HB)
 generalize ((((w18.setCell ⟨gb1150, 0, none⟩ (.bool t1147)).setCell ⟨gb1150, 1, none⟩ (.int .u64 t1148)).setCell ⟨gb1150, 2, none⟩ (.int .u64 t1149)).setCell ⟨gb1150, 0, none⟩ (.bool (!(decide (a0 < 0)) == (decide (a2 < 0))))) = w21 at n0_ n1_ n2_ ⊢
 have BK1143 := n0_; have BK1150 := n1_; have HB := n2_
 clear n0_ n1_ n2_
 replace BK1143 := Aside0.mk (blk_drew BK1143.out); replace BK1150 := Aside0.mk (blk_drew BK1150.out); replace HB := Aside0.mk (below_drew1 HB.out)
 refine start_ (n := 10) (S := fun w' => w'.cell? ⟨gb1150, 0, none⟩ = some (.bool (!(decide (a0 < 0)) == (decide (a2 < 0)))) ∧ w'.cell? ⟨gb1150, 1, none⟩ = some (.int .u64 t1148) ∧ w'.cell? ⟨gb1150, 2, none⟩ = some (.int .u64 t1149)) (ds := []) #[false, false, false, false, false, false, false, false, false, false] (by kernel_rfl) rfl rfl ⟨zc BK1150 0, zc BK1150 1, zc BK1150 2⟩ (fun hHeld => ?_); refine with_tabW impl_quotientDown.tab3 impl_quotientDown.bits3 (fun HT_ HW_ => ?_)
 generalize w21.drew = w22 at BK1143 BK1150 HB hHeld ⊢
 refine zp (i := 0) (N := some 32) #[true, false, false, false, false, false, false, false, false, false] (any_of HT_.out (by kernel_rfl)) ?_
 refine zp (i := 2) (N := some 34) #[true, false, true, false, false, false, false, false, false, false] (any_of HT_.out (by kernel_rfl)) ?_
 refine take_ (i := 1) (N := some 33) (v := ?_) (a' := ?_) #[true, true, true, false, false, false, false, false, false, false] rfl rfl (take_ofW HT_.out HW_.out (by kernel_rfl)) (fun _ _ _ h => h) (Or.inl ⟨by rfl, ?_⟩) hHeld ?_ ?_
 rotate_left
 ·
  rintro w' ⟨s0, s1, s2⟩
  go_simp
  with_reducible rfl
 rotate_left
 ·
  simp only [Act.put, List.setIfInBounds_toArray, List.set_cons_zero, List.set_cons_succ, i64_w, i32_w]
  rfl
 refine one_ (i := 3) (N := some 35) #[true, true, true, true, false, false, false, false, false, false] rfl rfl (one_of HT_.out (by kernel_rfl)) (by decide) (fun K hK => ?_)
 refine goes_ Try.func106 (by kernel_rfl) rfl #[.int .i64 a2] (by rfl) rfl rfl zq6 ?_
 with_reducible refine (impl_size.calls a2 t1151 _ A8.out).mono ?_
 rintro e w' ⟨rfl, ⟨nd, rfl⟩⟩
 refine ⟨_, rfl, ?_⟩
 refine hK.out _ _ ⟨zc BK1150 0, zc BK1150 1, zc BK1150 2⟩ (fun hHeld => ?_)
 clear hK K
 refine norm_ (a' := ?_) ?_ ?_
 rotate_left
 ·
  show Act.put _ (some 35) _ = _
  simp only [Act.put, List.setIfInBounds_toArray, List.set_cons_zero, List.set_cons_succ, i64_w, i32_w]; rfl
 refine one_ (i := 4) (N := some 36) #[true, true, true, true, true, false, false, false, false, false] rfl rfl (one_of HT_.out (by kernel_rfl)) (by decide) (fun K hK => ?_)
 refine goes_ Try.func116 (by kernel_rfl) rfl #[.int .u64 0, .int .u64 t1148, .int .u64 t1151] (by rfl) rfl rfl zq6 ?_
 with_reducible refine (bits_Div64.calls k 0 t1148 t1151 t1152 t1153 _ A9.out).mono ?_
 rintro e w' ⟨rfl, ⟨nd, rfl⟩⟩
 refine ⟨_, rfl, ?_⟩
 refine hK.out _ _ ⟨zc BK1150 0, zc BK1150 1, zc BK1150 2⟩ (fun hHeld => ?_)
 clear hK K
 refine norm_ (a' := ?_) ?_ ?_
 rotate_left
 ·
  show Act.put _ (some 36) _ = _
  simp only [Act.put, List.setIfInBounds_toArray, List.set_cons_zero, List.set_cons_succ, i64_w, i32_w]; rfl
 refine zp (i := 5) (N := some 31) #[true, true, true, true, true, true, false, false, false, false] (any_of HT_.out (by kernel_rfl)) ?_
 refine zp (i := 6) (N := some 37) #[true, true, true, true, true, true, true, false, false, false] (any_of HT_.out (by kernel_rfl)) ?_
 refine zp (i := 7) (N := some 38) #[true, true, true, true, true, true, true, true, false, false] (any_of HT_.out (by kernel_rfl)) ?_
 refine zp (i := 8) (N := some 11) #[true, true, true, true, true, true, true, true, true, false] (any_of HT_.out (by kernel_rfl)) ?_
 refine zp (i := 9) (N := some 12) #[true, true, true, true, true, true, true, true, true, true] (any_of HT_.out (by kernel_rfl)) ?_
 refine done_ (done_of HT_.out (by kernel_rfl)) ?_
 try go_wp2
 (try simp only [World.drewN_drewN])
 (try (rw [drewN_self w22]; generalize hq_ : World.drewN w22 _ = w22; have n0_ : Aside0 (w22.heap[gb1143]? = some (.cells #[.int .i64 0, .int .i64 0] 27 (0, 0))) := ⟨by rw [← hq_]; exact (zq1 BK1143)⟩; have n1_ : Aside0 (w22.heap[gb1150]? = some (.cells #[.bool (!(decide (a0 < 0)) == (decide (a2 < 0))), .int .u64 t1148, .int .u64 t1149] 64 (0, 0))) := ⟨by rw [← hq_]; exact (zq1 BK1150)⟩; have n2_ : Aside0 (Below w.heap.size w w22) := ⟨by rw [← hq_]; exact (zb1 HB)⟩; clear BK1143 BK1150 HB hq_; have BK1143 := n0_; have BK1150 := n1_; have HB := n2_; clear n0_ n1_ n2_))
 replace BK1143 := Aside0.mk (blk_drew BK1143.out); replace BK1150 := Aside0.mk (blk_drew BK1150.out); replace HB := Aside0.mk (below_drew1 HB.out)
 refine start_ (n := 11) (S := fun w' => w'.cell? ⟨gb1150, 0, none⟩ = some (.bool (!(decide (a0 < 0)) == (decide (a2 < 0)))) ∧ w'.cell? ⟨gb1150, 1, none⟩ = some (.int .u64 t1148) ∧ w'.cell? ⟨gb1150, 2, none⟩ = some (.int .u64 t1149)) (ds := []) #[false, false, false, false, false, false, false, false, false, false, false] (by kernel_rfl) rfl rfl ⟨zc BK1150 0, zc BK1150 1, zc BK1150 2⟩ (fun hHeld => ?_); refine with_tabW impl_quotientDown.tab4 impl_quotientDown.bits4 (fun HT_ HW_ => ?_)
 generalize w22.drew = w23 at BK1143 BK1150 HB hHeld ⊢
 refine zp (i := 0) (N := some 40) #[true, false, false, false, false, false, false, false, false, false, false] (any_of HT_.out (by kernel_rfl)) ?_
 refine zp (i := 1) (N := some 41) #[true, true, false, false, false, false, false, false, false, false, false] (any_of HT_.out (by kernel_rfl)) ?_
 refine zp (i := 3) (N := some 43) #[true, true, false, true, false, false, false, false, false, false, false] (any_of HT_.out (by kernel_rfl)) ?_
 refine take_ (i := 2) (N := some 42) (v := ?_) (a' := ?_) #[true, true, true, true, false, false, false, false, false, false, false] rfl rfl (take_ofW HT_.out HW_.out (by kernel_rfl)) (fun _ _ _ h => h) (Or.inl ⟨by rfl, ?_⟩) hHeld ?_ ?_
 rotate_left
 ·
  rintro w' ⟨s0, s1, s2⟩
  go_simp
  with_reducible rfl
 rotate_left
 ·
  simp only [Act.put, List.setIfInBounds_toArray, List.set_cons_zero, List.set_cons_succ, i64_w, i32_w]
  rfl
 refine one_ (i := 4) (N := some 44) #[true, true, true, true, true, false, false, false, false, false, false] rfl rfl (one_of HT_.out (by kernel_rfl)) (by decide) (fun K hK => ?_)
 refine goes_ Try.func106 (by kernel_rfl) rfl #[.int .i64 a2] (by rfl) rfl rfl zq6 ?_
 with_reducible refine (impl_size.calls a2 t1154 _ A10.out).mono ?_
 rintro e w' ⟨rfl, ⟨nd, rfl⟩⟩
 refine ⟨_, rfl, ?_⟩
 refine hK.out _ _ ⟨zc BK1150 0, zc BK1150 1, zc BK1150 2⟩ (fun hHeld => ?_)
 clear hK K
 refine norm_ (a' := ?_) ?_ ?_
 rotate_left
 ·
  show Act.put _ (some 44) _ = _
  simp only [Act.put, List.setIfInBounds_toArray, List.set_cons_zero, List.set_cons_succ, i64_w, i32_w]; rfl
 refine one_ (i := 5) (N := some 45) #[true, true, true, true, true, true, false, false, false, false, false] rfl rfl (one_of HT_.out (by kernel_rfl)) (by decide) (fun K hK => ?_)
 refine goes_ Try.func116 (by kernel_rfl) rfl #[.int .u64 t1153, .int .u64 t1149, .int .u64 t1154] (by rfl) rfl rfl zq6 ?_
 with_reducible refine (bits_Div64.calls k t1153 t1149 t1154 t1155 t1156 _ A11.out).mono ?_
 rintro e w' ⟨rfl, ⟨nd, rfl⟩⟩
 refine ⟨_, rfl, ?_⟩
 refine hK.out _ _ ⟨zc BK1150 0, zc BK1150 1, zc BK1150 2⟩ (fun hHeld => ?_)
 clear hK K
 refine norm_ (a' := ?_) ?_ ?_
 rotate_left
 ·
  show Act.put _ (some 45) _ = _
  simp only [Act.put, List.setIfInBounds_toArray, List.set_cons_zero, List.set_cons_succ, i64_w, i32_w]; rfl
 refine zp (i := 6) (N := some 39) #[true, true, true, true, true, true, true, false, false, false, false] (any_of HT_.out (by kernel_rfl)) ?_
 refine zp (i := 7) (N := some 46) #[true, true, true, true, true, true, true, true, false, false, false] (any_of HT_.out (by kernel_rfl)) ?_
 refine zp (i := 8) (N := some 47) #[true, true, true, true, true, true, true, true, true, false, false] (any_of HT_.out (by kernel_rfl)) ?_
 refine zp (i := 9) (N := some 13) #[true, true, true, true, true, true, true, true, true, true, false] (any_of HT_.out (by kernel_rfl)) ?_
 refine zp (i := 10) (N := some 14) #[true, true, true, true, true, true, true, true, true, true, true] (any_of HT_.out (by kernel_rfl)) ?_
 refine done_ (done_of HT_.out (by kernel_rfl)) ?_
 have hcz24_0 : w23.cell? ⟨gb1150, 0, none⟩ = some (.bool (!(decide (a0 < 0)) == (decide (a2 < 0)))) := zc BK1150 0
 have hcz24_1 : w23.cell? ⟨gb1150, 1, none⟩ = some (.int .u64 t1148) := zc BK1150 1
 have hcz24_2 : w23.cell? ⟨gb1150, 2, none⟩ = some (.int .u64 t1149) := zc BK1150 2
 have hfz24_0 := blk_frozen BK1150.out 0
 have hfz24_1 := blk_frozen BK1150.out 1
 have hfz24_2 := blk_frozen BK1150.out 2
 go_upto_region 7 with (first | ((with_reducible refine gate_dst (N := 15) rfl ?_); (try (refine gate_guard (by rfl) ?_; dsimp only)); refine zbe (N := 15) (cs := #[.bool false, .int .u64 0, .int .u64 0]) (t := 64) ?_; intro gb1157 hg w25 hbox hb; have BK1157 := Aside0.mk (hbox); have GW1157 := Aside0.mk (zge (zb1 HB) hg); have GE1157 := GW1157; have NB1143_1157 := Aside0.mk (zlt BK1143 hg); have NB1157_1143 := Aside0.mk (zgt BK1143 hg); have NB1150_1157 := Aside0.mk (zlt BK1150 hg); have NB1157_1150 := Aside0.mk (zgt BK1150 hg); replace BK1143 := Aside0.mk (zbb BK1143 hb); replace BK1150 := Aside0.mk (zbb BK1150 hb); replace HB := Aside0.mk (below_step (zb1 HB) hb); clear hb hbox hg; have hnb26 := NB1157_1143.out; have hnc26 := NB1143_1157.out; have hnb27 := NB1157_1150.out; have hnc27 := NB1150_1157.out; have hcz28_0 : w25.cell? ⟨gb1157, 0, none⟩ = some (.bool false) := zc BK1157 0; have hcz28_1 : w25.cell? ⟨gb1157, 1, none⟩ = some (.int .u64 0) := zc BK1157 1; have hcz28_2 : w25.cell? ⟨gb1157, 2, none⟩ = some (.int .u64 0) := zc BK1157 2; have hfz28_0 := blk_frozen BK1157.out 0; have hfz28_1 := blk_frozen BK1157.out 1; have hfz28_2 := blk_frozen BK1157.out 2) | ((with_reducible refine gate_callee (f := 80) rfl ?_); refine goesL_ (some 58) rfl rfl Try.func80 (by kernel_rfl) rfl #[.agg #[.bool (!(decide (a0 < 0)) == (decide (a2 < 0))), .int .u64 t1152, .int .u64 t1155], .int .i64 ji12] rfl (by (try simp only [List.map_toArray, List.map_cons, List.map_nil]); first | done | (simp only [hji12]; rfl) | rfl | (simp only [List.length_drop, List.length_take]; rfl)) ?_; (with_reducible refine (impl_wide_shift.calls (!(decide (a0 < 0)) == (decide (a2 < 0))) t1152 t1155 ji12 t1158 t1159 t1160 _ A13.out).mono ?_); rintro e w29 ⟨rfl, hb⟩; refine ⟨_, rfl, ?_⟩; replace BK1143 := Aside0.mk (blk_below (g := gb1143) (o := .cells #[.int .i64 0, .int .i64 0] 27 (0, 0)) (zq5 BK1143) hb); replace BK1150 := Aside0.mk (blk_below (g := gb1150) (o := .cells #[.bool (!(decide (a0 < 0)) == (decide (a2 < 0))), .int .u64 t1148, .int .u64 t1149] 64 (0, 0)) (zq5 BK1150) hb); replace BK1157 := Aside0.mk (blk_below (g := gb1157) (o := .cells #[.bool (!(decide (a0 < 0)) == (decide (a2 < 0))), .int .u64 t1152, .int .u64 t1155] 64 (0, 0)) (by (with_reducible repeat (first | refine blk_drewN ?_ _ | refine blk_drew ?_ | refine blk_alloc ?_ _)); refine blk_put (cs := #[.bool (!(decide (a0 < 0)) == (decide (a2 < 0))), .int .u64 t1152, .int .u64 0]) ?_ 2 _ rfl; (with_reducible repeat (first | refine blk_drewN ?_ _ | refine blk_drew ?_ | refine blk_alloc ?_ _)); refine blk_put (cs := #[.bool (!(decide (a0 < 0)) == (decide (a2 < 0))), .int .u64 0, .int .u64 0]) ?_ 1 _ rfl; (with_reducible repeat (first | refine blk_drewN ?_ _ | refine blk_drew ?_ | refine blk_alloc ?_ _)); refine blk_put (cs := #[.bool false, .int .u64 0, .int .u64 0]) ?_ 0 _ rfl; (with_reducible repeat (first | refine blk_drewN ?_ _ | refine blk_drew ?_ | refine blk_alloc ?_ _)); exact BK1157.out) hb); replace HB := Aside0.mk (below_step (zb1 HB) hb); (try clear hb); (try clear hb2); (try clear hk); (try clear hi)) | ((with_reducible refine gate_dst (N := 16) rfl ?_); (try (refine gate_guard (by rfl) ?_; dsimp only)); refine zbe (N := 16) (cs := #[.bool false, .int .u64 0, .int .u64 0]) (t := 64) ?_; intro gb1161 hg w30 hbox hb; have BK1161 := Aside0.mk (hbox); have GW1161 := Aside0.mk (zge (zb1 HB) hg); have GE1161 := GW1161; have NB1143_1161 := Aside0.mk (zlt BK1143 hg); have NB1161_1143 := Aside0.mk (zgt BK1143 hg); have NB1150_1161 := Aside0.mk (zlt BK1150 hg); have NB1161_1150 := Aside0.mk (zgt BK1150 hg); have NB1157_1161 := Aside0.mk (zlt BK1157 hg); have NB1161_1157 := Aside0.mk (zgt BK1157 hg); replace BK1143 := Aside0.mk (zbb BK1143 hb); replace BK1150 := Aside0.mk (zbb BK1150 hb); replace BK1157 := Aside0.mk (zbb BK1157 hb); replace HB := Aside0.mk (below_step (zb1 HB) hb); clear hb hbox hg; have hnb31 := NB1161_1143.out; have hnc31 := NB1143_1161.out; have hnb32 := NB1161_1150.out; have hnc32 := NB1150_1161.out; have hnb33 := NB1161_1157.out; have hnc33 := NB1157_1161.out; have hcz34_0 : w30.cell? ⟨gb1161, 0, none⟩ = some (.bool false) := zc BK1161 0; have hcz34_1 : w30.cell? ⟨gb1161, 1, none⟩ = some (.int .u64 0) := zc BK1161 1; have hcz34_2 : w30.cell? ⟨gb1161, 2, none⟩ = some (.int .u64 0) := zc BK1161 2; have hfz34_0 := blk_frozen BK1161.out 0; have hfz34_1 := blk_frozen BK1161.out 1; have hfz34_2 := blk_frozen BK1161.out 2))
 (try simp only [Act.put, List.setIfInBounds_toArray, List.set_cons_zero, List.set_cons_succ])
 go_cut [17] (fun v17 wc => ∃ (kq : Nat) (x17_13 : Bool), v17 = .bool x17_13 ∧ Aside0 (impl_quotientDown.j0 kq a3 x17_13 (!(decide (a0 < 0)) == (decide (a2 < 0))) t1148 t1149 t1158 t1159 t1160 = some (r1, r2, r3)) ∧ Aside0 (kq ≤ k) ∧ Aside0 (wc.heap[gb1143]? = some (.cells #[.int .i64 0, .int .i64 0] 27 (0, 0))) ∧ Aside0 (wc.heap[gb1150]? = some (.cells #[.bool (!(decide (a0 < 0)) == (decide (a2 < 0))), .int .u64 t1148, .int .u64 t1149] 64 (0, 0))) ∧ Aside0 (wc.heap[gb1157]? = some (.cells #[.bool (!(decide (a0 < 0)) == (decide (a2 < 0))), .int .u64 t1152, .int .u64 t1155] 64 (0, 0))) ∧ Aside0 (wc.heap[gb1161]? = some (.cells #[.bool t1158, .int .u64 t1159, .int .u64 t1160] 64 (0, 0))) ∧ Aside0 (Below w.heap.size w wc))
 case first =>
  have H := HC14.out
  clear HC14
  by_cases c35 : t1156 = 0
  ·
   rw [if_pos c35] at H
   have c35b0 : (t1156 == 0) = true := beq_iff_eq.mpr c35
   have c35b1 : (t1156 != 0) = false := bne_eq_false_iff_eq.mpr c35
   clear c35
   (first | rw [c35b0] | (simp only [i64_w, i32_w]; rw [c35b0]) | skip)
   obtain ⟨ji36, hji36⟩ : ∃ j_ : Int, (mx (wrap64 ((wrap64 (-a1)) - a3)) 0) = j_ := ⟨_, rfl⟩
   replace H : ((impl_wide_shift.f t1158 t1159 t1160 (ji36)).bind fun bt1162 => ((impl_compareSizes.f k bt1162.1 bt1162.2.1 bt1162.2.2 (!(decide (a0 < 0)) == (decide (a2 < 0))) t1152 t1155).bind fun t1165 => (impl_quotientDown.j0 k a3 (t1165 == 0) (!(decide (a0 < 0)) == (decide (a2 < 0))) t1148 t1149 t1158 t1159 t1160))) = some (r1, r2, r3) := by first | (rw [hji36] at H; exact H) | (simp only [hji36] at H ⊢; exact H)
   (try (have hji36l : 0 ≤ ji36 := by (rw [← hji36]; unfold mx; (repeat' split) <;> omega)))
   (try (have hji36m : 0 ≤ ji36 := by omega))
   have hji36_ : (if (wrap64 ((wrap64 (-a1)) - a3)) < 0 then 0 else (wrap64 ((wrap64 (-a1)) - a3))) = ji36 := hji36
   replace H := Option.bind_eq_some_iff.mp H
   obtain ⟨⟨t1162, t1163, t1164⟩, A370, H⟩ := H
   replace H : ((impl_compareSizes.f k t1162 t1163 t1164 (!(decide (a0 < 0)) == (decide (a2 < 0))) t1152 t1155).bind fun t1165 => (impl_quotientDown.j0 k a3 (t1165 == 0) (!(decide (a0 < 0)) == (decide (a2 < 0))) t1148 t1149 t1158 t1159 t1160)) = some (r1, r2, r3) := H
   have A37 := Aside0.mk A370
   clear A370
   replace H := Option.bind_eq_some_iff.mp H
   obtain ⟨t1165, A380, H⟩ := H
   replace H : (impl_quotientDown.j0 k a3 (t1165 == 0) (!(decide (a0 < 0)) == (decide (a2 < 0))) t1148 t1149 t1158 t1159 t1160) = some (r1, r2, r3) := H
   have A38 := Aside0.mk A380
   clear A380
   have H' := Aside0.mk H
   clear H
   try go_wp2
   have n0_ : Aside0 ((((w30.setCell ⟨gb1161, 0, none⟩ (.bool t1158)).setCell ⟨gb1161, 1, none⟩ (.int .u64 t1159)).setCell ⟨gb1161, 2, none⟩ (.int .u64 t1160)).heap[gb1143]? = some (.cells #[.int .i64 0, .int .i64 0] 27 (0, 0))) := ⟨zq5 BK1143⟩
   have n1_ : Aside0 ((((w30.setCell ⟨gb1161, 0, none⟩ (.bool t1158)).setCell ⟨gb1161, 1, none⟩ (.int .u64 t1159)).setCell ⟨gb1161, 2, none⟩ (.int .u64 t1160)).heap[gb1150]? = some (.cells #[.bool (!(decide (a0 < 0)) == (decide (a2 < 0))), .int .u64 t1148, .int .u64 t1149] 64 (0, 0))) := ⟨zq5 BK1150⟩
   have n2_ : Aside0 ((((w30.setCell ⟨gb1161, 0, none⟩ (.bool t1158)).setCell ⟨gb1161, 1, none⟩ (.int .u64 t1159)).setCell ⟨gb1161, 2, none⟩ (.int .u64 t1160)).heap[gb1157]? = some (.cells #[.bool (!(decide (a0 < 0)) == (decide (a2 < 0))), .int .u64 t1152, .int .u64 t1155] 64 (0, 0))) := ⟨zq5 BK1157⟩
   have n3_ : Aside0 ((((w30.setCell ⟨gb1161, 0, none⟩ (.bool t1158)).setCell ⟨gb1161, 1, none⟩ (.int .u64 t1159)).setCell ⟨gb1161, 2, none⟩ (.int .u64 t1160)).heap[gb1161]? = some (.cells #[.bool t1158, .int .u64 t1159, .int .u64 t1160] 64 (0, 0))) := ⟨by (with_reducible repeat (first | refine blk_drewN ?_ _ | refine blk_drew ?_ | refine blk_alloc ?_ _)); refine blk_put (cs := #[.bool t1158, .int .u64 t1159, .int .u64 0]) ?_ 2 _ rfl; (with_reducible repeat (first | refine blk_drewN ?_ _ | refine blk_drew ?_ | refine blk_alloc ?_ _)); refine blk_put (cs := #[.bool t1158, .int .u64 0, .int .u64 0]) ?_ 1 _ rfl; (with_reducible repeat (first | refine blk_drewN ?_ _ | refine blk_drew ?_ | refine blk_alloc ?_ _)); refine blk_put (cs := #[.bool false, .int .u64 0, .int .u64 0]) ?_ 0 _ rfl; (with_reducible repeat (first | refine blk_drewN ?_ _ | refine blk_drew ?_ | refine blk_alloc ?_ _)); exact BK1161.out⟩
   have n4_ : Aside0 (Below w.heap.size w (((w30.setCell ⟨gb1161, 0, none⟩ (.bool t1158)).setCell ⟨gb1161, 1, none⟩ (.int .u64 t1159)).setCell ⟨gb1161, 2, none⟩ (.int .u64 t1160))) := ⟨(zb1 HB)⟩
   (try clear BK1143)
   (try clear BK1150)
   (try clear BK1157)
   (try clear BK1161)
   (try clear HB)
   generalize (((w30.setCell ⟨gb1161, 0, none⟩ (.bool t1158)).setCell ⟨gb1161, 1, none⟩ (.int .u64 t1159)).setCell ⟨gb1161, 2, none⟩ (.int .u64 t1160)) = w39 at n0_ n1_ n2_ n3_ n4_ ⊢
   have BK1143 := n0_; have BK1150 := n1_; have BK1157 := n2_; have BK1161 := n3_; have HB := n4_
   clear n0_ n1_ n2_ n3_ n4_
   replace BK1143 := Aside0.mk (blk_drew BK1143.out); replace BK1150 := Aside0.mk (blk_drew BK1150.out); replace BK1157 := Aside0.mk (blk_drew BK1157.out); replace BK1161 := Aside0.mk (blk_drew BK1161.out); replace HB := Aside0.mk (below_drew1 HB.out)
   refine start_ (n := 15) (S := fun w' => w'.cell? ⟨gb1161, 0, none⟩ = some (.bool t1158) ∧ w'.cell? ⟨gb1161, 1, none⟩ = some (.int .u64 t1159) ∧ w'.cell? ⟨gb1161, 2, none⟩ = some (.int .u64 t1160) ∧ w'.cell? ⟨gb1157, 0, none⟩ = some (.bool (!(decide (a0 < 0)) == (decide (a2 < 0)))) ∧ w'.cell? ⟨gb1157, 1, none⟩ = some (.int .u64 t1152) ∧ w'.cell? ⟨gb1157, 2, none⟩ = some (.int .u64 t1155)) (ds := []) #[false, false, false, false, false, false, false, false, false, false, false, false, false, false, false] (by kernel_rfl) rfl rfl ⟨zc BK1161 0, zc BK1161 1, zc BK1161 2, zc BK1157 0, zc BK1157 1, zc BK1157 2⟩ (fun hHeld => ?_); refine with_tabW impl_quotientDown.tab7 impl_quotientDown.bits7 (fun HT_ HW_ => ?_)
   generalize w39.drew = w40 at BK1143 BK1150 BK1157 BK1161 HB hHeld ⊢
   refine zp (i := 0) (N := some 59) #[true, false, false, false, false, false, false, false, false, false, false, false, false, false, false] (any_of HT_.out (by kernel_rfl)) ?_
   refine zp (i := 1) (N := some 60) #[true, true, false, false, false, false, false, false, false, false, false, false, false, false, false] (any_of HT_.out (by kernel_rfl)) ?_
   refine zp (i := 2) (N := some 61) #[true, true, true, false, false, false, false, false, false, false, false, false, false, false, false] (any_of HT_.out (by kernel_rfl)) ?_
   refine zp (i := 4) (N := some 63) #[true, true, true, false, true, false, false, false, false, false, false, false, false, false, false] (any_of HT_.out (by kernel_rfl)) ?_
   refine zp (i := 5) (N := some 64) #[true, true, true, false, true, true, false, false, false, false, false, false, false, false, false] (any_of HT_.out (by kernel_rfl)) ?_
   refine zp (i := 6) (N := some 65) #[true, true, true, false, true, true, true, false, false, false, false, false, false, false, false] (any_of HT_.out (by kernel_rfl)) ?_
   refine zp (i := 7) (N := some 66) #[true, true, true, false, true, true, true, true, false, false, false, false, false, false, false] (any_of HT_.out (by kernel_rfl)) ?_
   refine zp (i := 8) (N := some 67) #[true, true, true, false, true, true, true, true, true, false, false, false, false, false, false] (any_of HT_.out (by kernel_rfl)) ?_
   refine take_ (i := 3) (N := some 62) (v := ?_) (a' := ?_) #[true, true, true, true, true, true, true, true, true, false, false, false, false, false, false] rfl rfl (take_ofW HT_.out HW_.out (by kernel_rfl)) (fun _ _ _ h => h) (Or.inl ⟨by rfl, ?_⟩) hHeld ?_ ?_
   rotate_left
   ·
    rintro w' ⟨s0, s1, s2, s3, s4, s5⟩
    go_simp
    with_reducible rfl
   rotate_left
   ·
    simp only [Act.put, List.setIfInBounds_toArray, List.set_cons_zero, List.set_cons_succ, i64_w, i32_w]
    rfl
   refine take_ (i := 10) (N := some 69) (v := ?_) (a' := ?_) #[true, true, true, true, true, true, true, true, true, false, true, false, false, false, false] rfl rfl (take_ofW HT_.out HW_.out (by kernel_rfl)) (fun _ _ _ h => h) (Or.inl ⟨by rfl, ?_⟩) hHeld ?_ ?_
   rotate_left
   ·
    rintro w' ⟨s0, s1, s2, s3, s4, s5⟩
    go_simp
    with_reducible rfl
   rotate_left
   ·
    simp only [Act.put, List.setIfInBounds_toArray, List.set_cons_zero, List.set_cons_succ, i64_w, i32_w]
    rfl
   refine one_ (i := 9) (N := some 68) #[true, true, true, true, true, true, true, true, true, true, true, false, false, false, false] rfl rfl (one_of HT_.out (by kernel_rfl)) (by decide) (fun K hK => ?_)
   refine goes_ Try.func80 (by kernel_rfl) rfl #[.agg #[.bool t1158, .int .u64 t1159, .int .u64 t1160], .int .i64 ji36] (by rfl) rfl rfl (by (try simp only [List.map_toArray, List.map_cons, List.map_nil]); first | done | (simp only [hji36]; rfl) | rfl | (simp only [List.length_drop, List.length_take]; rfl)) ?_
   with_reducible refine (impl_wide_shift.calls t1158 t1159 t1160 ji36 t1162 t1163 t1164 _ A37.out).mono ?_
   rintro e w41 ⟨rfl, hb⟩
   refine ⟨_, rfl, ?_⟩
   replace BK1143 := Aside0.mk (zbb BK1143 hb); replace BK1150 := Aside0.mk (zbb BK1150 hb); replace BK1157 := Aside0.mk (zbb BK1157 hb); replace BK1161 := Aside0.mk (zbb BK1161 hb); replace HB := Aside0.mk (below_step (zb1 HB) hb)
   (try clear hb)
   (try clear hb2)
   (try clear hk)
   (try clear hi)
   refine hK.out _ _ ⟨zc BK1161 0, zc BK1161 1, zc BK1161 2, zc BK1157 0, zc BK1157 1, zc BK1157 2⟩ (fun hHeld => ?_)
   clear hK K
   refine norm_ (a' := ?_) ?_ ?_
   rotate_left
   ·
    show Act.put _ (some 68) _ = _
    simp only [Act.put, List.setIfInBounds_toArray, List.set_cons_zero, List.set_cons_succ, i64_w, i32_w]; rfl
   refine one_ (i := 11) (N := some 70) #[true, true, true, true, true, true, true, true, true, true, true, true, false, false, false] rfl rfl (one_of HT_.out (by kernel_rfl)) (by decide) (fun K hK => ?_)
   refine goes_ Try.func105 (by kernel_rfl) rfl #[.agg #[.bool t1162, .int .u64 t1163, .int .u64 t1164], .agg #[.bool (!(decide (a0 < 0)) == (decide (a2 < 0))), .int .u64 t1152, .int .u64 t1155]] (by rfl) rfl rfl zq6 ?_
   with_reducible refine (impl_compareSizes.calls k t1162 t1163 t1164 (!(decide (a0 < 0)) == (decide (a2 < 0))) t1152 t1155 t1165 _ A38.out).mono ?_
   rintro e w42 ⟨rfl, hb⟩
   refine ⟨_, rfl, ?_⟩
   replace BK1143 := Aside0.mk (zbb BK1143 hb); replace BK1150 := Aside0.mk (zbb BK1150 hb); replace BK1157 := Aside0.mk (zbb BK1157 hb); replace BK1161 := Aside0.mk (zbb BK1161 hb); replace HB := Aside0.mk (below_step (zb1 HB) hb)
   (try clear hb)
   (try clear hb2)
   (try clear hk)
   (try clear hi)
   refine hK.out _ _ ⟨zc BK1161 0, zc BK1161 1, zc BK1161 2, zc BK1157 0, zc BK1157 1, zc BK1157 2⟩ (fun hHeld => ?_)
   clear hK K
   refine norm_ (a' := ?_) ?_ ?_
   rotate_left
   ·
    show Act.put _ (some 70) _ = _
    simp only [Act.put, List.setIfInBounds_toArray, List.set_cons_zero, List.set_cons_succ, i64_w, i32_w]; rfl
   refine zp (i := 12) (N := some 71) #[true, true, true, true, true, true, true, true, true, true, true, true, true, false, false] (any_of HT_.out (by kernel_rfl)) ?_
   refine zp (i := 13) (N := some 72) #[true, true, true, true, true, true, true, true, true, true, true, true, true, true, false] (any_of HT_.out (by kernel_rfl)) ?_
   refine zp (i := 14) (N := some 17) #[true, true, true, true, true, true, true, true, true, true, true, true, true, true, true] (any_of HT_.out (by kernel_rfl)) ?_
   refine done_ (done_of HT_.out (by kernel_rfl)) ?_
   try go_wp2
   go_meet
   case rel => exact ⟨_, ((t1165 == 0)), (by first | rfl | (simp; done) | (simp [*]; done)), H', ⟨by first | omega | exact Nat.le_refl _⟩, ⟨by (with_reducible repeat (first | refine blk_drewN ?_ _ | refine blk_drew ?_ | refine blk_alloc ?_ _)); exact BK1143.out⟩, ⟨by (with_reducible repeat (first | refine blk_drewN ?_ _ | refine blk_drew ?_ | refine blk_alloc ?_ _)); exact BK1150.out⟩, ⟨by (with_reducible repeat (first | refine blk_drewN ?_ _ | refine blk_drew ?_ | refine blk_alloc ?_ _)); exact BK1157.out⟩, ⟨by (with_reducible repeat (first | refine blk_drewN ?_ _ | refine blk_drew ?_ | refine blk_alloc ?_ _)); exact BK1161.out⟩, ⟨(zb1 HB)⟩⟩
  ·
   rw [if_neg c35] at H
   have c35b0 : (t1156 == 0) = false := beq_eq_false_iff_ne.mpr c35
   have c35b1 : (t1156 != 0) = true := bne_iff_ne.mpr c35
   (first | rw [c35b0] | (simp only [i64_w, i32_w]; rw [c35b0]) | skip)
   have H' := Aside0.mk H
   clear H
   try go_wp2
   have n0_ : Aside0 ((((w30.setCell ⟨gb1161, 0, none⟩ (.bool t1158)).setCell ⟨gb1161, 1, none⟩ (.int .u64 t1159)).setCell ⟨gb1161, 2, none⟩ (.int .u64 t1160)).heap[gb1143]? = some (.cells #[.int .i64 0, .int .i64 0] 27 (0, 0))) := ⟨zq5 BK1143⟩
   have n1_ : Aside0 ((((w30.setCell ⟨gb1161, 0, none⟩ (.bool t1158)).setCell ⟨gb1161, 1, none⟩ (.int .u64 t1159)).setCell ⟨gb1161, 2, none⟩ (.int .u64 t1160)).heap[gb1150]? = some (.cells #[.bool (!(decide (a0 < 0)) == (decide (a2 < 0))), .int .u64 t1148, .int .u64 t1149] 64 (0, 0))) := ⟨zq5 BK1150⟩
   have n2_ : Aside0 ((((w30.setCell ⟨gb1161, 0, none⟩ (.bool t1158)).setCell ⟨gb1161, 1, none⟩ (.int .u64 t1159)).setCell ⟨gb1161, 2, none⟩ (.int .u64 t1160)).heap[gb1157]? = some (.cells #[.bool (!(decide (a0 < 0)) == (decide (a2 < 0))), .int .u64 t1152, .int .u64 t1155] 64 (0, 0))) := ⟨zq5 BK1157⟩
   have n3_ : Aside0 ((((w30.setCell ⟨gb1161, 0, none⟩ (.bool t1158)).setCell ⟨gb1161, 1, none⟩ (.int .u64 t1159)).setCell ⟨gb1161, 2, none⟩ (.int .u64 t1160)).heap[gb1161]? = some (.cells #[.bool t1158, .int .u64 t1159, .int .u64 t1160] 64 (0, 0))) := ⟨by (with_reducible repeat (first | refine blk_drewN ?_ _ | refine blk_drew ?_ | refine blk_alloc ?_ _)); refine blk_put (cs := #[.bool t1158, .int .u64 t1159, .int .u64 0]) ?_ 2 _ rfl; (with_reducible repeat (first | refine blk_drewN ?_ _ | refine blk_drew ?_ | refine blk_alloc ?_ _)); refine blk_put (cs := #[.bool t1158, .int .u64 0, .int .u64 0]) ?_ 1 _ rfl; (with_reducible repeat (first | refine blk_drewN ?_ _ | refine blk_drew ?_ | refine blk_alloc ?_ _)); refine blk_put (cs := #[.bool false, .int .u64 0, .int .u64 0]) ?_ 0 _ rfl; (with_reducible repeat (first | refine blk_drewN ?_ _ | refine blk_drew ?_ | refine blk_alloc ?_ _)); exact BK1161.out⟩
   have n4_ : Aside0 (Below w.heap.size w (((w30.setCell ⟨gb1161, 0, none⟩ (.bool t1158)).setCell ⟨gb1161, 1, none⟩ (.int .u64 t1159)).setCell ⟨gb1161, 2, none⟩ (.int .u64 t1160))) := ⟨(zb1 HB)⟩
   (try clear BK1143)
   (try clear BK1150)
   (try clear BK1157)
   (try clear BK1161)
   (try clear HB)
   generalize (((w30.setCell ⟨gb1161, 0, none⟩ (.bool t1158)).setCell ⟨gb1161, 1, none⟩ (.int .u64 t1159)).setCell ⟨gb1161, 2, none⟩ (.int .u64 t1160)) = w43 at n0_ n1_ n2_ n3_ n4_ ⊢
   have BK1143 := n0_; have BK1150 := n1_; have BK1157 := n2_; have BK1161 := n3_; have HB := n4_
   clear n0_ n1_ n2_ n3_ n4_
   replace BK1143 := Aside0.mk (blk_drew BK1143.out); replace BK1150 := Aside0.mk (blk_drew BK1150.out); replace BK1157 := Aside0.mk (blk_drew BK1157.out); replace BK1161 := Aside0.mk (blk_drew BK1161.out); replace HB := Aside0.mk (below_drew1 HB.out)
   refine start_ (n := 15) (S := fun w' => True) (ds := []) #[false, false, false, false, false, false, false, false, false, false, false, false, false, false, false] (by kernel_rfl) rfl rfl trivial (fun hHeld => ?_); refine with_tabW impl_quotientDown.tab7 impl_quotientDown.bits7 (fun HT_ HW_ => ?_)
   generalize w43.drew = w44 at BK1143 BK1150 BK1157 BK1161 HB hHeld ⊢
   refine zp (i := 0) (N := some 59) #[true, false, false, false, false, false, false, false, false, false, false, false, false, false, false] (any_of HT_.out (by kernel_rfl)) ?_
   refine zp (i := 1) (N := some 60) #[true, true, false, false, false, false, false, false, false, false, false, false, false, false, false] (any_of HT_.out (by kernel_rfl)) ?_
   refine zp (i := 2) (N := some 61) #[true, true, true, false, false, false, false, false, false, false, false, false, false, false, false] (any_of HT_.out (by kernel_rfl)) ?_
   refine pure_ (i := 3) (N := some 62) (v := undef) (a' := ?_) #[true, true, true, true, false, false, false, false, false, false, false, false, false, false, false] rfl rfl (any_of HT_.out (by kernel_rfl)) (fun _ _ _ h => h) (Or.inr ⟨by rfl, rfl⟩) ?_ ?_
   rotate_left
   ·
    simp only [Act.put, List.setIfInBounds_toArray, List.set_cons_zero, List.set_cons_succ, i64_w, i32_w]
    rfl
   refine pure_ (i := 4) (N := some 63) (v := undef) (a' := ?_) #[true, true, true, true, true, false, false, false, false, false, false, false, false, false, false] rfl rfl (any_of HT_.out (by kernel_rfl)) (fun _ _ _ h => h) (Or.inr ⟨by rfl, rfl⟩) ?_ ?_
   rotate_left
   ·
    simp only [Act.put, List.setIfInBounds_toArray, List.set_cons_zero, List.set_cons_succ, i64_w, i32_w]
    rfl
   refine pure_ (i := 5) (N := some 64) (v := undef) (a' := ?_) #[true, true, true, true, true, true, false, false, false, false, false, false, false, false, false] rfl rfl (any_of HT_.out (by kernel_rfl)) (fun _ _ _ h => h) (Or.inr ⟨by rfl, rfl⟩) ?_ ?_
   rotate_left
   ·
    simp only [Act.put, List.setIfInBounds_toArray, List.set_cons_zero, List.set_cons_succ, i64_w, i32_w]
    rfl
   refine pure_ (i := 6) (N := some 65) (v := undef) (a' := ?_) #[true, true, true, true, true, true, true, false, false, false, false, false, false, false, false] rfl rfl (any_of HT_.out (by kernel_rfl)) (fun _ _ _ h => h) (Or.inr ⟨by rfl, rfl⟩) ?_ ?_
   rotate_left
   ·
    simp only [Act.put, List.setIfInBounds_toArray, List.set_cons_zero, List.set_cons_succ, i64_w, i32_w]
    rfl
   refine pure_ (i := 7) (N := some 66) (v := undef) (a' := ?_) #[true, true, true, true, true, true, true, true, false, false, false, false, false, false, false] rfl rfl (any_of HT_.out (by kernel_rfl)) (fun _ _ _ h => h) (Or.inr ⟨by rfl, rfl⟩) ?_ ?_
   rotate_left
   ·
    simp only [Act.put, List.setIfInBounds_toArray, List.set_cons_zero, List.set_cons_succ, i64_w, i32_w]
    rfl
   refine pure_ (i := 8) (N := some 67) (v := undef) (a' := ?_) #[true, true, true, true, true, true, true, true, true, false, false, false, false, false, false] rfl rfl (any_of HT_.out (by kernel_rfl)) (fun _ _ _ h => h) (Or.inr ⟨by rfl, rfl⟩) ?_ ?_
   rotate_left
   ·
    simp only [Act.put, List.setIfInBounds_toArray, List.set_cons_zero, List.set_cons_succ, i64_w, i32_w]
    rfl
   refine pure_ (i := 9) (N := some 68) (v := undef) (a' := ?_) #[true, true, true, true, true, true, true, true, true, true, false, false, false, false, false] rfl rfl (any_of HT_.out (by kernel_rfl)) (fun _ _ _ h => h) (Or.inr ⟨by rfl, rfl⟩) ?_ ?_
   rotate_left
   ·
    simp only [Act.put, List.setIfInBounds_toArray, List.set_cons_zero, List.set_cons_succ, i64_w, i32_w]
    rfl
   refine pure_ (i := 10) (N := some 69) (v := undef) (a' := ?_) #[true, true, true, true, true, true, true, true, true, true, true, false, false, false, false] rfl rfl (any_of HT_.out (by kernel_rfl)) (fun _ _ _ h => h) (Or.inr ⟨by rfl, rfl⟩) ?_ ?_
   rotate_left
   ·
    simp only [Act.put, List.setIfInBounds_toArray, List.set_cons_zero, List.set_cons_succ, i64_w, i32_w]
    rfl
   refine pure_ (i := 11) (N := some 70) (v := undef) (a' := ?_) #[true, true, true, true, true, true, true, true, true, true, true, true, false, false, false] rfl rfl (any_of HT_.out (by kernel_rfl)) (fun _ _ _ h => h) (Or.inr ⟨by rfl, rfl⟩) ?_ ?_
   rotate_left
   ·
    simp only [Act.put, List.setIfInBounds_toArray, List.set_cons_zero, List.set_cons_succ, i64_w, i32_w]
    rfl
   refine pure_ (i := 12) (N := some 71) (v := undef) (a' := ?_) #[true, true, true, true, true, true, true, true, true, true, true, true, true, false, false] rfl rfl (any_of HT_.out (by kernel_rfl)) (fun _ _ _ h => h) (Or.inr ⟨by rfl, rfl⟩) ?_ ?_
   rotate_left
   ·
    simp only [Act.put, List.setIfInBounds_toArray, List.set_cons_zero, List.set_cons_succ, i64_w, i32_w]
    rfl
   refine zp (i := 13) (N := some 72) #[true, true, true, true, true, true, true, true, true, true, true, true, true, true, false] (any_of HT_.out (by kernel_rfl)) ?_
   refine zp (i := 14) (N := some 17) #[true, true, true, true, true, true, true, true, true, true, true, true, true, true, true] (any_of HT_.out (by kernel_rfl)) ?_
   refine done_ (done_of HT_.out (by kernel_rfl)) ?_
   try go_wp2
   go_meet
   case rel => exact ⟨_, (false), (by first | rfl | (simp; done) | (simp [*]; done)), H', ⟨by first | omega | exact Nat.le_refl _⟩, ⟨by (with_reducible repeat (first | refine blk_drewN ?_ _ | refine blk_drew ?_ | refine blk_alloc ?_ _)); exact BK1143.out⟩, ⟨by (with_reducible repeat (first | refine blk_drewN ?_ _ | refine blk_drew ?_ | refine blk_alloc ?_ _)); exact BK1150.out⟩, ⟨by (with_reducible repeat (first | refine blk_drewN ?_ _ | refine blk_drew ?_ | refine blk_alloc ?_ _)); exact BK1157.out⟩, ⟨by (with_reducible repeat (first | refine blk_drewN ?_ _ | refine blk_drew ?_ | refine blk_alloc ?_ _)); exact BK1161.out⟩, ⟨(zb1 HB)⟩⟩
 case rest =>
  clear HC14
  try clear c1
  try clear c2
  try clear p2
  try clear c3
  try clear p6
  try clear c7
  try clear c8
  try clear c10
  try clear c11
  try clear c19
  try clear c26
  try clear c27
  try clear c31
  try clear c32
  try clear c33
  try clear c35
  try clear c35b0
  try clear c35b1
  try clear hcz20_0
  try clear hcz20_1
  try clear hcz20_2
  try clear hcz24_0
  try clear hcz24_1
  try clear hcz24_2
  try clear hcz28_0
  try clear hcz28_1
  try clear hcz28_2
  try clear hcz34_0
  try clear hcz34_1
  try clear hcz34_2
  try clear hfz20_0
  try clear hfz20_1
  try clear hfz20_2
  try clear hfz24_0
  try clear hfz24_1
  try clear hfz24_2
  try clear hfz28_0
  try clear hfz28_1
  try clear hfz28_2
  try clear hfz34_0
  try clear hfz34_1
  try clear hfz34_2
  obtain ⟨kq, x17_13, rfl, HA, HJ13, BK1143, BK1150, BK1157, BK1161, HB⟩ := hcut
  cases kq with
  | zero => exact absurd HA.out (by simp [impl_quotientDown.j0])
  | succ kj13 =>
   have H := HA.out
   clear HA
   simp only [impl_quotientDown.j0] at H
   have HC45 := Aside0.mk H
   clear H
   go_upto_region 8 with (fail)
   go_cut [78] (fun v78 wc => ∃ (kq : Nat) (x78_44 : Bool), v78 = .bool x78_44 ∧ Aside0 (impl_quotientDown.j1 kq a3 x78_44 t1158 t1159 t1160 = some (r1, r2, r3)) ∧ Aside0 (kq ≤ kj13) ∧ Aside0 (wc.heap[gb1143]? = some (.cells #[.int .i64 0, .int .i64 0] 27 (0, 0))) ∧ Aside0 (wc.heap[gb1150]? = some (.cells #[.bool (!(decide (a0 < 0)) == (decide (a2 < 0))), .int .u64 t1148, .int .u64 t1149] 64 (0, 0))) ∧ Aside0 (wc.heap[gb1157]? = some (.cells #[.bool (!(decide (a0 < 0)) == (decide (a2 < 0))), .int .u64 t1152, .int .u64 t1155] 64 (0, 0))) ∧ Aside0 (wc.heap[gb1161]? = some (.cells #[.bool t1158, .int .u64 t1159, .int .u64 t1160] 64 (0, 0))) ∧ Aside0 (Below w.heap.size w wc))
   case first =>
    have H := HC45.out
    clear HC45
    by_cases c46 : (!(decide (a0 < 0)) == (decide (a2 < 0))) = true
    ·
     rw [if_pos c46] at H
     have c46b0 : (!(decide (a0 < 0)) == (decide (a2 < 0))) = true := c46
     (try (have c46b1 : decide (!(decide (a0 < 0)) = (decide (a2 < 0))) = true := by simpa using c46))
     (try (have c46b2 : (!(decide (a0 < 0)) == (decide (a2 < 0))) = true := by simpa using c46))
     clear c46
     (first | rw [c46b0] | (simp only [i64_w, i32_w]; rw [c46b0]) | skip)
     have H' := Aside0.mk H
     clear H
     have hnb47 := NB1150_1143.out
     have hnc47 := NB1143_1150.out
     have hnb48 := NB1150_1157.out
     have hnc48 := NB1157_1150.out
     have hnb49 := NB1150_1161.out
     have hnc49 := NB1161_1150.out
     have hcz50_0 : wc.cell? ⟨gb1150, 0, none⟩ = some (.bool (!(decide (a0 < 0)) == (decide (a2 < 0)))) := zc BK1150 0
     have hcz50_1 : wc.cell? ⟨gb1150, 1, none⟩ = some (.int .u64 t1148) := zc BK1150 1
     have hcz50_2 : wc.cell? ⟨gb1150, 2, none⟩ = some (.int .u64 t1149) := zc BK1150 2
     have hfz50_0 := blk_frozen BK1150.out 0
     have hfz50_1 := blk_frozen BK1150.out 1
     have hfz50_2 := blk_frozen BK1150.out 2
     go_wp2
     go_meet
     case rel => exact ⟨_, (!x17_13), (by first | rfl | (simp; done) | (simp [*]; done)), H', ⟨by have := HJ13.out; first | omega | exact Nat.le_refl _⟩, ⟨by (with_reducible repeat (first | refine blk_drewN ?_ _ | refine blk_drew ?_ | refine blk_alloc ?_ _)); exact BK1143.out⟩, ⟨by (with_reducible repeat (first | refine blk_drewN ?_ _ | refine blk_drew ?_ | refine blk_alloc ?_ _)); exact BK1150.out⟩, ⟨by (with_reducible repeat (first | refine blk_drewN ?_ _ | refine blk_drew ?_ | refine blk_alloc ?_ _)); exact BK1157.out⟩, ⟨by (with_reducible repeat (first | refine blk_drewN ?_ _ | refine blk_drew ?_ | refine blk_alloc ?_ _)); exact BK1161.out⟩, ⟨(zb1 HB)⟩⟩
    ·
     rw [if_neg c46] at H
     have c46b0 : (!(decide (a0 < 0)) == (decide (a2 < 0))) = false := by simpa using c46
     (try (have c46b1 : decide (!(decide (a0 < 0)) = (decide (a2 < 0))) = false := by simpa using c46))
     (try (have c46b2 : (!(decide (a0 < 0)) == (decide (a2 < 0))) = false := by simpa using c46))
     (try (have c46b3 : ¬ (!(decide (a0 < 0)) = (decide (a2 < 0))) := by simpa using c46))
     clear c46
     (first | rw [c46b0] | (simp only [i64_w, i32_w]; rw [c46b0]) | skip)
     have H' := Aside0.mk H
     clear H
     have hnb51 := NB1150_1143.out
     have hnc51 := NB1143_1150.out
     have hnb52 := NB1150_1157.out
     have hnc52 := NB1157_1150.out
     have hnb53 := NB1150_1161.out
     have hnc53 := NB1161_1150.out
     have hcz54_0 : wc.cell? ⟨gb1150, 0, none⟩ = some (.bool (!(decide (a0 < 0)) == (decide (a2 < 0)))) := zc BK1150 0
     have hcz54_1 : wc.cell? ⟨gb1150, 1, none⟩ = some (.int .u64 t1148) := zc BK1150 1
     have hcz54_2 : wc.cell? ⟨gb1150, 2, none⟩ = some (.int .u64 t1149) := zc BK1150 2
     have hfz54_0 := blk_frozen BK1150.out 0
     have hfz54_1 := blk_frozen BK1150.out 1
     have hfz54_2 := blk_frozen BK1150.out 2
     go_wp2
     go_meet
     case rel => exact ⟨_, (false), (by first | rfl | (simp; done) | (simp [*]; done)), H', ⟨by have := HJ13.out; first | omega | exact Nat.le_refl _⟩, ⟨by (with_reducible repeat (first | refine blk_drewN ?_ _ | refine blk_drew ?_ | refine blk_alloc ?_ _)); exact BK1143.out⟩, ⟨by (with_reducible repeat (first | refine blk_drewN ?_ _ | refine blk_drew ?_ | refine blk_alloc ?_ _)); exact BK1150.out⟩, ⟨by (with_reducible repeat (first | refine blk_drewN ?_ _ | refine blk_drew ?_ | refine blk_alloc ?_ _)); exact BK1157.out⟩, ⟨by (with_reducible repeat (first | refine blk_drewN ?_ _ | refine blk_drew ?_ | refine blk_alloc ?_ _)); exact BK1161.out⟩, ⟨(zb1 HB)⟩⟩
   case rest =>
    clear HC45
    try clear c1
    try clear c2
    try clear p2
    try clear c3
    try clear c4
    try clear c5
    try clear p6
    try clear c7
    try clear c8
    try clear c10
    try clear c11
    try clear c19
    try clear c26
    try clear c27
    try clear c31
    try clear c32
    try clear c33
    try clear c35
    try clear c35b0
    try clear c35b1
    try clear c46
    try clear c46b0
    try clear c46b1
    try clear c46b2
    try clear c47
    try clear c48
    try clear c49
    try clear c51
    try clear c52
    try clear c53
    try clear hcz20_0
    try clear hcz20_1
    try clear hcz20_2
    try clear hcz24_0
    try clear hcz24_1
    try clear hcz24_2
    try clear hcz28_0
    try clear hcz28_1
    try clear hcz28_2
    try clear hcz34_0
    try clear hcz34_1
    try clear hcz34_2
    try clear hcz50_0
    try clear hcz50_1
    try clear hcz50_2
    try clear hcz54_0
    try clear hcz54_1
    try clear hcz54_2
    try clear hfz20_0
    try clear hfz20_1
    try clear hfz20_2
    try clear hfz24_0
    try clear hfz24_1
    try clear hfz24_2
    try clear hfz28_0
    try clear hfz28_1
    try clear hfz28_2
    try clear hfz34_0
    try clear hfz34_1
    try clear hfz34_2
    try clear hfz50_0
    try clear hfz50_1
    try clear hfz50_2
    try clear hfz54_0
    try clear hfz54_1
    try clear hfz54_2
    try clear p2
    try clear p6
    obtain ⟨kq, x78_44, rfl, HA, HJ44, BK1143, BK1150, BK1157, BK1161, HB⟩ := hcut
    cases kq with
    | zero => exact absurd HA.out (by simp [impl_quotientDown.j1])
    | succ kj44 =>
     have H := HA.out
     clear HA
     simp only [impl_quotientDown.j1] at H
     by_cases c55 : x78_44 = true
     ·
      subst c55
      have H1 : ((impl_wideOf.f (-1)).bind fun bt1166 => ((impl_wide_add.f kj44 t1158 t1159 t1160 bt1166.1 bt1166.2.1 bt1166.2.2).bind fun bt1169 => ((impl_wide_fit.f kj44 true bt1169.2.1 bt1169.2.2 a3).bind fun bt1172 => (some (bt1172.1, bt1172.2.1, bt1172.2.2))))) = some (r1, r2, r3) := by rw [if_pos rfl] at H; exact H
      clear H
      have H := H1
      clear H1
      replace H := Option.bind_eq_some_iff.mp H
      obtain ⟨⟨t1166, t1167, t1168⟩, A560, H⟩ := H
      replace H : ((impl_wide_add.f kj44 t1158 t1159 t1160 t1166 t1167 t1168).bind fun bt1169 => ((impl_wide_fit.f kj44 true bt1169.2.1 bt1169.2.2 a3).bind fun bt1172 => (some (bt1172.1, bt1172.2.1, bt1172.2.2)))) = some (r1, r2, r3) := H
      have A56 := Aside0.mk A560
      clear A560
      replace H := Option.bind_eq_some_iff.mp H
      obtain ⟨⟨t1169, t1170, t1171⟩, A570, H⟩ := H
      replace H : ((impl_wide_fit.f kj44 true t1170 t1171 a3).bind fun bt1172 => (some (bt1172.1, bt1172.2.1, bt1172.2.2))) = some (r1, r2, r3) := H
      have A57 := Aside0.mk A570
      clear A570
      replace H := Option.bind_eq_some_iff.mp H
      obtain ⟨⟨t1172, t1173, t1174⟩, A580, H⟩ := H
      replace H : (some (t1172, t1173, t1174)) = some (r1, r2, r3) := H
      have A58 := Aside0.mk A580
      clear A580
      simp only [Option.some.injEq, Prod.mk.injEq] at H
      obtain ⟨rfl, rfl, rfl⟩ := H
      try go_wp2
      replace BK1143 := Aside0.mk (blk_drew BK1143.out); replace BK1150 := Aside0.mk (blk_drew BK1150.out); replace BK1157 := Aside0.mk (blk_drew BK1157.out); replace BK1161 := Aside0.mk (blk_drew BK1161.out); replace HB := Aside0.mk (below_drew1 HB.out)
      refine start_ (n := 4) (S := fun w' => w'.cell? ⟨gb1161, 0, none⟩ = some (.bool t1158) ∧ w'.cell? ⟨gb1161, 1, none⟩ = some (.int .u64 t1159) ∧ w'.cell? ⟨gb1161, 2, none⟩ = some (.int .u64 t1160)) (ds := [3]) #[false, false, false, false] (by kernel_rfl) rfl rfl ⟨zc BK1161 0, zc BK1161 1, zc BK1161 2⟩ (fun hHeld => ?_)
      generalize wc.drew = w59 at BK1143 BK1150 BK1157 BK1161 HB hHeld ⊢
      refine take_ (i := 0) (N := some 79) (v := ?_) (a' := ?_) #[true, false, false, false] rfl rfl (by kernel_rfl) (fun _ _ _ h => h) (Or.inl ⟨by rfl, ?_⟩) hHeld ?_ ?_
      rotate_left
      ·
       rintro w' ⟨s0, s1, s2⟩
       go_simp
       with_reducible rfl
      rotate_left
      ·
       simp only [Act.put, List.setIfInBounds_toArray, List.set_cons_zero, List.set_cons_succ, i64_w, i32_w]
       rfl
      refine one_ (i := 1) (N := some 80) #[true, true, false, false] rfl rfl (by kernel_rfl) (by decide) (fun K hK => ?_)
      refine goes_ Try.func79 (by kernel_rfl) rfl #[.int .i64 (-1)] (by rfl) rfl rfl zq6 ?_
      with_reducible refine (impl_wideOf.calls (-1) t1166 t1167 t1168 _ A56.out).mono ?_
      rintro e w60 ⟨rfl, hb⟩
      refine ⟨_, rfl, ?_⟩
      replace BK1143 := Aside0.mk (zbb BK1143 hb); replace BK1150 := Aside0.mk (zbb BK1150 hb); replace BK1157 := Aside0.mk (zbb BK1157 hb); replace BK1161 := Aside0.mk (zbb BK1161 hb); replace HB := Aside0.mk (below_step (zb1 HB) hb)
      (try clear hb)
      (try clear hb2)
      (try clear hk)
      (try clear hi)
      refine hK.out _ _ ⟨zc BK1161 0, zc BK1161 1, zc BK1161 2⟩ (fun hHeld => ?_)
      clear hK K
      refine norm_ (a' := ?_) ?_ ?_
      rotate_left
      ·
       show Act.put _ (some 80) _ = _
       simp only [Act.put, List.setIfInBounds_toArray, List.set_cons_zero, List.set_cons_succ, i64_w, i32_w]; rfl
      refine one_ (i := 2) (N := some 81) #[true, true, true, false] rfl rfl (by kernel_rfl) (by decide) (fun K hK => ?_)
      refine goes_ Try.func88 (by kernel_rfl) rfl #[.agg #[.bool t1158, .int .u64 t1159, .int .u64 t1160], .agg #[.bool t1166, .int .u64 t1167, .int .u64 t1168]] (by rfl) rfl rfl zq6 ?_
      with_reducible refine (impl_wide_add.calls kj44 t1158 t1159 t1160 t1166 t1167 t1168 t1169 t1170 t1171 _ A57.out).mono ?_
      rintro e w61 ⟨rfl, hb⟩
      refine ⟨_, rfl, ?_⟩
      replace BK1143 := Aside0.mk (zbb BK1143 hb); replace BK1150 := Aside0.mk (zbb BK1150 hb); replace BK1157 := Aside0.mk (zbb BK1157 hb); replace BK1161 := Aside0.mk (zbb BK1161 hb); replace HB := Aside0.mk (below_step (zb1 HB) hb)
      (try clear hb)
      (try clear hb2)
      (try clear hk)
      (try clear hi)
      refine hK.out _ _ ⟨zc BK1161 0, zc BK1161 1, zc BK1161 2⟩ (fun hHeld => ?_)
      clear hK K
      refine norm_ (a' := ?_) ?_ ?_
      rotate_left
      ·
       show Act.put _ (some 81) _ = _
       simp only [Act.put, List.setIfInBounds_toArray, List.set_cons_zero, List.set_cons_succ, i64_w, i32_w]; rfl
      refine last_ (i := 3) (N := none) #[true, true, true, true] rfl rfl (by kernel_rfl) (by decide) (fun K hK => ?_)
      have hs62 : w61.cell? ⟨gb1161, 0, none⟩ = some (.bool t1158) := zc BK1161 0
      have hfs62 := blk_frozen BK1161.out 0
      have hns62_0 := NB1143_1161.out
      have hns62_1 := NB1150_1161.out
      have hns62_2 := NB1157_1161.out
      have hms62_0 := NB1161_1143.out
      have hms62_1 := NB1161_1150.out
      have hms62_2 := NB1161_1157.out
      have hs63 : w61.cell? ⟨gb1161, 1, none⟩ = some (.int .u64 t1159) := zc BK1161 1
      have hfs63 := blk_frozen BK1161.out 1
      have hns63_0 := NB1143_1161.out
      have hns63_1 := NB1150_1161.out
      have hns63_2 := NB1157_1161.out
      have hms63_0 := NB1161_1143.out
      have hms63_1 := NB1161_1150.out
      have hms63_2 := NB1161_1157.out
      have hs64 : w61.cell? ⟨gb1161, 2, none⟩ = some (.int .u64 t1160) := zc BK1161 2
      have hfs64 := blk_frozen BK1161.out 2
      have hns64_0 := NB1143_1161.out
      have hns64_1 := NB1150_1161.out
      have hns64_2 := NB1157_1161.out
      have hms64_0 := NB1161_1143.out
      have hms64_1 := NB1161_1150.out
      have hms64_2 := NB1161_1157.out
      refine skip_ (w1 := ?_) (by rfl) rfl ?_ ?_
      rotate_left
      ·
       go_simp
       rfl
      refine hK.out _ _ ?_
      clear hK K
      refine done_ (by kernel_rfl) ?_
      have hnb65 := NB1161_1143.out
      have hnc65 := NB1143_1161.out
      have hnb66 := NB1161_1150.out
      have hnc66 := NB1150_1161.out
      have hnb67 := NB1161_1157.out
      have hnc67 := NB1157_1161.out
      have hcz68_0 : w61.cell? ⟨gb1161, 0, none⟩ = some (.bool t1158) := zc BK1161 0
      have hcz68_1 : w61.cell? ⟨gb1161, 1, none⟩ = some (.int .u64 t1159) := zc BK1161 1
      have hcz68_2 : w61.cell? ⟨gb1161, 2, none⟩ = some (.int .u64 t1160) := zc BK1161 2
      have hfz68_0 := blk_frozen BK1161.out 0
      have hfz68_1 := blk_frozen BK1161.out 1
      have hfz68_2 := blk_frozen BK1161.out 2
      try go_wp2_with (first | ((with_reducible refine gate_callee (f := 89) rfl ?_); refine goesL_ (some 85) rfl rfl Try.func89 (by kernel_rfl) rfl #[.agg #[.bool true, .int .u64 t1170, .int .u64 t1171], .int .i64 a3] rfl zq6 ?_; (with_reducible refine (impl_wide_fit.calls kj44 true t1170 t1171 a3 t1172 t1173 t1174 _ A58.out).mono ?_); rintro e w69 ⟨rfl, hb⟩; refine ⟨_, rfl, ?_⟩; replace BK1143 := Aside0.mk (blk_below (g := gb1143) (o := .cells #[.int .i64 0, .int .i64 0] 27 (0, 0)) (zq5 BK1143) hb); replace BK1150 := Aside0.mk (blk_below (g := gb1150) (o := .cells #[.bool (!(decide (a0 < 0)) == (decide (a2 < 0))), .int .u64 t1148, .int .u64 t1149] 64 (0, 0)) (zq5 BK1150) hb); replace BK1157 := Aside0.mk (blk_below (g := gb1157) (o := .cells #[.bool (!(decide (a0 < 0)) == (decide (a2 < 0))), .int .u64 t1152, .int .u64 t1155] 64 (0, 0)) (zq5 BK1157) hb); replace BK1161 := Aside0.mk (blk_below (g := gb1161) (o := .cells #[.bool true, .int .u64 t1170, .int .u64 t1171] 64 (0, 0)) (by (with_reducible repeat (first | refine blk_drewN ?_ _ | refine blk_drew ?_ | refine blk_alloc ?_ _)); refine blk_put (cs := #[.bool t1169, .int .u64 t1170, .int .u64 t1171]) ?_ 0 _ rfl; (with_reducible repeat (first | refine blk_drewN ?_ _ | refine blk_drew ?_ | refine blk_alloc ?_ _)); refine blk_put (cs := #[.bool t1169, .int .u64 t1170, .int .u64 t1160]) ?_ 2 _ rfl; (with_reducible repeat (first | refine blk_drewN ?_ _ | refine blk_drew ?_ | refine blk_alloc ?_ _)); refine blk_put (cs := #[.bool t1169, .int .u64 t1159, .int .u64 t1160]) ?_ 1 _ rfl; (with_reducible repeat (first | refine blk_drewN ?_ _ | refine blk_drew ?_ | refine blk_alloc ?_ _)); refine blk_put (cs := #[.bool t1158, .int .u64 t1159, .int .u64 t1160]) ?_ 0 _ rfl; (with_reducible repeat (first | refine blk_drewN ?_ _ | refine blk_drew ?_ | refine blk_alloc ?_ _)); exact BK1161.out) hb); replace HB := Aside0.mk (below_step (zb1 HB) hb); (try clear hb); (try clear hb2); (try clear hk); (try clear hi); have hnb70 := NB1143_1150.out; have hnc70 := NB1150_1143.out; have hnb71 := NB1143_1157.out; have hnc71 := NB1157_1143.out; have hcz72_0 : w69.cell? ⟨gb1143, 0, none⟩ = some (.int .i64 0) := zc BK1143 0; have hcz72_1 : w69.cell? ⟨gb1143, 1, none⟩ = some (.int .i64 0) := zc BK1143 1; have hfz72_0 := blk_frozen BK1143.out 0; have hfz72_1 := blk_frozen BK1143.out 1))
      refine bodyPost_ret (results_ct rfl _ _ gb1143 27 #[.int .i64 t1172, .int .i64 t1173] (0, 0) _ rfl (by (with_reducible repeat (first | refine blk_drewN ?_ _ | refine blk_drew ?_ | refine blk_alloc ?_ _)); refine blk_put (cs := #[.int .i64 t1172, .int .i64 0]) ?_ 1 _ rfl; (with_reducible repeat (first | refine blk_drewN ?_ _ | refine blk_drew ?_ | refine blk_alloc ?_ _)); refine blk_put (cs := #[.int .i64 0, .int .i64 0]) ?_ 0 _ rfl; (with_reducible repeat (first | refine blk_drewN ?_ _ | refine blk_drew ?_ | refine blk_alloc ?_ _)); exact BK1143.out) Try.underlying27 rfl (by kernel_rfl)) rfl ?_
      exact ⟨by first | rfl | (simp [errW_none, errW_some] <;> rfl) | (simp only [← hji6, ← hji12]; first | rfl | (simp [errW_none, errW_some] <;> rfl)) | (simp [*, errW_none, errW_some] <;> rfl), (zb1 HB)⟩
     ·
      replace c55 := Bool.eq_false_iff.mpr c55
      subst c55
      have H1 : ((impl_wide_fit.f kj44 t1158 t1159 t1160 a3).bind fun bt1175 => (some (bt1175.1, bt1175.2.1, bt1175.2.2))) = some (r1, r2, r3) := by rw [if_neg (show ¬ (false = true) by decide)] at H; exact H
      clear H
      have H := H1
      clear H1
      replace H := Option.bind_eq_some_iff.mp H
      obtain ⟨⟨t1175, t1176, t1177⟩, A730, H⟩ := H
      replace H : (some (t1175, t1176, t1177)) = some (r1, r2, r3) := H
      have A73 := Aside0.mk A730
      clear A730
      simp only [Option.some.injEq, Prod.mk.injEq] at H
      obtain ⟨rfl, rfl, rfl⟩ := H
      have hnb74 := NB1161_1143.out
      have hnc74 := NB1143_1161.out
      have hnb75 := NB1161_1150.out
      have hnc75 := NB1150_1161.out
      have hnb76 := NB1161_1157.out
      have hnc76 := NB1157_1161.out
      have hcz77_0 : wc.cell? ⟨gb1161, 0, none⟩ = some (.bool t1158) := zc BK1161 0
      have hcz77_1 : wc.cell? ⟨gb1161, 1, none⟩ = some (.int .u64 t1159) := zc BK1161 1
      have hcz77_2 : wc.cell? ⟨gb1161, 2, none⟩ = some (.int .u64 t1160) := zc BK1161 2
      have hfz77_0 := blk_frozen BK1161.out 0
      have hfz77_1 := blk_frozen BK1161.out 1
      have hfz77_2 := blk_frozen BK1161.out 2
      go_wp2_with (first | ((with_reducible refine gate_callee (f := 89) rfl ?_); refine goesL_ (some 85) rfl rfl Try.func89 (by kernel_rfl) rfl #[.agg #[.bool t1158, .int .u64 t1159, .int .u64 t1160], .int .i64 a3] rfl zq6 ?_; (with_reducible refine (impl_wide_fit.calls kj44 t1158 t1159 t1160 a3 t1175 t1176 t1177 _ A73.out).mono ?_); rintro e w78 ⟨rfl, hb⟩; refine ⟨_, rfl, ?_⟩; replace BK1143 := Aside0.mk (zbb BK1143 hb); replace BK1150 := Aside0.mk (zbb BK1150 hb); replace BK1157 := Aside0.mk (zbb BK1157 hb); replace BK1161 := Aside0.mk (zbb BK1161 hb); replace HB := Aside0.mk (below_step (zb1 HB) hb); (try clear hb); (try clear hb2); (try clear hk); (try clear hi); have hnb79 := NB1143_1150.out; have hnc79 := NB1150_1143.out; have hnb80 := NB1143_1157.out; have hnc80 := NB1157_1143.out; have hcz81_0 : w78.cell? ⟨gb1143, 0, none⟩ = some (.int .i64 0) := zc BK1143 0; have hcz81_1 : w78.cell? ⟨gb1143, 1, none⟩ = some (.int .i64 0) := zc BK1143 1; have hfz81_0 := blk_frozen BK1143.out 0; have hfz81_1 := blk_frozen BK1143.out 1))
      refine bodyPost_ret (results_ct rfl _ _ gb1143 27 #[.int .i64 t1175, .int .i64 t1176] (0, 0) _ rfl (by (with_reducible repeat (first | refine blk_drewN ?_ _ | refine blk_drew ?_ | refine blk_alloc ?_ _)); refine blk_put (cs := #[.int .i64 t1175, .int .i64 0]) ?_ 1 _ rfl; (with_reducible repeat (first | refine blk_drewN ?_ _ | refine blk_drew ?_ | refine blk_alloc ?_ _)); refine blk_put (cs := #[.int .i64 0, .int .i64 0]) ?_ 0 _ rfl; (with_reducible repeat (first | refine blk_drewN ?_ _ | refine blk_drew ?_ | refine blk_alloc ?_ _)); exact BK1143.out) Try.underlying27 rfl (by kernel_rfl)) rfl ?_
      exact ⟨by first | rfl | (simp [errW_none, errW_some] <;> rfl) | (simp only [← hji6, ← hji12]; first | rfl | (simp [errW_none, errW_some] <;> rfl)) | (simp [*, errW_none, errW_some] <;> rfl), (zb1 HB)⟩
end Go.Proofs.Ytinpcalgdiigiaa.PD
