-- Written by a program of this session (wip/mk/drv.py) out of the seat's translation; Lean checks it.
import Derived.Test.YtinpcalgdiigiaaQSubtractIntervalsPDx0
import Derived.Test.YtinpcalgdiigiaaQSubtractIntervalsPDx1
import Derived.Test.YtinpcalgdiigiaaQSubtractIntervalsPDx2
import Derived.Test.YtinpcalgdiigiaaQSubtractIntervalsPDx3
namespace Go.Proofs.Ytinpcalgdiigiaa.PD
open Go.RowKit Go.Proofs.YtinpcalgdiigiaaW.PrintWords Go.Proofs.YtinpcalgdiigiaaW.PrintLast Go.Proofs.YtinpcalgdiigiaaW.PrintMore
attribute [local go_sem] max2_int min2_int max_two min_two max_three min_three max_four min_four   -- for this text's walks alone
set_option linter.unusedVariables false
set_option linter.unusedSimpArgs false
/-! ### spec_ivMinus: function 92 -/
theorem z92_0 {w W0 W1 : World} {B : Nat} (h : Aside0 (Below B w W0)) (f : Below B w W0 → Below B w W1 := by intro h_; repeat (first | (with_reducible first | exact h_ | apply below_alloc | apply pw_below_drewN | apply below_drew1) | exact h_)) : Below B w W1 := f h.out
theorem z92_1 {w W0 W1 : World} {B : Nat} (h : Aside0 (Below B w W0)) (f : Below B w W0 → Below B w W1 := by intro h_; repeat (first | (with_reducible first | exact h_ | apply below_alloc | apply pw_below_drewN | apply below_drew1 | refine below_set ?_ (Aside0.out (by assumption))) | exact h_)) : Below B w W1 := f h.out
def spec_ivMinus.T1 : Bool × List (List Nat × List Nat) := (true, [([], []), ([0], [0]), ([1], [1]), ([], []), ([3], [3]), ([4, 2], [4]), ([2, 5], [2, 5]), ([6, 5, 0, 1, 2, 3, 4, 5, 6], [6])])
def spec_ivMinus.B1 : List Nat := [0, 1, 3, 0, 8, 31, 63, 127]
theorem spec_ivMinus.tab1 : rtab .any (opsOf Try.f92 1) = spec_ivMinus.T1 := by kernel_rfl
theorem spec_ivMinus.bits1 : waitsOk spec_ivMinus.T1.2 spec_ivMinus.B1 = true := by kernel_rfl
set_option maxHeartbeats 8000000 in
set_option maxRecDepth 100000 in
theorem spec_ivMinus.calls (a0_0 : Int) (a0_1 : Int) (a0_2 : Int) (a0_3 : Int) (r1 : Int) (r2 : Int) (r3 : Int) (r4 : Int) (w : World) (h : spec_ivMinus.f a0_0 a0_1 a0_2 a0_3 = some (r1, r2, r3, r4)) :
  Calls Try.prog 92 #[.agg #[.int .i64 a0_0, .int .i64 a0_1, .int .i64 a0_2, .int .i64 a0_3]] w fun e w' => e = .returned (.agg #[.int .i64 r1, .int .i64 r2, .int .i64 r3, .int .i64 r4]) ∧ Below w.heap.size w w' := by
 have hu29 := Try.underlying29
 have hu27 := Try.underlying27
 have HB := Aside0.mk (Below.refl w.heap.size w)
 have H : ((spec_dyMinus.f a0_2 a0_3).bind fun bt701 => ((spec_dyMinus.f a0_0 a0_1).bind fun bt703 => (some (bt701.1, bt701.2, bt703.1, bt703.2)))) = some (r1, r2, r3, r4) := h
 clear h
 replace H := Option.bind_eq_some_iff.mp H
 obtain ⟨⟨t701, t702⟩, A20, H⟩ := H
 replace H : ((spec_dyMinus.f a0_0 a0_1).bind fun bt703 => (some (t701, t702, bt703.1, bt703.2))) = some (r1, r2, r3, r4) := H
 have A2 := Aside0.mk A20
 clear A20
 replace H := Option.bind_eq_some_iff.mp H
 obtain ⟨⟨t703, t704⟩, A30, H⟩ := H
 replace H : (some (t701, t702, t703, t704)) = some (r1, r2, r3, r4) := H
 have A3 := Aside0.mk A30
 clear A30
 simp only [Option.some.injEq, Prod.mk.injEq] at H
 obtain ⟨rfl, rfl, rfl, rfl⟩ := H
 go_enter Try.func92, Try.ntmps92
 try go_wp2_with (first | ((with_reducible refine gate_dst (N := 1) rfl ?_); refine box_event ?hg (N := 1) ?hd (cs := #[.int .i64 a0_0, .int .i64 a0_1, .int .i64 a0_2, .int .i64 a0_3]) (t := 29) ?hr ?_; (case hd => rfl); (case hg => rfl); (case hr => first | (go_simp; done) | (go_simp; rfl)); intro gb699 hg w4 hbox hb; have n0_ := Aside0.mk (below_step (z92_0 HB) hb); have n1_ := Aside0.mk (hbox); have n2_ := Aside0.mk ((by rw [hg]; exact (below_size (z92_0 HB)) : w.heap.size ≤ gb699)); have n3_ := Aside0.mk ((by rw [hg]; exact (below_size (z92_0 HB)) : w.heap.size ≤ gb699)); clear HB; have HB := n0_; have BK699 := n1_; have GW699 := n2_; have GE699 := n3_; clear n0_ n1_ n2_ n3_; clear hb hbox hg) | ((with_reducible refine gate_dst (N := 2) rfl ?_); refine box_event ?hg (N := 2) ?hd (cs := #[.int .i64 0, .int .i64 0, .int .i64 0, .int .i64 0]) (t := 29) ?hr ?_; (case hd => rfl); (case hg => rfl); (case hr => first | (go_simp; done) | (go_simp; rfl)); intro gb700 hg w5 hbox hb; have n0_ := Aside0.mk (zbb BK699 hb); have n1_ := Aside0.mk (below_step (z92_1 HB) hb); have n2_ := Aside0.mk (hbox); have n3_ := Aside0.mk ((by rw [hg]; exact (below_size (z92_1 HB)) : w.heap.size ≤ gb700)); have n4_ := Aside0.mk ((by rw [hg]; exact (below_size (z92_1 HB)) : w.heap.size ≤ gb700)); have n5_ := Aside0.mk (zlt BK699 hg); have n6_ := Aside0.mk (zgt BK699 hg); clear BK699; clear HB; have BK699 := n0_; have HB := n1_; have BK700 := n2_; have GW700 := n3_; have GE700 := n4_; have NB699_700 := n5_; have NB700_699 := n6_; clear n0_ n1_ n2_ n3_ n4_ n5_ n6_; clear hb hbox hg))
 have n0_ := Aside0.mk (blk_drew BK699.out)
 have n1_ := Aside0.mk (blk_drew BK700.out)
 have n2_ := Aside0.mk (below_drew1 HB.out)
 clear BK699 BK700 HB
 have BK699 := n0_; have BK700 := n1_; have HB := n2_
 clear n0_ n1_ n2_
 refine start_ (n := 8) (S := fun w' => w'.cell? ⟨gb699, 0, none⟩ = some (.int .i64 a0_0) ∧ w'.cell? ⟨gb699, 1, none⟩ = some (.int .i64 a0_1) ∧ w'.cell? ⟨gb699, 2, none⟩ = some (.int .i64 a0_2) ∧ w'.cell? ⟨gb699, 3, none⟩ = some (.int .i64 a0_3)) (ds := []) #[false, false, false, false, false, false, false, false] (by kernel_rfl) rfl rfl ⟨zc BK699 0, zc BK699 1, zc BK699 2, zc BK699 3⟩ (fun hHeld => ?_); refine with_tabW spec_ivMinus.tab1 spec_ivMinus.bits1 (fun HT_ HW_ => ?_)
 generalize w5.drew = w6 at BK699 BK700 HB hHeld ⊢
 refine pure_ (i := 0) (N := some 3) (v := ?_) (a' := ?_) #[true, false, false, false, false, false, false, false] rfl rfl (any_of HT_.out (by kernel_rfl)) (fun _ _ _ h => h) (Or.inl ⟨by rfl, ?_⟩) ?_ ?_
 rotate_left
 ·
  intro w'
  go_simp
  with_reducible rfl
 rotate_left
 ·
  simp only [Act.put, List.setIfInBounds_toArray, List.set_cons_zero, List.set_cons_succ, i64_w, i32_w]
  rfl
 refine pure_ (i := 3) (N := some 6) (v := ?_) (a' := ?_) #[true, false, false, true, false, false, false, false] rfl rfl (any_of HT_.out (by kernel_rfl)) (fun _ _ _ h => h) (Or.inl ⟨by rfl, ?_⟩) ?_ ?_
 rotate_left
 ·
  intro w'
  go_simp
  with_reducible rfl
 rotate_left
 ·
  simp only [Act.put, List.setIfInBounds_toArray, List.set_cons_zero, List.set_cons_succ, i64_w, i32_w]
  rfl
 refine take_ (i := 1) (N := some 4) (v := ?_) (a' := ?_) #[true, true, false, true, false, false, false, false] rfl rfl (take_ofW HT_.out HW_.out (by kernel_rfl)) (fun _ _ _ h => h) (Or.inl ⟨by rfl, ?_⟩) hHeld ?_ ?_
 rotate_left
 ·
  rintro w' ⟨s0, s1, s2, s3⟩
  go_simp
  with_reducible rfl
 rotate_left
 ·
  simp only [Act.put, List.setIfInBounds_toArray, List.set_cons_zero, List.set_cons_succ, i64_w, i32_w]
  rfl
 refine take_ (i := 4) (N := some 7) (v := ?_) (a' := ?_) #[true, true, false, true, true, false, false, false] rfl rfl (take_ofW HT_.out HW_.out (by kernel_rfl)) (fun _ _ _ h => h) (Or.inl ⟨by rfl, ?_⟩) hHeld ?_ ?_
 rotate_left
 ·
  rintro w' ⟨s0, s1, s2, s3⟩
  go_simp
  with_reducible rfl
 rotate_left
 ·
  simp only [Act.put, List.setIfInBounds_toArray, List.set_cons_zero, List.set_cons_succ, i64_w, i32_w]
  rfl
 refine one_ (i := 2) (N := some 5) #[true, true, true, true, true, false, false, false] rfl rfl (one_of HT_.out (by kernel_rfl)) (by decide) (fun K hK => ?_)
 refine goes_ Try.func87 (by kernel_rfl) rfl #[.agg #[.int .i64 a0_2, .int .i64 a0_3]] (by rfl) rfl rfl (by (try simp only [List.map_toArray, List.map_cons, List.map_nil]); first | done | rfl | (simp only [List.length_drop, List.length_take]; rfl)) ?_
 with_reducible refine (spec_dyMinus.calls a0_2 a0_3 t701 t702 _ A2.out).mono ?_
 rintro e w7 ⟨rfl, hb⟩
 refine ⟨_, rfl, ?_⟩
 have n0_ := Aside0.mk (zbb BK699 hb)
 have n1_ := Aside0.mk (zbb BK700 hb)
 have n2_ := Aside0.mk (below_step (z92_1 HB) hb)
 clear BK699 BK700 HB
 have BK699 := n0_; have BK700 := n1_; have HB := n2_
 clear n0_ n1_ n2_
 (try clear hb)
 (try clear hb2)
 (try clear hk)
 (try clear hi)
 refine hK.out _ _ ⟨zc BK699 0, zc BK699 1, zc BK699 2, zc BK699 3⟩ (fun hHeld => ?_)
 clear hK K
 refine norm_ (a' := ?_) ?_ ?_
 rotate_left
 ·
  show Act.put _ (some 5) _ = _
  simp only [Act.put, List.setIfInBounds_toArray, List.set_cons_zero, List.set_cons_succ, i64_w, i32_w]; rfl
 refine one_ (i := 5) (N := some 8) #[true, true, true, true, true, true, false, false] rfl rfl (one_of HT_.out (by kernel_rfl)) (by decide) (fun K hK => ?_)
 refine goes_ Try.func87 (by kernel_rfl) rfl #[.agg #[.int .i64 a0_0, .int .i64 a0_1]] (by rfl) rfl rfl (by (try simp only [List.map_toArray, List.map_cons, List.map_nil]); first | done | rfl | (simp only [List.length_drop, List.length_take]; rfl)) ?_
 with_reducible refine (spec_dyMinus.calls a0_0 a0_1 t703 t704 _ A3.out).mono ?_
 rintro e w8 ⟨rfl, hb⟩
 refine ⟨_, rfl, ?_⟩
 have n0_ := Aside0.mk (zbb BK699 hb)
 have n1_ := Aside0.mk (zbb BK700 hb)
 have n2_ := Aside0.mk (below_step (z92_1 HB) hb)
 clear BK699 BK700 HB
 have BK699 := n0_; have BK700 := n1_; have HB := n2_
 clear n0_ n1_ n2_
 (try clear hb)
 (try clear hb2)
 (try clear hk)
 (try clear hi)
 refine hK.out _ _ ⟨zc BK699 0, zc BK699 1, zc BK699 2, zc BK699 3⟩ (fun hHeld => ?_)
 clear hK K
 refine norm_ (a' := ?_) ?_ ?_
 rotate_left
 ·
  show Act.put _ (some 8) _ = _
  simp only [Act.put, List.setIfInBounds_toArray, List.set_cons_zero, List.set_cons_succ, i64_w, i32_w]; rfl
 refine pure_ (i := 6) (N := some 9) (v := ?_) (a' := ?_) #[true, true, true, true, true, true, true, false] rfl rfl (any_of HT_.out (by kernel_rfl)) (fun _ _ _ h => h) (Or.inl ⟨by rfl, ?_⟩) ?_ ?_
 rotate_left
 ·
  intro w'
  go_simp
  with_reducible rfl
 rotate_left
 ·
  simp only [Act.put, List.setIfInBounds_toArray, List.set_cons_zero, List.set_cons_succ, i64_w, i32_w]
  rfl
 refine one_ (i := 7) (N := none) #[true, true, true, true, true, true, true, true] rfl rfl (one_of HT_.out (by kernel_rfl)) (by decide) (fun K hK => ?_)
 have hs9 : w8.cell? ⟨gb700, 0, none⟩ = some (.int .i64 0) := zc BK700 0
 have hfs9 := blk_frozen BK700.out 0
 have hns9_0 := NB699_700.out
 have hms9_0 := NB700_699.out
 have hs10 : w8.cell? ⟨gb700, 1, none⟩ = some (.int .i64 0) := zc BK700 1
 have hfs10 := blk_frozen BK700.out 1
 have hns10_0 := NB699_700.out
 have hms10_0 := NB700_699.out
 have hs11 : w8.cell? ⟨gb700, 2, none⟩ = some (.int .i64 0) := zc BK700 2
 have hfs11 := blk_frozen BK700.out 2
 have hns11_0 := NB699_700.out
 have hms11_0 := NB700_699.out
 have hs12 : w8.cell? ⟨gb700, 3, none⟩ = some (.int .i64 0) := zc BK700 3
 have hfs12 := blk_frozen BK700.out 3
 have hns12_0 := NB699_700.out
 have hms12_0 := NB700_699.out
 refine skip_ (w1 := ?_) (by rfl) rfl ?_ ?_
 rotate_left
 ·
  go_simp
  rfl
 refine hK.out _ _ ⟨((cell_far (p := ⟨gb700, _, none⟩) NB699_700.out _).trans (((cell_far (p := ⟨gb700, _, none⟩) NB699_700.out _).trans (((cell_far (p := ⟨gb700, _, none⟩) NB699_700.out _).trans (((cell_far (p := ⟨gb700, _, none⟩) NB699_700.out _).trans (hHeld.1)))))))), ((cell_far (p := ⟨gb700, _, none⟩) NB699_700.out _).trans (((cell_far (p := ⟨gb700, _, none⟩) NB699_700.out _).trans (((cell_far (p := ⟨gb700, _, none⟩) NB699_700.out _).trans (((cell_far (p := ⟨gb700, _, none⟩) NB699_700.out _).trans (hHeld.2.1)))))))), ((cell_far (p := ⟨gb700, _, none⟩) NB699_700.out _).trans (((cell_far (p := ⟨gb700, _, none⟩) NB699_700.out _).trans (((cell_far (p := ⟨gb700, _, none⟩) NB699_700.out _).trans (((cell_far (p := ⟨gb700, _, none⟩) NB699_700.out _).trans (hHeld.2.2.1)))))))), ((cell_far (p := ⟨gb700, _, none⟩) NB699_700.out _).trans (((cell_far (p := ⟨gb700, _, none⟩) NB699_700.out _).trans (((cell_far (p := ⟨gb700, _, none⟩) NB699_700.out _).trans (((cell_far (p := ⟨gb700, _, none⟩) NB699_700.out _).trans (hHeld.2.2.2))))))))⟩ (fun hHeld => ?_)
 clear hK K
 refine done_ (done_of HT_.out (by kernel_rfl)) ?_
 try go_wp2
 refine bodyPost_ret (results_cell_row rfl _ _ gb700 29 #[.int .i64 t701, .int .i64 t702, .int .i64 t703, .int .i64 t704] (0, 0) _ rfl (by (with_reducible repeat (first | refine blk_drewN ?_ _ | refine blk_drew ?_ | refine blk_alloc ?_ _)); refine blk_put (cs := #[.int .i64 t701, .int .i64 t702, .int .i64 t703, .int .i64 0]) ?_ 3 _ rfl; (with_reducible repeat (first | refine blk_drewN ?_ _ | refine blk_drew ?_ | refine blk_alloc ?_ _)); refine blk_put (cs := #[.int .i64 t701, .int .i64 t702, .int .i64 0, .int .i64 0]) ?_ 2 _ rfl; (with_reducible repeat (first | refine blk_drewN ?_ _ | refine blk_drew ?_ | refine blk_alloc ?_ _)); refine blk_put (cs := #[.int .i64 t701, .int .i64 0, .int .i64 0, .int .i64 0]) ?_ 1 _ rfl; (with_reducible repeat (first | refine blk_drewN ?_ _ | refine blk_drew ?_ | refine blk_alloc ?_ _)); refine blk_put (cs := #[.int .i64 0, .int .i64 0, .int .i64 0, .int .i64 0]) ?_ 0 _ rfl; (with_reducible repeat (first | refine blk_drewN ?_ _ | refine blk_drew ?_ | refine blk_alloc ?_ _)); exact BK700.out) Try.underlying29 rfl (by kernel_rfl)) rfl ?_
 exact ⟨by first | rfl | (simp [errW_none, errW_some] <;> rfl) | (simp [*, errW_none, errW_some] <;> rfl), (z92_1 HB)⟩
/-! ### spec_l1Abs: function 113 -/
/-! ### bits_Mul64: function 122 -/
/-! ### impl_timesWide: function 119 -/
/-! ### spec_dyInt: function 96 -/
/-! ### impl_single: function 97 -/
/-! ### impl_integer: function 98 -/
end Go.Proofs.Ytinpcalgdiigiaa.PD
