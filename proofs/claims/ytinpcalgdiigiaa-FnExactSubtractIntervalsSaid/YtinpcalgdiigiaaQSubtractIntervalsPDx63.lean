-- Written by a program of this session (wip/mk/drv.py) out of the seat's translation; Lean checks it.
import Derived.Test.YtinpcalgdiigiaaQSubtractIntervalsPDx0
import Derived.Test.YtinpcalgdiigiaaQSubtractIntervalsPDx1
import Derived.Test.YtinpcalgdiigiaaQSubtractIntervalsPDx4
import Derived.Test.YtinpcalgdiigiaaQSubtractIntervalsPDx55
namespace Go.Proofs.Ytinpcalgdiigiaa.PD
open Go.RowKit Go.Proofs.YtinpcalgdiigiaaW.PrintWords Go.Proofs.YtinpcalgdiigiaaW.PrintLast Go.Proofs.YtinpcalgdiigiaaW.PrintMore
attribute [local go_sem] max2_int min2_int max_two min_two max_three min_three max_four min_four   -- for this text's walks alone
set_option linter.unusedVariables false
set_option linter.unusedSimpArgs false
/-! ### spec_ivSub: function 65 -/
theorem z65_0 {w W0 W1 : World} {B : Nat} (h : Aside0 (Below B w W0)) (f : Below B w W0 → Below B w W1 := by intro h_; repeat (first | (with_reducible first | exact h_ | apply below_alloc | apply pw_below_drewN | apply below_drew1) | exact h_)) : Below B w W1 := f h.out
theorem z65_1 {w W0 W1 : World} {B : Nat} (h : Aside0 (Below B w W0)) (f : Below B w W0 → Below B w W1 := by intro h_; repeat (first | (with_reducible first | exact h_ | apply below_alloc | apply pw_below_drewN | apply below_drew1 | refine below_set ?_ (Aside0.out (by assumption))) | exact h_)) : Below B w W1 := f h.out
def spec_ivSub.T1 : Bool × List (List Nat × List Nat) := (true, [([], []), ([], []), ([1], [1]), ([0, 2, 2], [0, 2]), ([3], [3]), ([3], [3]), ([4, 3, 0, 1, 2, 3, 4, 5], [4]), ([5, 6, 0, 1, 2, 3, 4, 5, 6], [5])])
def spec_ivSub.B1 : List Nat := [0, 0, 2, 7, 15, 15, 63, 127]
theorem spec_ivSub.tab1 : rtab .any (opsOf Try.f65 1) = spec_ivSub.T1 := by kernel_rfl
theorem spec_ivSub.bits1 : waitsOk spec_ivSub.T1.2 spec_ivSub.B1 = true := by kernel_rfl
set_option maxHeartbeats 8000000 in
set_option maxRecDepth 100000 in
theorem spec_ivSub.calls (k : Nat) (a0_0 : Int) (a0_1 : Int) (a0_2 : Int) (a0_3 : Int) (a1_0 : Int) (a1_1 : Int) (a1_2 : Int) (a1_3 : Int) (r1 : Int) (r2 : Int) (r3 : Int) (r4 : Int) (r5 : Bool) (w : World) (h : spec_ivSub.f k a0_0 a0_1 a0_2 a0_3 a1_0 a1_1 a1_2 a1_3 = some (r1, r2, r3, r4, r5)) :
  Calls Try.prog 65 #[.agg #[.int .i64 a0_0, .int .i64 a0_1, .int .i64 a0_2, .int .i64 a0_3], .agg #[.int .i64 a1_0, .int .i64 a1_1, .int .i64 a1_2, .int .i64 a1_3]] w fun e w' => e = .returned (.tuple #[.agg #[.int .i64 r1, .int .i64 r2, .int .i64 r3, .int .i64 r4], .bool r5]) ∧ Below w.heap.size w w' := by
 have hu29 := Try.underlying29
 have HB := Aside0.mk (Below.refl w.heap.size w)
 have H : ((spec_ivMinus.f a1_0 a1_1 a1_2 a1_3).bind fun bt708 => ((spec_ivAdd.f k a0_0 a0_1 a0_2 a0_3 bt708.1 bt708.2.1 bt708.2.2.1 bt708.2.2.2).bind fun bt712 => (some (bt712.1, bt712.2.1, bt712.2.2.1, bt712.2.2.2.1, bt712.2.2.2.2)))) = some (r1, r2, r3, r4, r5) := h
 clear h
 replace H := Option.bind_eq_some_iff.mp H
 obtain ⟨⟨t708, t709, t710, t711⟩, A30, H⟩ := H
 replace H : ((spec_ivAdd.f k a0_0 a0_1 a0_2 a0_3 t708 t709 t710 t711).bind fun bt712 => (some (bt712.1, bt712.2.1, bt712.2.2.1, bt712.2.2.2.1, bt712.2.2.2.2))) = some (r1, r2, r3, r4, r5) := H
 have A3 := Aside0.mk A30
 clear A30
 replace H := Option.bind_eq_some_iff.mp H
 obtain ⟨⟨t712, t713, t714, t715, t716⟩, A40, H⟩ := H
 replace H : (some (t712, t713, t714, t715, t716)) = some (r1, r2, r3, r4, r5) := H
 have A4 := Aside0.mk A40
 clear A40
 simp only [Option.some.injEq, Prod.mk.injEq] at H
 obtain ⟨rfl, rfl, rfl, rfl, rfl⟩ := H
 go_enter Try.func65, Try.ntmps65
 try go_wp2_with (first | ((with_reducible refine gate_dst (N := 2) rfl ?_); refine box_event ?hg (N := 2) ?hd (cs := #[.int .i64 a0_0, .int .i64 a0_1, .int .i64 a0_2, .int .i64 a0_3]) (t := 29) ?hr ?_; (case hd => rfl); (case hg => rfl); (case hr => first | (go_simp; done) | (go_simp; rfl)); intro gb705 hg w5 hbox hb; have n0_ := Aside0.mk (below_step (z65_0 HB) hb); have n1_ := Aside0.mk (hbox); have n2_ := Aside0.mk ((by rw [hg]; exact (below_size (z65_0 HB)) : w.heap.size ≤ gb705)); have n3_ := Aside0.mk ((by rw [hg]; exact (below_size (z65_0 HB)) : w.heap.size ≤ gb705)); clear HB; have HB := n0_; have BK705 := n1_; have GW705 := n2_; have GE705 := n3_; clear n0_ n1_ n2_ n3_; clear hb hbox hg) | ((with_reducible refine gate_dst (N := 3) rfl ?_); refine box_event ?hg (N := 3) ?hd (cs := #[.int .i64 a1_0, .int .i64 a1_1, .int .i64 a1_2, .int .i64 a1_3]) (t := 29) ?hr ?_; (case hd => rfl); (case hg => rfl); (case hr => first | (go_simp; done) | (go_simp; rfl)); intro gb706 hg w6 hbox hb; have n0_ := Aside0.mk (zbb BK705 hb); have n1_ := Aside0.mk (below_step (z65_1 HB) hb); have n2_ := Aside0.mk (hbox); have n3_ := Aside0.mk ((by rw [hg]; exact (below_size (z65_1 HB)) : w.heap.size ≤ gb706)); have n4_ := Aside0.mk ((by rw [hg]; exact (below_size (z65_1 HB)) : w.heap.size ≤ gb706)); have n5_ := Aside0.mk (zlt BK705 hg); have n6_ := Aside0.mk (zgt BK705 hg); clear BK705; clear HB; have BK705 := n0_; have HB := n1_; have BK706 := n2_; have GW706 := n3_; have GE706 := n4_; have NB705_706 := n5_; have NB706_705 := n6_; clear n0_ n1_ n2_ n3_ n4_ n5_ n6_; clear hb hbox hg) | ((with_reducible refine gate_dst (N := 4) rfl ?_); refine box_event ?hg (N := 4) ?hd (cs := #[.int .i64 0, .int .i64 0, .int .i64 0, .int .i64 0]) (t := 29) ?hr ?_; (case hd => rfl); (case hg => rfl); (case hr => first | (go_simp; done) | (go_simp; rfl)); intro gb707 hg w7 hbox hb; have n0_ := Aside0.mk (zbb BK705 hb); have n1_ := Aside0.mk (zbb BK706 hb); have n2_ := Aside0.mk (below_step (z65_1 HB) hb); have n3_ := Aside0.mk (hbox); have n4_ := Aside0.mk ((by rw [hg]; exact (below_size (z65_1 HB)) : w.heap.size ≤ gb707)); have n5_ := Aside0.mk ((by rw [hg]; exact (below_size (z65_1 HB)) : w.heap.size ≤ gb707)); have n6_ := Aside0.mk (zlt BK705 hg); have n7_ := Aside0.mk (zgt BK705 hg); have n8_ := Aside0.mk (zlt BK706 hg); have n9_ := Aside0.mk (zgt BK706 hg); clear BK705; clear BK706; clear HB; have BK705 := n0_; have BK706 := n1_; have HB := n2_; have BK707 := n3_; have GW707 := n4_; have GE707 := n5_; have NB705_707 := n6_; have NB707_705 := n7_; have NB706_707 := n8_; have NB707_706 := n9_; clear n0_ n1_ n2_ n3_ n4_ n5_ n6_ n7_ n8_ n9_; clear hb hbox hg))
 have n0_ := Aside0.mk (blk_drew BK705.out)
 have n1_ := Aside0.mk (blk_drew BK706.out)
 have n2_ := Aside0.mk (blk_drew BK707.out)
 have n3_ := Aside0.mk (below_drew1 HB.out)
 clear BK705 BK706 BK707 HB
 have BK705 := n0_; have BK706 := n1_; have BK707 := n2_; have HB := n3_
 clear n0_ n1_ n2_ n3_
 refine start_ (n := 8) (S := fun w' => w'.cell? ⟨gb705, 0, none⟩ = some (.int .i64 a0_0) ∧ w'.cell? ⟨gb705, 1, none⟩ = some (.int .i64 a0_1) ∧ w'.cell? ⟨gb705, 2, none⟩ = some (.int .i64 a0_2) ∧ w'.cell? ⟨gb705, 3, none⟩ = some (.int .i64 a0_3) ∧ w'.cell? ⟨gb706, 0, none⟩ = some (.int .i64 a1_0) ∧ w'.cell? ⟨gb706, 1, none⟩ = some (.int .i64 a1_1) ∧ w'.cell? ⟨gb706, 2, none⟩ = some (.int .i64 a1_2) ∧ w'.cell? ⟨gb706, 3, none⟩ = some (.int .i64 a1_3)) (ds := []) #[false, false, false, false, false, false, false, false] (by kernel_rfl) rfl rfl ⟨zc BK705 0, zc BK705 1, zc BK705 2, zc BK705 3, zc BK706 0, zc BK706 1, zc BK706 2, zc BK706 3⟩ (fun hHeld => ?_); refine with_tabW spec_ivSub.tab1 spec_ivSub.bits1 (fun HT_ HW_ => ?_)
 generalize w7.drew = w8 at BK705 BK706 BK707 HB hHeld ⊢
 refine take_ (i := 0) (N := some 6) (v := ?_) (a' := ?_) #[true, false, false, false, false, false, false, false] rfl rfl (take_ofW HT_.out HW_.out (by kernel_rfl)) (fun _ _ _ h => h) (Or.inl ⟨by rfl, ?_⟩) hHeld ?_ ?_
 rotate_left
 ·
  rintro w' ⟨s0, s1, s2, s3, s4, s5, s6, s7⟩
  go_simp
  with_reducible rfl
 rotate_left
 ·
  simp only [Act.put, List.setIfInBounds_toArray, List.set_cons_zero, List.set_cons_succ, i64_w, i32_w]
  rfl
 refine take_ (i := 1) (N := some 7) (v := ?_) (a' := ?_) #[true, true, false, false, false, false, false, false] rfl rfl (take_ofW HT_.out HW_.out (by kernel_rfl)) (fun _ _ _ h => h) (Or.inl ⟨by rfl, ?_⟩) hHeld ?_ ?_
 rotate_left
 ·
  rintro w' ⟨s0, s1, s2, s3, s4, s5, s6, s7⟩
  go_simp
  with_reducible rfl
 rotate_left
 ·
  simp only [Act.put, List.setIfInBounds_toArray, List.set_cons_zero, List.set_cons_succ, i64_w, i32_w]
  rfl
 refine one_ (i := 2) (N := some 8) #[true, true, true, false, false, false, false, false] rfl rfl (one_of HT_.out (by kernel_rfl)) (by decide) (fun K hK => ?_)
 refine goes_ Try.func92 (by kernel_rfl) rfl #[.agg #[.int .i64 a1_0, .int .i64 a1_1, .int .i64 a1_2, .int .i64 a1_3]] (by rfl) rfl rfl (by (try simp only [List.map_toArray, List.map_cons, List.map_nil]); first | done | rfl | (simp only [List.length_drop, List.length_take]; rfl)) ?_
 with_reducible refine (spec_ivMinus.calls a1_0 a1_1 a1_2 a1_3 t708 t709 t710 t711 _ A3.out).mono ?_
 rintro e w9 ⟨rfl, hb⟩
 refine ⟨_, rfl, ?_⟩
 have n0_ := Aside0.mk (zbb BK705 hb)
 have n1_ := Aside0.mk (zbb BK706 hb)
 have n2_ := Aside0.mk (zbb BK707 hb)
 have n3_ := Aside0.mk (below_step (z65_1 HB) hb)
 clear BK705 BK706 BK707 HB
 have BK705 := n0_; have BK706 := n1_; have BK707 := n2_; have HB := n3_
 clear n0_ n1_ n2_ n3_
 (try clear hb)
 (try clear hb2)
 (try clear hk)
 (try clear hi)
 refine hK.out _ _ ⟨zc BK705 0, zc BK705 1, zc BK705 2, zc BK705 3, zc BK706 0, zc BK706 1, zc BK706 2, zc BK706 3⟩ (fun hHeld => ?_)
 clear hK K
 refine norm_ (a' := ?_) ?_ ?_
 rotate_left
 ·
  show Act.put _ (some 8) _ = _
  simp only [Act.put, List.setIfInBounds_toArray, List.set_cons_zero, List.set_cons_succ, i64_w, i32_w]; rfl
 refine one_ (i := 3) (N := some 9) #[true, true, true, true, false, false, false, false] rfl rfl (one_of HT_.out (by kernel_rfl)) (by decide) (fun K hK => ?_)
 refine goes_ Try.func62 (by kernel_rfl) rfl #[.agg #[.int .i64 a0_0, .int .i64 a0_1, .int .i64 a0_2, .int .i64 a0_3], .agg #[.int .i64 t708, .int .i64 t709, .int .i64 t710, .int .i64 t711]] (by rfl) rfl rfl (by (try simp only [List.map_toArray, List.map_cons, List.map_nil]); first | done | rfl | (simp only [List.length_drop, List.length_take]; rfl)) ?_
 with_reducible refine (spec_ivAdd.calls k a0_0 a0_1 a0_2 a0_3 t708 t709 t710 t711 t712 t713 t714 t715 t716 _ A4.out).mono ?_
 rintro e w10 ⟨rfl, hb⟩
 refine ⟨_, rfl, ?_⟩
 have n0_ := Aside0.mk (zbb BK705 hb)
 have n1_ := Aside0.mk (zbb BK706 hb)
 have n2_ := Aside0.mk (zbb BK707 hb)
 have n3_ := Aside0.mk (below_step (z65_1 HB) hb)
 clear BK705 BK706 BK707 HB
 have BK705 := n0_; have BK706 := n1_; have BK707 := n2_; have HB := n3_
 clear n0_ n1_ n2_ n3_
 (try clear hb)
 (try clear hb2)
 (try clear hk)
 (try clear hi)
 refine hK.out _ _ ⟨zc BK705 0, zc BK705 1, zc BK705 2, zc BK705 3, zc BK706 0, zc BK706 1, zc BK706 2, zc BK706 3⟩ (fun hHeld => ?_)
 clear hK K
 refine norm_ (a' := ?_) ?_ ?_
 rotate_left
 ·
  show Act.put _ (some 9) _ = _
  simp only [Act.put, List.setIfInBounds_toArray, List.set_cons_zero, List.set_cons_succ, i64_w, i32_w]; rfl
 refine pure_ (i := 4) (N := some 10) (v := ?_) (a' := ?_) #[true, true, true, true, true, false, false, false] rfl rfl (any_of HT_.out (by kernel_rfl)) (fun _ _ _ h => h) (Or.inl ⟨by rfl, ?_⟩) ?_ ?_
 rotate_left
 ·
  intro w'
  go_simp
  with_reducible rfl
 rotate_left
 ·
  simp only [Act.put, List.setIfInBounds_toArray, List.set_cons_zero, List.set_cons_succ, i64_w, i32_w]
  rfl
 refine pure_ (i := 5) (N := some 11) (v := ?_) (a' := ?_) #[true, true, true, true, true, true, false, false] rfl rfl (any_of HT_.out (by kernel_rfl)) (fun _ _ _ h => h) (Or.inl ⟨by rfl, ?_⟩) ?_ ?_
 rotate_left
 ·
  intro w'
  go_simp
  with_reducible rfl
 rotate_left
 ·
  simp only [Act.put, List.setIfInBounds_toArray, List.set_cons_zero, List.set_cons_succ, i64_w, i32_w]
  rfl
 refine one_ (i := 6) (N := none) #[true, true, true, true, true, true, true, false] rfl rfl (one_of HT_.out (by kernel_rfl)) (by decide) (fun K hK => ?_)
 have hs11 : w10.cell? ⟨gb707, 0, none⟩ = some (.int .i64 0) := zc BK707 0
 have hfs11 := blk_frozen BK707.out 0
 have hns11_0 := NB705_707.out
 have hns11_1 := NB706_707.out
 have hms11_0 := NB707_705.out
 have hms11_1 := NB707_706.out
 have hs12 : w10.cell? ⟨gb707, 1, none⟩ = some (.int .i64 0) := zc BK707 1
 have hfs12 := blk_frozen BK707.out 1
 have hns12_0 := NB705_707.out
 have hns12_1 := NB706_707.out
 have hms12_0 := NB707_705.out
 have hms12_1 := NB707_706.out
 have hs13 : w10.cell? ⟨gb707, 2, none⟩ = some (.int .i64 0) := zc BK707 2
 have hfs13 := blk_frozen BK707.out 2
 have hns13_0 := NB705_707.out
 have hns13_1 := NB706_707.out
 have hms13_0 := NB707_705.out
 have hms13_1 := NB707_706.out
 have hs14 : w10.cell? ⟨gb707, 3, none⟩ = some (.int .i64 0) := zc BK707 3
 have hfs14 := blk_frozen BK707.out 3
 have hns14_0 := NB705_707.out
 have hns14_1 := NB706_707.out
 have hms14_0 := NB707_705.out
 have hms14_1 := NB707_706.out
 refine skip_ (w1 := ?_) (by rfl) rfl ?_ ?_
 rotate_left
 ·
  go_simp
  rfl
 refine hK.out _ _ ⟨((cell_far (p := ⟨gb707, _, none⟩) NB705_707.out _).trans (((cell_far (p := ⟨gb707, _, none⟩) NB705_707.out _).trans (((cell_far (p := ⟨gb707, _, none⟩) NB705_707.out _).trans (((cell_far (p := ⟨gb707, _, none⟩) NB705_707.out _).trans (hHeld.1)))))))), ((cell_far (p := ⟨gb707, _, none⟩) NB705_707.out _).trans (((cell_far (p := ⟨gb707, _, none⟩) NB705_707.out _).trans (((cell_far (p := ⟨gb707, _, none⟩) NB705_707.out _).trans (((cell_far (p := ⟨gb707, _, none⟩) NB705_707.out _).trans (hHeld.2.1)))))))), ((cell_far (p := ⟨gb707, _, none⟩) NB705_707.out _).trans (((cell_far (p := ⟨gb707, _, none⟩) NB705_707.out _).trans (((cell_far (p := ⟨gb707, _, none⟩) NB705_707.out _).trans (((cell_far (p := ⟨gb707, _, none⟩) NB705_707.out _).trans (hHeld.2.2.1)))))))), ((cell_far (p := ⟨gb707, _, none⟩) NB705_707.out _).trans (((cell_far (p := ⟨gb707, _, none⟩) NB705_707.out _).trans (((cell_far (p := ⟨gb707, _, none⟩) NB705_707.out _).trans (((cell_far (p := ⟨gb707, _, none⟩) NB705_707.out _).trans (hHeld.2.2.2.1)))))))), ((cell_far (p := ⟨gb707, _, none⟩) NB706_707.out _).trans (((cell_far (p := ⟨gb707, _, none⟩) NB706_707.out _).trans (((cell_far (p := ⟨gb707, _, none⟩) NB706_707.out _).trans (((cell_far (p := ⟨gb707, _, none⟩) NB706_707.out _).trans (hHeld.2.2.2.2.1)))))))), ((cell_far (p := ⟨gb707, _, none⟩) NB706_707.out _).trans (((cell_far (p := ⟨gb707, _, none⟩) NB706_707.out _).trans (((cell_far (p := ⟨gb707, _, none⟩) NB706_707.out _).trans (((cell_far (p := ⟨gb707, _, none⟩) NB706_707.out _).trans (hHeld.2.2.2.2.2.1)))))))), ((cell_far (p := ⟨gb707, _, none⟩) NB706_707.out _).trans (((cell_far (p := ⟨gb707, _, none⟩) NB706_707.out _).trans (((cell_far (p := ⟨gb707, _, none⟩) NB706_707.out _).trans (((cell_far (p := ⟨gb707, _, none⟩) NB706_707.out _).trans (hHeld.2.2.2.2.2.2.1)))))))), ((cell_far (p := ⟨gb707, _, none⟩) NB706_707.out _).trans (((cell_far (p := ⟨gb707, _, none⟩) NB706_707.out _).trans (((cell_far (p := ⟨gb707, _, none⟩) NB706_707.out _).trans (((cell_far (p := ⟨gb707, _, none⟩) NB706_707.out _).trans (hHeld.2.2.2.2.2.2.2))))))))⟩ (fun hHeld => ?_)
 clear hK K
 refine pure_ (i := 7) (N := some 5) (v := ?_) (a' := ?_) #[true, true, true, true, true, true, true, true] rfl rfl (any_of HT_.out (by kernel_rfl)) (fun _ _ _ h => h) (Or.inl ⟨by rfl, ?_⟩) ?_ ?_
 rotate_left
 ·
  intro w'
  go_simp
  with_reducible rfl
 rotate_left
 ·
  simp only [Act.put, List.setIfInBounds_toArray, List.set_cons_zero, List.set_cons_succ, i64_w, i32_w]
  rfl
 refine done_ (done_of HT_.out (by kernel_rfl)) ?_
 try go_wp2
 refine bodyPost_ret (results_ct rfl _ _ gb707 29 #[.int .i64 t712, .int .i64 t713, .int .i64 t714, .int .i64 t715] (0, 0) _ rfl (by (with_reducible repeat (first | refine blk_drewN ?_ _ | refine blk_drew ?_ | refine blk_alloc ?_ _)); refine blk_put (cs := #[.int .i64 t712, .int .i64 t713, .int .i64 t714, .int .i64 0]) ?_ 3 _ rfl; (with_reducible repeat (first | refine blk_drewN ?_ _ | refine blk_drew ?_ | refine blk_alloc ?_ _)); refine blk_put (cs := #[.int .i64 t712, .int .i64 t713, .int .i64 0, .int .i64 0]) ?_ 2 _ rfl; (with_reducible repeat (first | refine blk_drewN ?_ _ | refine blk_drew ?_ | refine blk_alloc ?_ _)); refine blk_put (cs := #[.int .i64 t712, .int .i64 0, .int .i64 0, .int .i64 0]) ?_ 1 _ rfl; (with_reducible repeat (first | refine blk_drewN ?_ _ | refine blk_drew ?_ | refine blk_alloc ?_ _)); refine blk_put (cs := #[.int .i64 0, .int .i64 0, .int .i64 0, .int .i64 0]) ?_ 0 _ rfl; (with_reducible repeat (first | refine blk_drewN ?_ _ | refine blk_drew ?_ | refine blk_alloc ?_ _)); exact BK707.out) Try.underlying29 rfl (by kernel_rfl)) rfl ?_
 exact ⟨by first | rfl | (simp [errW_none, errW_some] <;> rfl) | (simp [*, errW_none, errW_some] <;> rfl), (z65_1 HB)⟩
end Go.Proofs.Ytinpcalgdiigiaa.PD
