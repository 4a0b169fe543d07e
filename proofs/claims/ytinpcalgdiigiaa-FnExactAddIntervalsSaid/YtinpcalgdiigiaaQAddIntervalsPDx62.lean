-- Written by a program of this session (wip/mk/drv.py) out of the seat's translation; Lean checks it.
import Derived.Test.YtinpcalgdiigiaaQAddIntervalsPDx0
import Derived.Test.YtinpcalgdiigiaaQAddIntervalsPDx1
import Derived.Test.YtinpcalgdiigiaaQAddIntervalsPDx2
import Derived.Test.YtinpcalgdiigiaaQAddIntervalsPDx30
import Derived.Test.YtinpcalgdiigiaaQAddIntervalsPDx56
import Derived.Test.YtinpcalgdiigiaaQAddIntervalsPDx61
namespace Go.Proofs.Ytinpcalgdiigiaa.PD
open Go.RowKit Go.Proofs.YtinpcalgdiigiaaW.PrintWords Go.Proofs.YtinpcalgdiigiaaW.PrintLast Go.Proofs.YtinpcalgdiigiaaW.PrintMore
attribute [local go_sem] max2_int min2_int max_two min_two max_three min_three max_four min_four   -- for this text's walks alone
set_option linter.unusedVariables false
set_option linter.unusedSimpArgs false
/-! ### laws_FnExactAddIntervals: function 10 -/
theorem z10_0 {w W0 W1 : World} {B : Nat} (h : Aside0 (Below B w W0)) (f : Below B w W0 → Below B w W1 := by intro h_; repeat (first | (with_reducible first | exact h_ | apply below_alloc | apply pw_below_drewN | apply below_drew1) | exact h_)) : Below B w W1 := f h.out
theorem z10_1 {w W0 W1 : World} {B : Nat} (h : Aside0 (Below B w W0)) (f : Below B w W0 → Below B w W1 := by intro h_; repeat (first | (with_reducible first | exact h_ | apply below_alloc | apply pw_below_drewN | apply below_drew1 | refine below_set ?_ (Aside0.out (by assumption))) | exact h_)) : Below B w W1 := f h.out
def laws_FnExactAddIntervals.T1 : Bool × List (List Nat × List Nat) := (true, [([], []), ([0], [0]), ([], []), ([2, 1], [2]), ([1, 3, 3], [1, 3]), ([4], [4]), ([5], [5]), ([5], [5]), ([], []), ([8, 6, 4, 0, 1, 2, 3, 4, 5, 6, 8], [6, 8]), ([7, 9, 0, 1, 2, 3, 4, 5, 6, 7, 8, 9], [7])])
def laws_FnExactAddIntervals.B1 : List Nat := [0, 1, 0, 7, 15, 31, 63, 63, 0, 383, 1023]
theorem laws_FnExactAddIntervals.tab1 : rtab .any (opsOf Try.f10 1) = laws_FnExactAddIntervals.T1 := by kernel_rfl
theorem laws_FnExactAddIntervals.bits1 : waitsOk laws_FnExactAddIntervals.T1.2 laws_FnExactAddIntervals.B1 = true := by kernel_rfl
def laws_FnExactAddIntervals.T2 : Bool × List (List Nat × List Nat) := (true, [([], []), ([0], [0]), ([], []), ([2, 1], [2]), ([1, 3, 3], [1, 3]), ([4], [4]), ([5], [5]), ([5], [5]), ([], []), ([8, 6, 4, 0, 1, 2, 3, 4, 5, 6, 8], [6, 8]), ([7, 9, 0, 1, 2, 3, 4, 5, 6, 7, 8, 9], [7])])
def laws_FnExactAddIntervals.B2 : List Nat := [0, 1, 0, 7, 15, 31, 63, 63, 0, 383, 1023]
theorem laws_FnExactAddIntervals.tab2 : rtab .any (opsOf Try.f10 2) = laws_FnExactAddIntervals.T2 := by kernel_rfl
theorem laws_FnExactAddIntervals.bits2 : waitsOk laws_FnExactAddIntervals.T2.2 laws_FnExactAddIntervals.B2 = true := by kernel_rfl
set_option maxHeartbeats 8000000 in
set_option maxRecDepth 100000 in
theorem laws_FnExactAddIntervals.calls (k : Nat) (a0_0 : Int) (a0_1 : Int) (a0_2 : Int) (a0_3 : Int) (a1_0 : Int) (a1_1 : Int) (a1_2 : Int) (a1_3 : Int) (r : Bool) (w : World) (h : laws_FnExactAddIntervals.f k a0_0 a0_1 a0_2 a0_3 a1_0 a1_1 a1_2 a1_3 = some r) :
  Calls Try.prog 10 #[.agg #[.int .i64 a0_0, .int .i64 a0_1, .int .i64 a0_2, .int .i64 a0_3], .agg #[.int .i64 a1_0, .int .i64 a1_1, .int .i64 a1_2, .int .i64 a1_3]] w fun e w' => e = .returned (.bool r) ∧ Below w.heap.size w w' := by
 have hu25 := Try.underlying25
 have hu29 := Try.underlying29
 have HB := Aside0.mk (Below.refl w.heap.size w)
 have H : ((laws_toInterval.f a0_0 a0_1 a0_2 a0_3).bind fun bt670 => ((laws_toInterval.f a1_0 a1_1 a1_2 a1_3).bind fun bt674 => ((spec_AddIntervals.f k bt670.1 bt670.2.1 bt670.2.2.1 bt670.2.2.2 bt674.1 bt674.2.1 bt674.2.2.1 bt674.2.2.2).bind fun bt678 => ((laws_toInterval.f a0_0 a0_1 a0_2 a0_3).bind fun bt684 => ((laws_toInterval.f a1_0 a1_1 a1_2 a1_3).bind fun bt688 => ((impl_AddIntervals.f k bt684.1 bt684.2.1 bt684.2.2.1 bt684.2.2.2 bt688.1 bt688.2.1 bt688.2.2.1 bt688.2.2.2).bind fun bt692 => ((laws_eqInterval.f bt692.1 bt692.2.1 bt692.2.2.1 bt692.2.2.2.1 bt678.1 bt678.2.1 bt678.2.2.1 bt678.2.2.2.1).bind fun t698 => (if t698 = true then (if (bt692.2.2.2.2 != bt678.2.2.2.2) = true then (none) else (some true)) else (none))))))))) = some r := h
 clear h
 replace H := Option.bind_eq_some_iff.mp H
 obtain ⟨⟨t670, t671, t672, t673⟩, A30, H⟩ := H
 replace H : ((laws_toInterval.f a1_0 a1_1 a1_2 a1_3).bind fun bt674 => ((spec_AddIntervals.f k t670 t671 t672 t673 bt674.1 bt674.2.1 bt674.2.2.1 bt674.2.2.2).bind fun bt678 => ((laws_toInterval.f a0_0 a0_1 a0_2 a0_3).bind fun bt684 => ((laws_toInterval.f a1_0 a1_1 a1_2 a1_3).bind fun bt688 => ((impl_AddIntervals.f k bt684.1 bt684.2.1 bt684.2.2.1 bt684.2.2.2 bt688.1 bt688.2.1 bt688.2.2.1 bt688.2.2.2).bind fun bt692 => ((laws_eqInterval.f bt692.1 bt692.2.1 bt692.2.2.1 bt692.2.2.2.1 bt678.1 bt678.2.1 bt678.2.2.1 bt678.2.2.2.1).bind fun t698 => (if t698 = true then (if (bt692.2.2.2.2 != bt678.2.2.2.2) = true then (none) else (some true)) else (none)))))))) = some r := H
 have A3 := Aside0.mk A30
 clear A30
 replace H := Option.bind_eq_some_iff.mp H
 obtain ⟨⟨t674, t675, t676, t677⟩, A40, H⟩ := H
 replace H : ((spec_AddIntervals.f k t670 t671 t672 t673 t674 t675 t676 t677).bind fun bt678 => ((laws_toInterval.f a0_0 a0_1 a0_2 a0_3).bind fun bt684 => ((laws_toInterval.f a1_0 a1_1 a1_2 a1_3).bind fun bt688 => ((impl_AddIntervals.f k bt684.1 bt684.2.1 bt684.2.2.1 bt684.2.2.2 bt688.1 bt688.2.1 bt688.2.2.1 bt688.2.2.2).bind fun bt692 => ((laws_eqInterval.f bt692.1 bt692.2.1 bt692.2.2.1 bt692.2.2.2.1 bt678.1 bt678.2.1 bt678.2.2.1 bt678.2.2.2.1).bind fun t698 => (if t698 = true then (if (bt692.2.2.2.2 != bt678.2.2.2.2) = true then (none) else (some true)) else (none))))))) = some r := H
 have A4 := Aside0.mk A40
 clear A40
 replace H := Option.bind_eq_some_iff.mp H
 obtain ⟨⟨t678, t679, t680, t681, t682⟩, A50, H⟩ := H
 replace H : ((laws_toInterval.f a0_0 a0_1 a0_2 a0_3).bind fun bt684 => ((laws_toInterval.f a1_0 a1_1 a1_2 a1_3).bind fun bt688 => ((impl_AddIntervals.f k bt684.1 bt684.2.1 bt684.2.2.1 bt684.2.2.2 bt688.1 bt688.2.1 bt688.2.2.1 bt688.2.2.2).bind fun bt692 => ((laws_eqInterval.f bt692.1 bt692.2.1 bt692.2.2.1 bt692.2.2.2.1 t678 t679 t680 t681).bind fun t698 => (if t698 = true then (if (bt692.2.2.2.2 != t682) = true then (none) else (some true)) else (none)))))) = some r := H
 have A5 := Aside0.mk A50
 clear A50
 replace H := Option.bind_eq_some_iff.mp H
 obtain ⟨⟨t684, t685, t686, t687⟩, A60, H⟩ := H
 replace H : ((laws_toInterval.f a1_0 a1_1 a1_2 a1_3).bind fun bt688 => ((impl_AddIntervals.f k t684 t685 t686 t687 bt688.1 bt688.2.1 bt688.2.2.1 bt688.2.2.2).bind fun bt692 => ((laws_eqInterval.f bt692.1 bt692.2.1 bt692.2.2.1 bt692.2.2.2.1 t678 t679 t680 t681).bind fun t698 => (if t698 = true then (if (bt692.2.2.2.2 != t682) = true then (none) else (some true)) else (none))))) = some r := H
 have A6 := Aside0.mk A60
 clear A60
 replace H := Option.bind_eq_some_iff.mp H
 obtain ⟨⟨t688, t689, t690, t691⟩, A70, H⟩ := H
 replace H : ((impl_AddIntervals.f k t684 t685 t686 t687 t688 t689 t690 t691).bind fun bt692 => ((laws_eqInterval.f bt692.1 bt692.2.1 bt692.2.2.1 bt692.2.2.2.1 t678 t679 t680 t681).bind fun t698 => (if t698 = true then (if (bt692.2.2.2.2 != t682) = true then (none) else (some true)) else (none)))) = some r := H
 have A7 := Aside0.mk A70
 clear A70
 replace H := Option.bind_eq_some_iff.mp H
 obtain ⟨⟨t692, t693, t694, t695, t696⟩, A80, H⟩ := H
 replace H : ((laws_eqInterval.f t692 t693 t694 t695 t678 t679 t680 t681).bind fun t698 => (if t698 = true then (if (t696 != t682) = true then (none) else (some true)) else (none))) = some r := H
 have A8 := Aside0.mk A80
 clear A80
 replace H := Option.bind_eq_some_iff.mp H
 obtain ⟨t698, A90, H⟩ := H
 replace H : (if t698 = true then (if (t696 != t682) = true then (none) else (some true)) else (none)) = some r := H
 have A9 := Aside0.mk A90
 clear A90
 by_cases c10 : t698 = true
 ·
  subst c10
  have H1 : (if (t696 != t682) = true then (none) else (some true)) = some r := by rw [if_pos rfl] at H; exact H
  clear H
  have H := H1
  clear H1
  by_cases c11 : (t696 != t682) = true
  ·
   rw [if_pos c11] at H
   exact absurd H (by simp)
  ·
   rw [if_neg c11] at H
   have c11b0 : (t696 != t682) = false := by simpa using c11
   (try (have c11b1 : decide (t696 = t682) = true := by simpa using c11))
   (try (have c11b2 : (t696 == t682) = true := by simpa using c11))
   clear c11
   obtain rfl := Option.some.inj H
   go_enter Try.func10, Try.ntmps10
   try go_wp2_with (first | ((with_reducible refine gate_dst (N := 2) rfl ?_); refine box_event ?hg (N := 2) ?hd (cs := #[.int .i64 a0_0, .int .i64 a0_1, .int .i64 a0_2, .int .i64 a0_3]) (t := 25) ?hr ?_; (case hd => rfl); (case hg => rfl); (case hr => first | (go_simp; done) | (go_simp; rfl)); intro gb668 hg w12 hbox hb; have n0_ := Aside0.mk (below_step (z10_0 HB) hb); have n1_ := Aside0.mk (hbox); have n2_ := Aside0.mk ((by rw [hg]; exact (below_size (z10_0 HB)) : w.heap.size ≤ gb668)); have n3_ := Aside0.mk ((by rw [hg]; exact (below_size (z10_0 HB)) : w.heap.size ≤ gb668)); clear HB; have HB := n0_; have BK668 := n1_; have GW668 := n2_; have GE668 := n3_; clear n0_ n1_ n2_ n3_; clear hb hbox hg) | ((with_reducible refine gate_dst (N := 3) rfl ?_); refine box_event ?hg (N := 3) ?hd (cs := #[.int .i64 a1_0, .int .i64 a1_1, .int .i64 a1_2, .int .i64 a1_3]) (t := 25) ?hr ?_; (case hd => rfl); (case hg => rfl); (case hr => first | (go_simp; done) | (go_simp; rfl)); intro gb669 hg w13 hbox hb; have n0_ := Aside0.mk (zbb BK668 hb); have n1_ := Aside0.mk (below_step (z10_1 HB) hb); have n2_ := Aside0.mk (hbox); have n3_ := Aside0.mk ((by rw [hg]; exact (below_size (z10_1 HB)) : w.heap.size ≤ gb669)); have n4_ := Aside0.mk ((by rw [hg]; exact (below_size (z10_1 HB)) : w.heap.size ≤ gb669)); have n5_ := Aside0.mk (zlt BK668 hg); have n6_ := Aside0.mk (zgt BK668 hg); clear BK668; clear HB; have BK668 := n0_; have HB := n1_; have BK669 := n2_; have GW669 := n3_; have GE669 := n4_; have NB668_669 := n5_; have NB669_668 := n6_; clear n0_ n1_ n2_ n3_ n4_ n5_ n6_; clear hb hbox hg))
   have n0_ := Aside0.mk (blk_drew BK668.out)
   have n1_ := Aside0.mk (blk_drew BK669.out)
   have n2_ := Aside0.mk (below_drew1 HB.out)
   clear BK668 BK669 HB
   have BK668 := n0_; have BK669 := n1_; have HB := n2_
   clear n0_ n1_ n2_
   refine start_ (n := 11) (S := fun w' => w'.cell? ⟨gb668, 0, none⟩ = some (.int .i64 a0_0) ∧ w'.cell? ⟨gb668, 1, none⟩ = some (.int .i64 a0_1) ∧ w'.cell? ⟨gb668, 2, none⟩ = some (.int .i64 a0_2) ∧ w'.cell? ⟨gb668, 3, none⟩ = some (.int .i64 a0_3) ∧ w'.cell? ⟨gb669, 0, none⟩ = some (.int .i64 a1_0) ∧ w'.cell? ⟨gb669, 1, none⟩ = some (.int .i64 a1_1) ∧ w'.cell? ⟨gb669, 2, none⟩ = some (.int .i64 a1_2) ∧ w'.cell? ⟨gb669, 3, none⟩ = some (.int .i64 a1_3)) (ds := []) #[false, false, false, false, false, false, false, false, false, false, false] (by kernel_rfl) rfl rfl ⟨zc BK668 0, zc BK668 1, zc BK668 2, zc BK668 3, zc BK669 0, zc BK669 1, zc BK669 2, zc BK669 3⟩ (fun hHeld => ?_); refine with_tabW laws_FnExactAddIntervals.tab1 laws_FnExactAddIntervals.bits1 (fun HT_ HW_ => ?_)
   generalize w13.drew = w14 at BK668 BK669 HB hHeld ⊢
   refine take_ (i := 0) (N := some 10) (v := ?_) (a' := ?_) #[true, false, false, false, false, false, false, false, false, false, false] rfl rfl (take_ofW HT_.out HW_.out (by kernel_rfl)) (fun _ _ _ h => h) (Or.inl ⟨by rfl, ?_⟩) hHeld ?_ ?_
   rotate_left
   ·
    rintro w' ⟨s0, s1, s2, s3, s4, s5, s6, s7⟩
    go_simp
    with_reducible rfl
   rotate_left
   ·
    simp only [Act.put, List.setIfInBounds_toArray, List.set_cons_zero, List.set_cons_succ, i64_w, i32_w]
    rfl
   refine take_ (i := 2) (N := some 12) (v := ?_) (a' := ?_) #[true, false, true, false, false, false, false, false, false, false, false] rfl rfl (take_ofW HT_.out HW_.out (by kernel_rfl)) (fun _ _ _ h => h) (Or.inl ⟨by rfl, ?_⟩) hHeld ?_ ?_
   rotate_left
   ·
    rintro w' ⟨s0, s1, s2, s3, s4, s5, s6, s7⟩
    go_simp
    with_reducible rfl
   rotate_left
   ·
    simp only [Act.put, List.setIfInBounds_toArray, List.set_cons_zero, List.set_cons_succ, i64_w, i32_w]
    rfl
   refine join_ (σ := Nat) 2 #[true, true, true, true, true, true, true, true, true, false, false] (fun s_ => [(11, .agg #[.int .i64 t670, .int .i64 t671, .int .i64 t672, .int .i64 t673]), (13, .agg #[.int .i64 t674, .int .i64 t675, .int .i64 t676, .int .i64 t677]), (14, .tuple #[.agg #[.int .i64 t678, .int .i64 t679, .int .i64 t680, .int .i64 t681], .bool t682]), (5, .pointer (some ⟨s_, 0, none⟩)), (9, .tuple #[.agg #[.int .i64 t678, .int .i64 t679, .int .i64 t680, .int .i64 t681], .bool t682]), (15, .agg #[.int .i64 t678, .int .i64 t679, .int .i64 t680, .int .i64 t681]), (16, .bool t682)]) (fun s_ w' => (w'.cell? ⟨gb668, 0, none⟩ = some (.int .i64 a0_0) ∧ w'.cell? ⟨gb668, 1, none⟩ = some (.int .i64 a0_1) ∧ w'.cell? ⟨gb668, 2, none⟩ = some (.int .i64 a0_2) ∧ w'.cell? ⟨gb668, 3, none⟩ = some (.int .i64 a0_3) ∧ w'.cell? ⟨gb669, 0, none⟩ = some (.int .i64 a1_0) ∧ w'.cell? ⟨gb669, 1, none⟩ = some (.int .i64 a1_1) ∧ w'.cell? ⟨gb669, 2, none⟩ = some (.int .i64 a1_2) ∧ w'.cell? ⟨gb669, 3, none⟩ = some (.int .i64 a1_3)) ∧ (w'.heap[gb668]? = some (.cells #[.int .i64 a0_0, .int .i64 a0_1, .int .i64 a0_2, .int .i64 a0_3] 25 (0, 0))) ∧ (w'.heap[gb669]? = some (.cells #[.int .i64 a1_0, .int .i64 a1_1, .int .i64 a1_2, .int .i64 a1_3] 25 (0, 0))) ∧ (w'.heap[s_]? = some (.cells #[.int .i64 0, .int .i64 0, .int .i64 0, .int .i64 0] 29 (0, 0))) ∧ (w.heap.size ≤ s_) ∧ (w.heap.size ≤ s_) ∧ (gb668 ≠ s_) ∧ (s_ ≠ gb668) ∧ (gb669 ≠ s_) ∧ (s_ ≠ gb669) ∧ (Below w.heap.size w w')) ?_ ?_
   rotate_left
   ·
    intro hCont
    refine two_ (i := 1) (j := 8) (Ni := some 11) (Nj := some 5) #[true, true, true, false, false, false, false, false, false, false, false] #[true, false, true, false, false, false, false, false, true, false, false] rfl rfl rfl rfl (two_of HT_.out (by kernel_rfl)) (by decide) (by decide) (fun K hK => ?_) (fun K hK => ?_)
    ·
     refine goes_ Try.func16 (by kernel_rfl) rfl #[.agg #[.int .i64 a0_0, .int .i64 a0_1, .int .i64 a0_2, .int .i64 a0_3]] (by rfl) rfl rfl (by (try simp only [List.map_toArray, List.map_cons, List.map_nil]); first | done | rfl | (simp only [List.length_drop, List.length_take]; rfl)) ?_
     with_reducible refine (laws_toInterval.calls a0_0 a0_1 a0_2 a0_3 t670 t671 t672 t673 _ A3.out).mono ?_
     rintro e w15 ⟨rfl, hb⟩
     refine ⟨_, rfl, ?_⟩
     have n0_ := Aside0.mk (zbb BK668 hb)
     have n1_ := Aside0.mk (zbb BK669 hb)
     have n2_ := Aside0.mk (below_step (z10_1 HB) hb)
     clear BK668 BK669 HB
     have BK668 := n0_; have BK669 := n1_; have HB := n2_
     clear n0_ n1_ n2_
     (try clear hb)
     (try clear hb2)
     (try clear hk)
     (try clear hi)
     refine hK.out _ _ ⟨zc BK668 0, zc BK668 1, zc BK668 2, zc BK668 3, zc BK669 0, zc BK669 1, zc BK669 2, zc BK669 3⟩ (fun hHeld => ?_)
     clear hK K
     refine norm_ (a' := ?_) ?_ ?_
     rotate_left
     ·
      show Act.put _ (some 11) _ = _
      simp only [Act.put, List.setIfInBounds_toArray, List.set_cons_zero, List.set_cons_succ, i64_w, i32_w]; rfl
     refine two_ (i := 3) (j := 8) (Ni := some 13) (Nj := some 5) #[true, true, true, true, false, false, false, false, false, false, false] #[true, true, true, false, false, false, false, false, true, false, false] rfl rfl rfl rfl (two_of HT_.out (by kernel_rfl)) (by decide) (by decide) (fun K hK => ?_) (fun K hK => ?_)
     ·
      refine goes_ Try.func16 (by kernel_rfl) rfl #[.agg #[.int .i64 a1_0, .int .i64 a1_1, .int .i64 a1_2, .int .i64 a1_3]] (by rfl) rfl rfl (by (try simp only [List.map_toArray, List.map_cons, List.map_nil]); first | done | rfl | (simp only [List.length_drop, List.length_take]; rfl)) ?_
      with_reducible refine (laws_toInterval.calls a1_0 a1_1 a1_2 a1_3 t674 t675 t676 t677 _ A4.out).mono ?_
      rintro e w16 ⟨rfl, hb⟩
      refine ⟨_, rfl, ?_⟩
      have n0_ := Aside0.mk (zbb BK668 hb)
      have n1_ := Aside0.mk (zbb BK669 hb)
      have n2_ := Aside0.mk (below_step (z10_1 HB) hb)
      clear BK668 BK669 HB
      have BK668 := n0_; have BK669 := n1_; have HB := n2_
      clear n0_ n1_ n2_
      (try clear hb)
      (try clear hb2)
      (try clear hk)
      (try clear hi)
      refine hK.out _ _ ⟨zc BK668 0, zc BK668 1, zc BK668 2, zc BK668 3, zc BK669 0, zc BK669 1, zc BK669 2, zc BK669 3⟩ (fun hHeld => ?_)
      clear hK K
      refine norm_ (a' := ?_) ?_ ?_
      rotate_left
      ·
       show Act.put _ (some 13) _ = _
       simp only [Act.put, List.setIfInBounds_toArray, List.set_cons_zero, List.set_cons_succ, i64_w, i32_w]; rfl
      refine two_ (i := 4) (j := 8) (Ni := some 14) (Nj := some 5) #[true, true, true, true, true, false, false, false, false, false, false] #[true, true, true, true, false, false, false, false, true, false, false] rfl rfl rfl rfl (two_of HT_.out (by kernel_rfl)) (by decide) (by decide) (fun K hK => ?_) (fun K hK => ?_)
      ·
       refine goes_ Try.func32 (by kernel_rfl) rfl #[.agg #[.int .i64 t670, .int .i64 t671, .int .i64 t672, .int .i64 t673], .agg #[.int .i64 t674, .int .i64 t675, .int .i64 t676, .int .i64 t677]] (by rfl) rfl rfl (by (try simp only [List.map_toArray, List.map_cons, List.map_nil]); first | done | rfl | (simp only [List.length_drop, List.length_take]; rfl)) ?_
       with_reducible refine (spec_AddIntervals.calls k t670 t671 t672 t673 t674 t675 t676 t677 t678 t679 t680 t681 t682 _ A5.out).mono ?_
       rintro e w17 ⟨rfl, hb⟩
       refine ⟨_, rfl, ?_⟩
       have n0_ := Aside0.mk (zbb BK668 hb)
       have n1_ := Aside0.mk (zbb BK669 hb)
       have n2_ := Aside0.mk (below_step (z10_1 HB) hb)
       clear BK668 BK669 HB
       have BK668 := n0_; have BK669 := n1_; have HB := n2_
       clear n0_ n1_ n2_
       (try clear hb)
       (try clear hb2)
       (try clear hk)
       (try clear hi)
       refine hK.out _ _ ⟨zc BK668 0, zc BK668 1, zc BK668 2, zc BK668 3, zc BK669 0, zc BK669 1, zc BK669 2, zc BK669 3⟩ (fun hHeld => ?_)
       clear hK K
       refine norm_ (a' := ?_) ?_ ?_
       rotate_left
       ·
        show Act.put _ (some 14) _ = _
        simp only [Act.put, List.setIfInBounds_toArray, List.set_cons_zero, List.set_cons_succ, i64_w, i32_w]; rfl
       refine pure_ (i := 5) (N := some 9) (v := ?_) (a' := ?_) #[true, true, true, true, true, true, false, false, false, false, false] rfl rfl (any_of HT_.out (by kernel_rfl)) (fun _ _ _ h => h) (Or.inl ⟨by rfl, ?_⟩) ?_ ?_
       rotate_left
       ·
        intro w'
        go_simp
        with_reducible rfl
       rotate_left
       ·
        simp only [Act.put, List.setIfInBounds_toArray, List.set_cons_zero, List.set_cons_succ, i64_w, i32_w]
        rfl
       refine pure_ (i := 6) (N := some 15) (v := ?_) (a' := ?_) #[true, true, true, true, true, true, true, false, false, false, false] rfl rfl (any_of HT_.out (by kernel_rfl)) (fun _ _ _ h => h) (Or.inl ⟨by rfl, ?_⟩) ?_ ?_
       rotate_left
       ·
        intro w'
        go_simp
        with_reducible rfl
       rotate_left
       ·
        simp only [Act.put, List.setIfInBounds_toArray, List.set_cons_zero, List.set_cons_succ, i64_w, i32_w]
        rfl
       refine pure_ (i := 7) (N := some 16) (v := ?_) (a' := ?_) #[true, true, true, true, true, true, true, true, false, false, false] rfl rfl (any_of HT_.out (by kernel_rfl)) (fun _ _ _ h => h) (Or.inl ⟨by rfl, ?_⟩) ?_ ?_
       rotate_left
       ·
        intro w'
        go_simp
        with_reducible rfl
       rotate_left
       ·
        simp only [Act.put, List.setIfInBounds_toArray, List.set_cons_zero, List.set_cons_succ, i64_w, i32_w]
        rfl
       refine one_ (i := 8) (N := some 5) #[true, true, true, true, true, true, true, true, true, false, false] rfl rfl (one_of HT_.out (by kernel_rfl)) (by decide) (fun K hK => ?_)
       refine box_step ?hg (N := 5) ?hd (cs := #[.int .i64 0, .int .i64 0, .int .i64 0, .int .i64 0]) (t := 29) ?hr ?_; (case hd => rfl); (case hg => rfl); (case hr => first | (go_simp; done) | (go_simp; rfl))
       intro gb683 hg w18 hbox hb
       have n0_ := Aside0.mk (zbb BK668 hb)
       have n1_ := Aside0.mk (zbb BK669 hb)
       have n2_ := Aside0.mk (below_step (z10_1 HB) hb)
       have BK683 := Aside0.mk (hbox)
       have GW683 := Aside0.mk ((by rw [hg]; exact (below_size (z10_1 HB)) : w.heap.size ≤ gb683))
       have GE683 := Aside0.mk ((by rw [hg]; exact (below_size (z10_1 HB)) : w.heap.size ≤ gb683))
       have NB668_683 := Aside0.mk (zlt BK668 hg)
       have NB683_668 := Aside0.mk (zgt BK668 hg)
       have NB669_683 := Aside0.mk (zlt BK669 hg)
       have NB683_669 := Aside0.mk (zgt BK669 hg)
       clear BK668 BK669 HB
       have BK668 := n0_; have BK669 := n1_; have HB := n2_
       clear n0_ n1_ n2_ hb hbox hg
       refine hK.out _ _ ⟨zc BK668 0, zc BK668 1, zc BK668 2, zc BK668 3, zc BK669 0, zc BK669 1, zc BK669 2, zc BK669 3⟩ (fun hHeld => ?_)
       clear hK K
       refine norm_ (a' := ?_) ?_ ?_
       rotate_left
       ·
        show Act.put _ (some 5) _ = _
        simp only [Act.put, List.setIfInBounds_toArray, List.set_cons_zero, List.set_cons_succ, i64_w, i32_w]; rfl
       exact norm_ (by simp only [putAll, Act.put, List.setIfInBounds_toArray, List.set_cons_zero, List.set_cons_succ]) (hCont (gb683) _ ⟨hHeld, (zq1 BK668), (zq1 BK669), (zq1 BK683), GW683.out, GE683.out, NB668_683.out, NB683_668.out, NB669_683.out, NB683_669.out, (z10_1 HB)⟩)
      ·
       refine box_step ?hg (N := 5) ?hd (cs := #[.int .i64 0, .int .i64 0, .int .i64 0, .int .i64 0]) (t := 29) ?hr ?_; (case hd => rfl); (case hg => rfl); (case hr => first | (go_simp; done) | (go_simp; rfl))
       intro gb683 hg w17 hbox hb
       have n0_ := Aside0.mk (zbb BK668 hb)
       have n1_ := Aside0.mk (zbb BK669 hb)
       have n2_ := Aside0.mk (below_step (z10_1 HB) hb)
       have BK683 := Aside0.mk (hbox)
       have GW683 := Aside0.mk ((by rw [hg]; exact (below_size (z10_1 HB)) : w.heap.size ≤ gb683))
       have GE683 := Aside0.mk ((by rw [hg]; exact (below_size (z10_1 HB)) : w.heap.size ≤ gb683))
       have NB668_683 := Aside0.mk (zlt BK668 hg)
       have NB683_668 := Aside0.mk (zgt BK668 hg)
       have NB669_683 := Aside0.mk (zlt BK669 hg)
       have NB683_669 := Aside0.mk (zgt BK669 hg)
       clear BK668 BK669 HB
       have BK668 := n0_; have BK669 := n1_; have HB := n2_
       clear n0_ n1_ n2_ hb hbox hg
       refine hK.out _ _ ⟨zc BK668 0, zc BK668 1, zc BK668 2, zc BK668 3, zc BK669 0, zc BK669 1, zc BK669 2, zc BK669 3⟩ (fun hHeld => ?_)
       clear hK K
       refine norm_ (a' := ?_) ?_ ?_
       rotate_left
       ·
        show Act.put _ (some 5) _ = _
        simp only [Act.put, List.setIfInBounds_toArray, List.set_cons_zero, List.set_cons_succ, i64_w, i32_w]; rfl
       refine one_ (i := 4) (N := some 14) #[true, true, true, true, true, false, false, false, true, false, false] rfl rfl (one_of HT_.out (by kernel_rfl)) (by decide) (fun K hK => ?_)
       refine goes_ Try.func32 (by kernel_rfl) rfl #[.agg #[.int .i64 t670, .int .i64 t671, .int .i64 t672, .int .i64 t673], .agg #[.int .i64 t674, .int .i64 t675, .int .i64 t676, .int .i64 t677]] (by rfl) rfl rfl (by (try simp only [List.map_toArray, List.map_cons, List.map_nil]); first | done | rfl | (simp only [List.length_drop, List.length_take]; rfl)) ?_
       with_reducible refine (spec_AddIntervals.calls k t670 t671 t672 t673 t674 t675 t676 t677 t678 t679 t680 t681 t682 _ A5.out).mono ?_
       rintro e w18 ⟨rfl, hb⟩
       refine ⟨_, rfl, ?_⟩
       have n0_ := Aside0.mk (zbb BK668 hb)
       have n1_ := Aside0.mk (zbb BK669 hb)
       have n2_ := Aside0.mk (zbb BK683 hb)
       have n3_ := Aside0.mk (below_step (z10_1 HB) hb)
       clear BK668 BK669 BK683 HB
       have BK668 := n0_; have BK669 := n1_; have BK683 := n2_; have HB := n3_
       clear n0_ n1_ n2_ n3_
       (try clear hb)
       (try clear hb2)
       (try clear hk)
       (try clear hi)
       refine hK.out _ _ ⟨zc BK668 0, zc BK668 1, zc BK668 2, zc BK668 3, zc BK669 0, zc BK669 1, zc BK669 2, zc BK669 3⟩ (fun hHeld => ?_)
       clear hK K
       refine norm_ (a' := ?_) ?_ ?_
       rotate_left
       ·
        show Act.put _ (some 14) _ = _
        simp only [Act.put, List.setIfInBounds_toArray, List.set_cons_zero, List.set_cons_succ, i64_w, i32_w]; rfl
       refine pure_ (i := 5) (N := some 9) (v := ?_) (a' := ?_) #[true, true, true, true, true, true, false, false, true, false, false] rfl rfl (any_of HT_.out (by kernel_rfl)) (fun _ _ _ h => h) (Or.inl ⟨by rfl, ?_⟩) ?_ ?_
       rotate_left
       ·
        intro w'
        go_simp
        with_reducible rfl
       rotate_left
       ·
        simp only [Act.put, List.setIfInBounds_toArray, List.set_cons_zero, List.set_cons_succ, i64_w, i32_w]
        rfl
       refine pure_ (i := 6) (N := some 15) (v := ?_) (a' := ?_) #[true, true, true, true, true, true, true, false, true, false, false] rfl rfl (any_of HT_.out (by kernel_rfl)) (fun _ _ _ h => h) (Or.inl ⟨by rfl, ?_⟩) ?_ ?_
       rotate_left
       ·
        intro w'
        go_simp
        with_reducible rfl
       rotate_left
       ·
        simp only [Act.put, List.setIfInBounds_toArray, List.set_cons_zero, List.set_cons_succ, i64_w, i32_w]
        rfl
       refine pure_ (i := 7) (N := some 16) (v := ?_) (a' := ?_) #[true, true, true, true, true, true, true, true, true, false, false] rfl rfl (any_of HT_.out (by kernel_rfl)) (fun _ _ _ h => h) (Or.inl ⟨by rfl, ?_⟩) ?_ ?_
       rotate_left
       ·
        intro w'
        go_simp
        with_reducible rfl
       rotate_left
       ·
        simp only [Act.put, List.setIfInBounds_toArray, List.set_cons_zero, List.set_cons_succ, i64_w, i32_w]
        rfl
       exact norm_ (by simp only [putAll, Act.put, List.setIfInBounds_toArray, List.set_cons_zero, List.set_cons_succ]) (hCont (gb683) _ ⟨hHeld, (zq1 BK668), (zq1 BK669), (zq1 BK683), GW683.out, GE683.out, NB668_683.out, NB683_668.out, NB669_683.out, NB683_669.out, (z10_1 HB)⟩)
     ·
      refine box_step ?hg (N := 5) ?hd (cs := #[.int .i64 0, .int .i64 0, .int .i64 0, .int .i64 0]) (t := 29) ?hr ?_; (case hd => rfl); (case hg => rfl); (case hr => first | (go_simp; done) | (go_simp; rfl))
      intro gb683 hg w16 hbox hb
      have n0_ := Aside0.mk (zbb BK668 hb)
      have n1_ := Aside0.mk (zbb BK669 hb)
      have n2_ := Aside0.mk (below_step (z10_1 HB) hb)
      have BK683 := Aside0.mk (hbox)
      have GW683 := Aside0.mk ((by rw [hg]; exact (below_size (z10_1 HB)) : w.heap.size ≤ gb683))
      have GE683 := Aside0.mk ((by rw [hg]; exact (below_size (z10_1 HB)) : w.heap.size ≤ gb683))
      have NB668_683 := Aside0.mk (zlt BK668 hg)
      have NB683_668 := Aside0.mk (zgt BK668 hg)
      have NB669_683 := Aside0.mk (zlt BK669 hg)
      have NB683_669 := Aside0.mk (zgt BK669 hg)
      clear BK668 BK669 HB
      have BK668 := n0_; have BK669 := n1_; have HB := n2_
      clear n0_ n1_ n2_ hb hbox hg
      refine hK.out _ _ ⟨zc BK668 0, zc BK668 1, zc BK668 2, zc BK668 3, zc BK669 0, zc BK669 1, zc BK669 2, zc BK669 3⟩ (fun hHeld => ?_)
      clear hK K
      refine norm_ (a' := ?_) ?_ ?_
      rotate_left
      ·
       show Act.put _ (some 5) _ = _
       simp only [Act.put, List.setIfInBounds_toArray, List.set_cons_zero, List.set_cons_succ, i64_w, i32_w]; rfl
      refine one_ (i := 3) (N := some 13) #[true, true, true, true, false, false, false, false, true, false, false] rfl rfl (one_of HT_.out (by kernel_rfl)) (by decide) (fun K hK => ?_)
      refine goes_ Try.func16 (by kernel_rfl) rfl #[.agg #[.int .i64 a1_0, .int .i64 a1_1, .int .i64 a1_2, .int .i64 a1_3]] (by rfl) rfl rfl (by (try simp only [List.map_toArray, List.map_cons, List.map_nil]); first | done | rfl | (simp only [List.length_drop, List.length_take]; rfl)) ?_
      with_reducible refine (laws_toInterval.calls a1_0 a1_1 a1_2 a1_3 t674 t675 t676 t677 _ A4.out).mono ?_
      rintro e w17 ⟨rfl, hb⟩
      refine ⟨_, rfl, ?_⟩
      have n0_ := Aside0.mk (zbb BK668 hb)
      have n1_ := Aside0.mk (zbb BK669 hb)
      have n2_ := Aside0.mk (zbb BK683 hb)
      have n3_ := Aside0.mk (below_step (z10_1 HB) hb)
      clear BK668 BK669 BK683 HB
      have BK668 := n0_; have BK669 := n1_; have BK683 := n2_; have HB := n3_
      clear n0_ n1_ n2_ n3_
      (try clear hb)
      (try clear hb2)
      (try clear hk)
      (try clear hi)
      refine hK.out _ _ ⟨zc BK668 0, zc BK668 1, zc BK668 2, zc BK668 3, zc BK669 0, zc BK669 1, zc BK669 2, zc BK669 3⟩ (fun hHeld => ?_)
      clear hK K
      refine norm_ (a' := ?_) ?_ ?_
      rotate_left
      ·
       show Act.put _ (some 13) _ = _
       simp only [Act.put, List.setIfInBounds_toArray, List.set_cons_zero, List.set_cons_succ, i64_w, i32_w]; rfl
      refine one_ (i := 4) (N := some 14) #[true, true, true, true, true, false, false, false, true, false, false] rfl rfl (one_of HT_.out (by kernel_rfl)) (by decide) (fun K hK => ?_)
      refine goes_ Try.func32 (by kernel_rfl) rfl #[.agg #[.int .i64 t670, .int .i64 t671, .int .i64 t672, .int .i64 t673], .agg #[.int .i64 t674, .int .i64 t675, .int .i64 t676, .int .i64 t677]] (by rfl) rfl rfl (by (try simp only [List.map_toArray, List.map_cons, List.map_nil]); first | done | rfl | (simp only [List.length_drop, List.length_take]; rfl)) ?_
      with_reducible refine (spec_AddIntervals.calls k t670 t671 t672 t673 t674 t675 t676 t677 t678 t679 t680 t681 t682 _ A5.out).mono ?_
      rintro e w18 ⟨rfl, hb⟩
      refine ⟨_, rfl, ?_⟩
      have n0_ := Aside0.mk (zbb BK668 hb)
      have n1_ := Aside0.mk (zbb BK669 hb)
      have n2_ := Aside0.mk (zbb BK683 hb)
      have n3_ := Aside0.mk (below_step (z10_1 HB) hb)
      clear BK668 BK669 BK683 HB
      have BK668 := n0_; have BK669 := n1_; have BK683 := n2_; have HB := n3_
      clear n0_ n1_ n2_ n3_
      (try clear hb)
      (try clear hb2)
      (try clear hk)
      (try clear hi)
      refine hK.out _ _ ⟨zc BK668 0, zc BK668 1, zc BK668 2, zc BK668 3, zc BK669 0, zc BK669 1, zc BK669 2, zc BK669 3⟩ (fun hHeld => ?_)
      clear hK K
      refine norm_ (a' := ?_) ?_ ?_
      rotate_left
      ·
       show Act.put _ (some 14) _ = _
       simp only [Act.put, List.setIfInBounds_toArray, List.set_cons_zero, List.set_cons_succ, i64_w, i32_w]; rfl
      refine pure_ (i := 5) (N := some 9) (v := ?_) (a' := ?_) #[true, true, true, true, true, true, false, false, true, false, false] rfl rfl (any_of HT_.out (by kernel_rfl)) (fun _ _ _ h => h) (Or.inl ⟨by rfl, ?_⟩) ?_ ?_
      rotate_left
      ·
       intro w'
       go_simp
       with_reducible rfl
      rotate_left
      ·
       simp only [Act.put, List.setIfInBounds_toArray, List.set_cons_zero, List.set_cons_succ, i64_w, i32_w]
       rfl
      refine pure_ (i := 6) (N := some 15) (v := ?_) (a' := ?_) #[true, true, true, true, true, true, true, false, true, false, false] rfl rfl (any_of HT_.out (by kernel_rfl)) (fun _ _ _ h => h) (Or.inl ⟨by rfl, ?_⟩) ?_ ?_
      rotate_left
      ·
       intro w'
       go_simp
       with_reducible rfl
      rotate_left
      ·
       simp only [Act.put, List.setIfInBounds_toArray, List.set_cons_zero, List.set_cons_succ, i64_w, i32_w]
       rfl
      refine pure_ (i := 7) (N := some 16) (v := ?_) (a' := ?_) #[true, true, true, true, true, true, true, true, true, false, false] rfl rfl (any_of HT_.out (by kernel_rfl)) (fun _ _ _ h => h) (Or.inl ⟨by rfl, ?_⟩) ?_ ?_
      rotate_left
      ·
       intro w'
       go_simp
       with_reducible rfl
      rotate_left
      ·
       simp only [Act.put, List.setIfInBounds_toArray, List.set_cons_zero, List.set_cons_succ, i64_w, i32_w]
       rfl
      exact norm_ (by simp only [putAll, Act.put, List.setIfInBounds_toArray, List.set_cons_zero, List.set_cons_succ]) (hCont (gb683) _ ⟨hHeld, (zq1 BK668), (zq1 BK669), (zq1 BK683), GW683.out, GE683.out, NB668_683.out, NB683_668.out, NB669_683.out, NB683_669.out, (z10_1 HB)⟩)
    ·
     refine box_step ?hg (N := 5) ?hd (cs := #[.int .i64 0, .int .i64 0, .int .i64 0, .int .i64 0]) (t := 29) ?hr ?_; (case hd => rfl); (case hg => rfl); (case hr => first | (go_simp; done) | (go_simp; rfl))
     intro gb683 hg w15 hbox hb
     have n0_ := Aside0.mk (zbb BK668 hb)
     have n1_ := Aside0.mk (zbb BK669 hb)
     have n2_ := Aside0.mk (below_step (z10_1 HB) hb)
     have BK683 := Aside0.mk (hbox)
     have GW683 := Aside0.mk ((by rw [hg]; exact (below_size (z10_1 HB)) : w.heap.size ≤ gb683))
     have GE683 := Aside0.mk ((by rw [hg]; exact (below_size (z10_1 HB)) : w.heap.size ≤ gb683))
     have NB668_683 := Aside0.mk (zlt BK668 hg)
     have NB683_668 := Aside0.mk (zgt BK668 hg)
     have NB669_683 := Aside0.mk (zlt BK669 hg)
     have NB683_669 := Aside0.mk (zgt BK669 hg)
     clear BK668 BK669 HB
     have BK668 := n0_; have BK669 := n1_; have HB := n2_
     clear n0_ n1_ n2_ hb hbox hg
     refine hK.out _ _ ⟨zc BK668 0, zc BK668 1, zc BK668 2, zc BK668 3, zc BK669 0, zc BK669 1, zc BK669 2, zc BK669 3⟩ (fun hHeld => ?_)
     clear hK K
     refine norm_ (a' := ?_) ?_ ?_
     rotate_left
     ·
      show Act.put _ (some 5) _ = _
      simp only [Act.put, List.setIfInBounds_toArray, List.set_cons_zero, List.set_cons_succ, i64_w, i32_w]; rfl
     refine one_ (i := 1) (N := some 11) #[true, true, true, false, false, false, false, false, true, false, false] rfl rfl (one_of HT_.out (by kernel_rfl)) (by decide) (fun K hK => ?_)
     refine goes_ Try.func16 (by kernel_rfl) rfl #[.agg #[.int .i64 a0_0, .int .i64 a0_1, .int .i64 a0_2, .int .i64 a0_3]] (by rfl) rfl rfl (by (try simp only [List.map_toArray, List.map_cons, List.map_nil]); first | done | rfl | (simp only [List.length_drop, List.length_take]; rfl)) ?_
     with_reducible refine (laws_toInterval.calls a0_0 a0_1 a0_2 a0_3 t670 t671 t672 t673 _ A3.out).mono ?_
     rintro e w16 ⟨rfl, hb⟩
     refine ⟨_, rfl, ?_⟩
     have n0_ := Aside0.mk (zbb BK668 hb)
     have n1_ := Aside0.mk (zbb BK669 hb)
     have n2_ := Aside0.mk (zbb BK683 hb)
     have n3_ := Aside0.mk (below_step (z10_1 HB) hb)
     clear BK668 BK669 BK683 HB
     have BK668 := n0_; have BK669 := n1_; have BK683 := n2_; have HB := n3_
     clear n0_ n1_ n2_ n3_
     (try clear hb)
     (try clear hb2)
     (try clear hk)
     (try clear hi)
     refine hK.out _ _ ⟨zc BK668 0, zc BK668 1, zc BK668 2, zc BK668 3, zc BK669 0, zc BK669 1, zc BK669 2, zc BK669 3⟩ (fun hHeld => ?_)
     clear hK K
     refine norm_ (a' := ?_) ?_ ?_
     rotate_left
     ·
      show Act.put _ (some 11) _ = _
      simp only [Act.put, List.setIfInBounds_toArray, List.set_cons_zero, List.set_cons_succ, i64_w, i32_w]; rfl
     refine one_ (i := 3) (N := some 13) #[true, true, true, true, false, false, false, false, true, false, false] rfl rfl (one_of HT_.out (by kernel_rfl)) (by decide) (fun K hK => ?_)
     refine goes_ Try.func16 (by kernel_rfl) rfl #[.agg #[.int .i64 a1_0, .int .i64 a1_1, .int .i64 a1_2, .int .i64 a1_3]] (by rfl) rfl rfl (by (try simp only [List.map_toArray, List.map_cons, List.map_nil]); first | done | rfl | (simp only [List.length_drop, List.length_take]; rfl)) ?_
     with_reducible refine (laws_toInterval.calls a1_0 a1_1 a1_2 a1_3 t674 t675 t676 t677 _ A4.out).mono ?_
     rintro e w17 ⟨rfl, hb⟩
     refine ⟨_, rfl, ?_⟩
     have n0_ := Aside0.mk (zbb BK668 hb)
     have n1_ := Aside0.mk (zbb BK669 hb)
     have n2_ := Aside0.mk (zbb BK683 hb)
     have n3_ := Aside0.mk (below_step (z10_1 HB) hb)
     clear BK668 BK669 BK683 HB
     have BK668 := n0_; have BK669 := n1_; have BK683 := n2_; have HB := n3_
     clear n0_ n1_ n2_ n3_
     (try clear hb)
     (try clear hb2)
     (try clear hk)
     (try clear hi)
     refine hK.out _ _ ⟨zc BK668 0, zc BK668 1, zc BK668 2, zc BK668 3, zc BK669 0, zc BK669 1, zc BK669 2, zc BK669 3⟩ (fun hHeld => ?_)
     clear hK K
     refine norm_ (a' := ?_) ?_ ?_
     rotate_left
     ·
      show Act.put _ (some 13) _ = _
      simp only [Act.put, List.setIfInBounds_toArray, List.set_cons_zero, List.set_cons_succ, i64_w, i32_w]; rfl
     refine one_ (i := 4) (N := some 14) #[true, true, true, true, true, false, false, false, true, false, false] rfl rfl (one_of HT_.out (by kernel_rfl)) (by decide) (fun K hK => ?_)
     refine goes_ Try.func32 (by kernel_rfl) rfl #[.agg #[.int .i64 t670, .int .i64 t671, .int .i64 t672, .int .i64 t673], .agg #[.int .i64 t674, .int .i64 t675, .int .i64 t676, .int .i64 t677]] (by rfl) rfl rfl (by (try simp only [List.map_toArray, List.map_cons, List.map_nil]); first | done | rfl | (simp only [List.length_drop, List.length_take]; rfl)) ?_
     with_reducible refine (spec_AddIntervals.calls k t670 t671 t672 t673 t674 t675 t676 t677 t678 t679 t680 t681 t682 _ A5.out).mono ?_
     rintro e w18 ⟨rfl, hb⟩
     refine ⟨_, rfl, ?_⟩
     have n0_ := Aside0.mk (zbb BK668 hb)
     have n1_ := Aside0.mk (zbb BK669 hb)
     have n2_ := Aside0.mk (zbb BK683 hb)
     have n3_ := Aside0.mk (below_step (z10_1 HB) hb)
     clear BK668 BK669 BK683 HB
     have BK668 := n0_; have BK669 := n1_; have BK683 := n2_; have HB := n3_
     clear n0_ n1_ n2_ n3_
     (try clear hb)
     (try clear hb2)
     (try clear hk)
     (try clear hi)
     refine hK.out _ _ ⟨zc BK668 0, zc BK668 1, zc BK668 2, zc BK668 3, zc BK669 0, zc BK669 1, zc BK669 2, zc BK669 3⟩ (fun hHeld => ?_)
     clear hK K
     refine norm_ (a' := ?_) ?_ ?_
     rotate_left
     ·
      show Act.put _ (some 14) _ = _
      simp only [Act.put, List.setIfInBounds_toArray, List.set_cons_zero, List.set_cons_succ, i64_w, i32_w]; rfl
     refine pure_ (i := 5) (N := some 9) (v := ?_) (a' := ?_) #[true, true, true, true, true, true, false, false, true, false, false] rfl rfl (any_of HT_.out (by kernel_rfl)) (fun _ _ _ h => h) (Or.inl ⟨by rfl, ?_⟩) ?_ ?_
     rotate_left
     ·
      intro w'
      go_simp
      with_reducible rfl
     rotate_left
     ·
      simp only [Act.put, List.setIfInBounds_toArray, List.set_cons_zero, List.set_cons_succ, i64_w, i32_w]
      rfl
     refine pure_ (i := 6) (N := some 15) (v := ?_) (a' := ?_) #[true, true, true, true, true, true, true, false, true, false, false] rfl rfl (any_of HT_.out (by kernel_rfl)) (fun _ _ _ h => h) (Or.inl ⟨by rfl, ?_⟩) ?_ ?_
     rotate_left
     ·
      intro w'
      go_simp
      with_reducible rfl
     rotate_left
     ·
      simp only [Act.put, List.setIfInBounds_toArray, List.set_cons_zero, List.set_cons_succ, i64_w, i32_w]
      rfl
     refine pure_ (i := 7) (N := some 16) (v := ?_) (a' := ?_) #[true, true, true, true, true, true, true, true, true, false, false] rfl rfl (any_of HT_.out (by kernel_rfl)) (fun _ _ _ h => h) (Or.inl ⟨by rfl, ?_⟩) ?_ ?_
     rotate_left
     ·
      intro w'
      go_simp
      with_reducible rfl
     rotate_left
     ·
      simp only [Act.put, List.setIfInBounds_toArray, List.set_cons_zero, List.set_cons_succ, i64_w, i32_w]
      rfl
     exact norm_ (by simp only [putAll, Act.put, List.setIfInBounds_toArray, List.set_cons_zero, List.set_cons_succ]) (hCont (gb683) _ ⟨hHeld, (zq1 BK668), (zq1 BK669), (zq1 BK683), GW683.out, GE683.out, NB668_683.out, NB683_668.out, NB669_683.out, NB683_669.out, (z10_1 HB)⟩)
   rintro gb683 w19 ⟨hS_, h0_, h1_, h2_, h3_, h4_, h5_, h6_, h7_, h8_, h9_⟩
   have n0_ : Aside0 (w19.heap[gb668]? = some (.cells #[.int .i64 a0_0, .int .i64 a0_1, .int .i64 a0_2, .int .i64 a0_3] 25 (0, 0))) := ⟨h0_⟩
   have n1_ : Aside0 (w19.heap[gb669]? = some (.cells #[.int .i64 a1_0, .int .i64 a1_1, .int .i64 a1_2, .int .i64 a1_3] 25 (0, 0))) := ⟨h1_⟩
   have BK683 : Aside0 (w19.heap[gb683]? = some (.cells #[.int .i64 0, .int .i64 0, .int .i64 0, .int .i64 0] 29 (0, 0))) := ⟨h2_⟩
   have GW683 : Aside0 (w.heap.size ≤ gb683) := ⟨h3_⟩
   have GE683 : Aside0 (w.heap.size ≤ gb683) := ⟨h4_⟩
   have NB668_683 : Aside0 (gb668 ≠ gb683) := ⟨h5_⟩
   have NB683_668 : Aside0 (gb683 ≠ gb668) := ⟨h6_⟩
   have NB669_683 : Aside0 (gb669 ≠ gb683) := ⟨h7_⟩
   have NB683_669 : Aside0 (gb683 ≠ gb669) := ⟨h8_⟩
   have n9_ : Aside0 (Below w.heap.size w w19) := ⟨h9_⟩
   clear BK668 BK669 HB h0_ h1_ h2_ h3_ h4_ h5_ h6_ h7_ h8_ h9_
   have BK668 := n0_; have BK669 := n1_; have HB := n9_
   clear n0_ n1_ n9_
   have hHeld : w19.cell? ⟨gb668, 0, none⟩ = some (.int .i64 a0_0) ∧ w19.cell? ⟨gb668, 1, none⟩ = some (.int .i64 a0_1) ∧ w19.cell? ⟨gb668, 2, none⟩ = some (.int .i64 a0_2) ∧ w19.cell? ⟨gb668, 3, none⟩ = some (.int .i64 a0_3) ∧ w19.cell? ⟨gb669, 0, none⟩ = some (.int .i64 a1_0) ∧ w19.cell? ⟨gb669, 1, none⟩ = some (.int .i64 a1_1) ∧ w19.cell? ⟨gb669, 2, none⟩ = some (.int .i64 a1_2) ∧ w19.cell? ⟨gb669, 3, none⟩ = some (.int .i64 a1_3) := hS_
   refine norm_ (a' := ?_) ?_ ?_
   rotate_left
   ·
    simp only [putAll, Act.put, List.setIfInBounds_toArray, List.set_cons_zero, List.set_cons_succ]
    rfl
   refine one_ (i := 9) (N := none) #[true, true, true, true, true, true, true, true, true, true, false] rfl rfl (one_of HT_.out (by kernel_rfl)) (by decide) (fun K hK => ?_)
   have hs20 : w19.cell? ⟨gb683, 0, none⟩ = some (.int .i64 0) := zc BK683 0
   have hfs20 := blk_frozen BK683.out 0
   have hns20_0 := NB668_683.out
   have hns20_1 := NB669_683.out
   have hms20_0 := NB683_668.out
   have hms20_1 := NB683_669.out
   have hs21 : w19.cell? ⟨gb683, 1, none⟩ = some (.int .i64 0) := zc BK683 1
   have hfs21 := blk_frozen BK683.out 1
   have hns21_0 := NB668_683.out
   have hns21_1 := NB669_683.out
   have hms21_0 := NB683_668.out
   have hms21_1 := NB683_669.out
   have hs22 : w19.cell? ⟨gb683, 2, none⟩ = some (.int .i64 0) := zc BK683 2
   have hfs22 := blk_frozen BK683.out 2
   have hns22_0 := NB668_683.out
   have hns22_1 := NB669_683.out
   have hms22_0 := NB683_668.out
   have hms22_1 := NB683_669.out
   have hs23 : w19.cell? ⟨gb683, 3, none⟩ = some (.int .i64 0) := zc BK683 3
   have hfs23 := blk_frozen BK683.out 3
   have hns23_0 := NB668_683.out
   have hns23_1 := NB669_683.out
   have hms23_0 := NB683_668.out
   have hms23_1 := NB683_669.out
   refine skip_ (w1 := ?_) (by rfl) rfl ?_ ?_
   rotate_left
   ·
    go_simp
    rfl
   refine hK.out _ _ ⟨((cell_far (p := ⟨gb683, _, none⟩) NB668_683.out _).trans (((cell_far (p := ⟨gb683, _, none⟩) NB668_683.out _).trans (((cell_far (p := ⟨gb683, _, none⟩) NB668_683.out _).trans (((cell_far (p := ⟨gb683, _, none⟩) NB668_683.out _).trans (hHeld.1)))))))), ((cell_far (p := ⟨gb683, _, none⟩) NB668_683.out _).trans (((cell_far (p := ⟨gb683, _, none⟩) NB668_683.out _).trans (((cell_far (p := ⟨gb683, _, none⟩) NB668_683.out _).trans (((cell_far (p := ⟨gb683, _, none⟩) NB668_683.out _).trans (hHeld.2.1)))))))), ((cell_far (p := ⟨gb683, _, none⟩) NB668_683.out _).trans (((cell_far (p := ⟨gb683, _, none⟩) NB668_683.out _).trans (((cell_far (p := ⟨gb683, _, none⟩) NB668_683.out _).trans (((cell_far (p := ⟨gb683, _, none⟩) NB668_683.out _).trans (hHeld.2.2.1)))))))), ((cell_far (p := ⟨gb683, _, none⟩) NB668_683.out _).trans (((cell_far (p := ⟨gb683, _, none⟩) NB668_683.out _).trans (((cell_far (p := ⟨gb683, _, none⟩) NB668_683.out _).trans (((cell_far (p := ⟨gb683, _, none⟩) NB668_683.out _).trans (hHeld.2.2.2.1)))))))), ((cell_far (p := ⟨gb683, _, none⟩) NB669_683.out _).trans (((cell_far (p := ⟨gb683, _, none⟩) NB669_683.out _).trans (((cell_far (p := ⟨gb683, _, none⟩) NB669_683.out _).trans (((cell_far (p := ⟨gb683, _, none⟩) NB669_683.out _).trans (hHeld.2.2.2.2.1)))))))), ((cell_far (p := ⟨gb683, _, none⟩) NB669_683.out _).trans (((cell_far (p := ⟨gb683, _, none⟩) NB669_683.out _).trans (((cell_far (p := ⟨gb683, _, none⟩) NB669_683.out _).trans (((cell_far (p := ⟨gb683, _, none⟩) NB669_683.out _).trans (hHeld.2.2.2.2.2.1)))))))), ((cell_far (p := ⟨gb683, _, none⟩) NB669_683.out _).trans (((cell_far (p := ⟨gb683, _, none⟩) NB669_683.out _).trans (((cell_far (p := ⟨gb683, _, none⟩) NB669_683.out _).trans (((cell_far (p := ⟨gb683, _, none⟩) NB669_683.out _).trans (hHeld.2.2.2.2.2.2.1)))))))), ((cell_far (p := ⟨gb683, _, none⟩) NB669_683.out _).trans (((cell_far (p := ⟨gb683, _, none⟩) NB669_683.out _).trans (((cell_far (p := ⟨gb683, _, none⟩) NB669_683.out _).trans (((cell_far (p := ⟨gb683, _, none⟩) NB669_683.out _).trans (hHeld.2.2.2.2.2.2.2))))))))⟩ (fun hHeld => ?_)
   clear hK K
   refine pure_ (i := 10) (N := some 6) (v := ?_) (a' := ?_) #[true, true, true, true, true, true, true, true, true, true, true] rfl rfl (any_of HT_.out (by kernel_rfl)) (fun _ _ _ h => h) (Or.inl ⟨by rfl, ?_⟩) ?_ ?_
   rotate_left
   ·
    intro w'
    go_simp
    with_reducible rfl
   rotate_left
   ·
    simp only [Act.put, List.setIfInBounds_toArray, List.set_cons_zero, List.set_cons_succ, i64_w, i32_w]
    rfl
   refine done_ (done_of HT_.out (by kernel_rfl)) ?_
   try go_wp2
   have n0_ : Aside0 (((((w19.setCell ⟨gb683, 0, none⟩ (.int .i64 t678)).setCell ⟨gb683, 1, none⟩ (.int .i64 t679)).setCell ⟨gb683, 2, none⟩ (.int .i64 t680)).setCell ⟨gb683, 3, none⟩ (.int .i64 t681)).heap[gb668]? = some (.cells #[.int .i64 a0_0, .int .i64 a0_1, .int .i64 a0_2, .int .i64 a0_3] 25 (0, 0))) := ⟨zq5 BK668⟩
   have n1_ : Aside0 (((((w19.setCell ⟨gb683, 0, none⟩ (.int .i64 t678)).setCell ⟨gb683, 1, none⟩ (.int .i64 t679)).setCell ⟨gb683, 2, none⟩ (.int .i64 t680)).setCell ⟨gb683, 3, none⟩ (.int .i64 t681)).heap[gb669]? = some (.cells #[.int .i64 a1_0, .int .i64 a1_1, .int .i64 a1_2, .int .i64 a1_3] 25 (0, 0))) := ⟨zq5 BK669⟩
   have n2_ : Aside0 (((((w19.setCell ⟨gb683, 0, none⟩ (.int .i64 t678)).setCell ⟨gb683, 1, none⟩ (.int .i64 t679)).setCell ⟨gb683, 2, none⟩ (.int .i64 t680)).setCell ⟨gb683, 3, none⟩ (.int .i64 t681)).heap[gb683]? = some (.cells #[.int .i64 t678, .int .i64 t679, .int .i64 t680, .int .i64 t681] 29 (0, 0))) := ⟨by (with_reducible repeat (first | refine blk_drewN ?_ _ | refine blk_drew ?_ | refine blk_alloc ?_ _)); refine blk_put (cs := #[.int .i64 t678, .int .i64 t679, .int .i64 t680, .int .i64 0]) ?_ 3 _ rfl; (with_reducible repeat (first | refine blk_drewN ?_ _ | refine blk_drew ?_ | refine blk_alloc ?_ _)); refine blk_put (cs := #[.int .i64 t678, .int .i64 t679, .int .i64 0, .int .i64 0]) ?_ 2 _ rfl; (with_reducible repeat (first | refine blk_drewN ?_ _ | refine blk_drew ?_ | refine blk_alloc ?_ _)); refine blk_put (cs := #[.int .i64 t678, .int .i64 0, .int .i64 0, .int .i64 0]) ?_ 1 _ rfl; (with_reducible repeat (first | refine blk_drewN ?_ _ | refine blk_drew ?_ | refine blk_alloc ?_ _)); refine blk_put (cs := #[.int .i64 0, .int .i64 0, .int .i64 0, .int .i64 0]) ?_ 0 _ rfl; (with_reducible repeat (first | refine blk_drewN ?_ _ | refine blk_drew ?_ | refine blk_alloc ?_ _)); exact BK683.out⟩
   have n3_ : Aside0 (Below w.heap.size w ((((w19.setCell ⟨gb683, 0, none⟩ (.int .i64 t678)).setCell ⟨gb683, 1, none⟩ (.int .i64 t679)).setCell ⟨gb683, 2, none⟩ (.int .i64 t680)).setCell ⟨gb683, 3, none⟩ (.int .i64 t681))) := ⟨(z10_1 HB)⟩
   (try clear BK668)
   (try clear BK669)
   (try clear BK683)
   (try clear HB)
   generalize ((((w19.setCell ⟨gb683, 0, none⟩ (.int .i64 t678)).setCell ⟨gb683, 1, none⟩ (.int .i64 t679)).setCell ⟨gb683, 2, none⟩ (.int .i64 t680)).setCell ⟨gb683, 3, none⟩ (.int .i64 t681)) = w24 at n0_ n1_ n2_ n3_ ⊢
   have BK668 := n0_; have BK669 := n1_; have BK683 := n2_; have HB := n3_
   clear n0_ n1_ n2_ n3_
   have n0_ := Aside0.mk (blk_drew BK668.out)
   have n1_ := Aside0.mk (blk_drew BK669.out)
   have n2_ := Aside0.mk (blk_drew BK683.out)
   have n3_ := Aside0.mk (below_drew1 HB.out)
   clear BK668 BK669 BK683 HB
   have BK668 := n0_; have BK669 := n1_; have BK683 := n2_; have HB := n3_
   clear n0_ n1_ n2_ n3_
   refine start_ (n := 11) (S := fun w' => w'.cell? ⟨gb668, 0, none⟩ = some (.int .i64 a0_0) ∧ w'.cell? ⟨gb668, 1, none⟩ = some (.int .i64 a0_1) ∧ w'.cell? ⟨gb668, 2, none⟩ = some (.int .i64 a0_2) ∧ w'.cell? ⟨gb668, 3, none⟩ = some (.int .i64 a0_3) ∧ w'.cell? ⟨gb669, 0, none⟩ = some (.int .i64 a1_0) ∧ w'.cell? ⟨gb669, 1, none⟩ = some (.int .i64 a1_1) ∧ w'.cell? ⟨gb669, 2, none⟩ = some (.int .i64 a1_2) ∧ w'.cell? ⟨gb669, 3, none⟩ = some (.int .i64 a1_3)) (ds := []) #[false, false, false, false, false, false, false, false, false, false, false] (by kernel_rfl) rfl rfl ⟨zc BK668 0, zc BK668 1, zc BK668 2, zc BK668 3, zc BK669 0, zc BK669 1, zc BK669 2, zc BK669 3⟩ (fun hHeld => ?_); refine with_tabW laws_FnExactAddIntervals.tab2 laws_FnExactAddIntervals.bits2 (fun HT_ HW_ => ?_)
   generalize w24.drew = w25 at BK668 BK669 BK683 HB hHeld ⊢
   refine take_ (i := 0) (N := some 18) (v := ?_) (a' := ?_) #[true, false, false, false, false, false, false, false, false, false, false] rfl rfl (take_ofW HT_.out HW_.out (by kernel_rfl)) (fun _ _ _ h => h) (Or.inl ⟨by rfl, ?_⟩) hHeld ?_ ?_
   rotate_left
   ·
    rintro w' ⟨s0, s1, s2, s3, s4, s5, s6, s7⟩
    go_simp
    with_reducible rfl
   rotate_left
   ·
    simp only [Act.put, List.setIfInBounds_toArray, List.set_cons_zero, List.set_cons_succ, i64_w, i32_w]
    rfl
   refine take_ (i := 2) (N := some 20) (v := ?_) (a' := ?_) #[true, false, true, false, false, false, false, false, false, false, false] rfl rfl (take_ofW HT_.out HW_.out (by kernel_rfl)) (fun _ _ _ h => h) (Or.inl ⟨by rfl, ?_⟩) hHeld ?_ ?_
   rotate_left
   ·
    rintro w' ⟨s0, s1, s2, s3, s4, s5, s6, s7⟩
    go_simp
    with_reducible rfl
   rotate_left
   ·
    simp only [Act.put, List.setIfInBounds_toArray, List.set_cons_zero, List.set_cons_succ, i64_w, i32_w]
    rfl
   refine join_ (σ := Nat) 2 #[true, true, true, true, true, true, true, true, true, false, false] (fun s_ => [(19, .agg #[.int .i64 t684, .int .i64 t685, .int .i64 t686, .int .i64 t687]), (21, .agg #[.int .i64 t688, .int .i64 t689, .int .i64 t690, .int .i64 t691]), (22, .tuple #[.agg #[.int .i64 t692, .int .i64 t693, .int .i64 t694, .int .i64 t695], .bool t696]), (7, .pointer (some ⟨s_, 0, none⟩)), (17, .tuple #[.agg #[.int .i64 t692, .int .i64 t693, .int .i64 t694, .int .i64 t695], .bool t696]), (23, .agg #[.int .i64 t692, .int .i64 t693, .int .i64 t694, .int .i64 t695]), (24, .bool t696)]) (fun s_ w' => (w'.cell? ⟨gb668, 0, none⟩ = some (.int .i64 a0_0) ∧ w'.cell? ⟨gb668, 1, none⟩ = some (.int .i64 a0_1) ∧ w'.cell? ⟨gb668, 2, none⟩ = some (.int .i64 a0_2) ∧ w'.cell? ⟨gb668, 3, none⟩ = some (.int .i64 a0_3) ∧ w'.cell? ⟨gb669, 0, none⟩ = some (.int .i64 a1_0) ∧ w'.cell? ⟨gb669, 1, none⟩ = some (.int .i64 a1_1) ∧ w'.cell? ⟨gb669, 2, none⟩ = some (.int .i64 a1_2) ∧ w'.cell? ⟨gb669, 3, none⟩ = some (.int .i64 a1_3)) ∧ (w'.heap[gb668]? = some (.cells #[.int .i64 a0_0, .int .i64 a0_1, .int .i64 a0_2, .int .i64 a0_3] 25 (0, 0))) ∧ (w'.heap[gb669]? = some (.cells #[.int .i64 a1_0, .int .i64 a1_1, .int .i64 a1_2, .int .i64 a1_3] 25 (0, 0))) ∧ (w'.heap[gb683]? = some (.cells #[.int .i64 t678, .int .i64 t679, .int .i64 t680, .int .i64 t681] 29 (0, 0))) ∧ (w'.heap[s_]? = some (.cells #[.int .i64 0, .int .i64 0, .int .i64 0, .int .i64 0] 29 (0, 0))) ∧ (w.heap.size ≤ s_) ∧ (w.heap.size ≤ s_) ∧ (gb668 ≠ s_) ∧ (s_ ≠ gb668) ∧ (gb669 ≠ s_) ∧ (s_ ≠ gb669) ∧ (gb683 ≠ s_) ∧ (s_ ≠ gb683) ∧ (Below w.heap.size w w')) ?_ ?_
   rotate_left
   ·
    intro hCont
    refine two_ (i := 1) (j := 8) (Ni := some 19) (Nj := some 7) #[true, true, true, false, false, false, false, false, false, false, false] #[true, false, true, false, false, false, false, false, true, false, false] rfl rfl rfl rfl (two_of HT_.out (by kernel_rfl)) (by decide) (by decide) (fun K hK => ?_) (fun K hK => ?_)
    ·
     refine goes_ Try.func16 (by kernel_rfl) rfl #[.agg #[.int .i64 a0_0, .int .i64 a0_1, .int .i64 a0_2, .int .i64 a0_3]] (by rfl) rfl rfl (by (try simp only [List.map_toArray, List.map_cons, List.map_nil]); first | done | rfl | (simp only [List.length_drop, List.length_take]; rfl)) ?_
     with_reducible refine (laws_toInterval.calls a0_0 a0_1 a0_2 a0_3 t684 t685 t686 t687 _ A6.out).mono ?_
     rintro e w26 ⟨rfl, hb⟩
     refine ⟨_, rfl, ?_⟩
     have n0_ := Aside0.mk (zbb BK668 hb)
     have n1_ := Aside0.mk (zbb BK669 hb)
     have n2_ := Aside0.mk (zbb BK683 hb)
     have n3_ := Aside0.mk (below_step (z10_1 HB) hb)
     clear BK668 BK669 BK683 HB
     have BK668 := n0_; have BK669 := n1_; have BK683 := n2_; have HB := n3_
     clear n0_ n1_ n2_ n3_
     (try clear hb)
     (try clear hb2)
     (try clear hk)
     (try clear hi)
     refine hK.out _ _ ⟨zc BK668 0, zc BK668 1, zc BK668 2, zc BK668 3, zc BK669 0, zc BK669 1, zc BK669 2, zc BK669 3⟩ (fun hHeld => ?_)
     clear hK K
     refine norm_ (a' := ?_) ?_ ?_
     rotate_left
     ·
      show Act.put _ (some 19) _ = _
      simp only [Act.put, List.setIfInBounds_toArray, List.set_cons_zero, List.set_cons_succ, i64_w, i32_w]; rfl
     refine two_ (i := 3) (j := 8) (Ni := some 21) (Nj := some 7) #[true, true, true, true, false, false, false, false, false, false, false] #[true, true, true, false, false, false, false, false, true, false, false] rfl rfl rfl rfl (two_of HT_.out (by kernel_rfl)) (by decide) (by decide) (fun K hK => ?_) (fun K hK => ?_)
     ·
      refine goes_ Try.func16 (by kernel_rfl) rfl #[.agg #[.int .i64 a1_0, .int .i64 a1_1, .int .i64 a1_2, .int .i64 a1_3]] (by rfl) rfl rfl (by (try simp only [List.map_toArray, List.map_cons, List.map_nil]); first | done | rfl | (simp only [List.length_drop, List.length_take]; rfl)) ?_
      with_reducible refine (laws_toInterval.calls a1_0 a1_1 a1_2 a1_3 t688 t689 t690 t691 _ A7.out).mono ?_
      rintro e w27 ⟨rfl, hb⟩
      refine ⟨_, rfl, ?_⟩
      have n0_ := Aside0.mk (zbb BK668 hb)
      have n1_ := Aside0.mk (zbb BK669 hb)
      have n2_ := Aside0.mk (zbb BK683 hb)
      have n3_ := Aside0.mk (below_step (z10_1 HB) hb)
      clear BK668 BK669 BK683 HB
      have BK668 := n0_; have BK669 := n1_; have BK683 := n2_; have HB := n3_
      clear n0_ n1_ n2_ n3_
      (try clear hb)
      (try clear hb2)
      (try clear hk)
      (try clear hi)
      refine hK.out _ _ ⟨zc BK668 0, zc BK668 1, zc BK668 2, zc BK668 3, zc BK669 0, zc BK669 1, zc BK669 2, zc BK669 3⟩ (fun hHeld => ?_)
      clear hK K
      refine norm_ (a' := ?_) ?_ ?_
      rotate_left
      ·
       show Act.put _ (some 21) _ = _
       simp only [Act.put, List.setIfInBounds_toArray, List.set_cons_zero, List.set_cons_succ, i64_w, i32_w]; rfl
      refine two_ (i := 4) (j := 8) (Ni := some 22) (Nj := some 7) #[true, true, true, true, true, false, false, false, false, false, false] #[true, true, true, true, false, false, false, false, true, false, false] rfl rfl rfl rfl (two_of HT_.out (by kernel_rfl)) (by decide) (by decide) (fun K hK => ?_) (fun K hK => ?_)
      ·
       refine goes_ Try.func33 (by kernel_rfl) rfl #[.agg #[.int .i64 t684, .int .i64 t685, .int .i64 t686, .int .i64 t687], .agg #[.int .i64 t688, .int .i64 t689, .int .i64 t690, .int .i64 t691]] (by rfl) rfl rfl (by (try simp only [List.map_toArray, List.map_cons, List.map_nil]); first | done | rfl | (simp only [List.length_drop, List.length_take]; rfl)) ?_
       with_reducible refine (impl_AddIntervals.calls k t684 t685 t686 t687 t688 t689 t690 t691 t692 t693 t694 t695 t696 _ A8.out).mono ?_
       rintro e w28 ⟨rfl, hb⟩
       refine ⟨_, rfl, ?_⟩
       have n0_ := Aside0.mk (zbb BK668 hb)
       have n1_ := Aside0.mk (zbb BK669 hb)
       have n2_ := Aside0.mk (zbb BK683 hb)
       have n3_ := Aside0.mk (below_step (z10_1 HB) hb)
       clear BK668 BK669 BK683 HB
       have BK668 := n0_; have BK669 := n1_; have BK683 := n2_; have HB := n3_
       clear n0_ n1_ n2_ n3_
       (try clear hb)
       (try clear hb2)
       (try clear hk)
       (try clear hi)
       refine hK.out _ _ ⟨zc BK668 0, zc BK668 1, zc BK668 2, zc BK668 3, zc BK669 0, zc BK669 1, zc BK669 2, zc BK669 3⟩ (fun hHeld => ?_)
       clear hK K
       refine norm_ (a' := ?_) ?_ ?_
       rotate_left
       ·
        show Act.put _ (some 22) _ = _
        simp only [Act.put, List.setIfInBounds_toArray, List.set_cons_zero, List.set_cons_succ, i64_w, i32_w]; rfl
       refine pure_ (i := 5) (N := some 17) (v := ?_) (a' := ?_) #[true, true, true, true, true, true, false, false, false, false, false] rfl rfl (any_of HT_.out (by kernel_rfl)) (fun _ _ _ h => h) (Or.inl ⟨by rfl, ?_⟩) ?_ ?_
       rotate_left
       ·
        intro w'
        go_simp
        with_reducible rfl
       rotate_left
       ·
        simp only [Act.put, List.setIfInBounds_toArray, List.set_cons_zero, List.set_cons_succ, i64_w, i32_w]
        rfl
       refine pure_ (i := 6) (N := some 23) (v := ?_) (a' := ?_) #[true, true, true, true, true, true, true, false, false, false, false] rfl rfl (any_of HT_.out (by kernel_rfl)) (fun _ _ _ h => h) (Or.inl ⟨by rfl, ?_⟩) ?_ ?_
       rotate_left
       ·
        intro w'
        go_simp
        with_reducible rfl
       rotate_left
       ·
        simp only [Act.put, List.setIfInBounds_toArray, List.set_cons_zero, List.set_cons_succ, i64_w, i32_w]
        rfl
       refine pure_ (i := 7) (N := some 24) (v := ?_) (a' := ?_) #[true, true, true, true, true, true, true, true, false, false, false] rfl rfl (any_of HT_.out (by kernel_rfl)) (fun _ _ _ h => h) (Or.inl ⟨by rfl, ?_⟩) ?_ ?_
       rotate_left
       ·
        intro w'
        go_simp
        with_reducible rfl
       rotate_left
       ·
        simp only [Act.put, List.setIfInBounds_toArray, List.set_cons_zero, List.set_cons_succ, i64_w, i32_w]
        rfl
       refine one_ (i := 8) (N := some 7) #[true, true, true, true, true, true, true, true, true, false, false] rfl rfl (one_of HT_.out (by kernel_rfl)) (by decide) (fun K hK => ?_)
       refine box_step ?hg (N := 7) ?hd (cs := #[.int .i64 0, .int .i64 0, .int .i64 0, .int .i64 0]) (t := 29) ?hr ?_; (case hd => rfl); (case hg => rfl); (case hr => first | (go_simp; done) | (go_simp; rfl))
       intro gb697 hg w29 hbox hb
       have n0_ := Aside0.mk (zbb BK668 hb)
       have n1_ := Aside0.mk (zbb BK669 hb)
       have n2_ := Aside0.mk (zbb BK683 hb)
       have n3_ := Aside0.mk (below_step (z10_1 HB) hb)
       have BK697 := Aside0.mk (hbox)
       have GW697 := Aside0.mk ((by rw [hg]; exact (below_size (z10_1 HB)) : w.heap.size ≤ gb697))
       have GE697 := Aside0.mk ((by rw [hg]; exact (below_size (z10_1 HB)) : w.heap.size ≤ gb697))
       have NB668_697 := Aside0.mk (zlt BK668 hg)
       have NB697_668 := Aside0.mk (zgt BK668 hg)
       have NB669_697 := Aside0.mk (zlt BK669 hg)
       have NB697_669 := Aside0.mk (zgt BK669 hg)
       have NB683_697 := Aside0.mk (zlt BK683 hg)
       have NB697_683 := Aside0.mk (zgt BK683 hg)
       clear BK668 BK669 BK683 HB
       have BK668 := n0_; have BK669 := n1_; have BK683 := n2_; have HB := n3_
       clear n0_ n1_ n2_ n3_ hb hbox hg
       refine hK.out _ _ ⟨zc BK668 0, zc BK668 1, zc BK668 2, zc BK668 3, zc BK669 0, zc BK669 1, zc BK669 2, zc BK669 3⟩ (fun hHeld => ?_)
       clear hK K
       refine norm_ (a' := ?_) ?_ ?_
       rotate_left
       ·
        show Act.put _ (some 7) _ = _
        simp only [Act.put, List.setIfInBounds_toArray, List.set_cons_zero, List.set_cons_succ, i64_w, i32_w]; rfl
       exact norm_ (by simp only [putAll, Act.put, List.setIfInBounds_toArray, List.set_cons_zero, List.set_cons_succ]) (hCont (gb697) _ ⟨hHeld, (zq1 BK668), (zq1 BK669), (zq1 BK683), (zq1 BK697), GW697.out, GE697.out, NB668_697.out, NB697_668.out, NB669_697.out, NB697_669.out, NB683_697.out, NB697_683.out, (z10_1 HB)⟩)
      ·
       refine box_step ?hg (N := 7) ?hd (cs := #[.int .i64 0, .int .i64 0, .int .i64 0, .int .i64 0]) (t := 29) ?hr ?_; (case hd => rfl); (case hg => rfl); (case hr => first | (go_simp; done) | (go_simp; rfl))
       intro gb697 hg w28 hbox hb
       have n0_ := Aside0.mk (zbb BK668 hb)
       have n1_ := Aside0.mk (zbb BK669 hb)
       have n2_ := Aside0.mk (zbb BK683 hb)
       have n3_ := Aside0.mk (below_step (z10_1 HB) hb)
       have BK697 := Aside0.mk (hbox)
       have GW697 := Aside0.mk ((by rw [hg]; exact (below_size (z10_1 HB)) : w.heap.size ≤ gb697))
       have GE697 := Aside0.mk ((by rw [hg]; exact (below_size (z10_1 HB)) : w.heap.size ≤ gb697))
       have NB668_697 := Aside0.mk (zlt BK668 hg)
       have NB697_668 := Aside0.mk (zgt BK668 hg)
       have NB669_697 := Aside0.mk (zlt BK669 hg)
       have NB697_669 := Aside0.mk (zgt BK669 hg)
       have NB683_697 := Aside0.mk (zlt BK683 hg)
       have NB697_683 := Aside0.mk (zgt BK683 hg)
       clear BK668 BK669 BK683 HB
       have BK668 := n0_; have BK669 := n1_; have BK683 := n2_; have HB := n3_
       clear n0_ n1_ n2_ n3_ hb hbox hg
       refine hK.out _ _ ⟨zc BK668 0, zc BK668 1, zc BK668 2, zc BK668 3, zc BK669 0, zc BK669 1, zc BK669 2, zc BK669 3⟩ (fun hHeld => ?_)
       clear hK K
       refine norm_ (a' := ?_) ?_ ?_
       rotate_left
       ·
        show Act.put _ (some 7) _ = _
        simp only [Act.put, List.setIfInBounds_toArray, List.set_cons_zero, List.set_cons_succ, i64_w, i32_w]; rfl
       refine one_ (i := 4) (N := some 22) #[true, true, true, true, true, false, false, false, true, false, false] rfl rfl (one_of HT_.out (by kernel_rfl)) (by decide) (fun K hK => ?_)
       refine goes_ Try.func33 (by kernel_rfl) rfl #[.agg #[.int .i64 t684, .int .i64 t685, .int .i64 t686, .int .i64 t687], .agg #[.int .i64 t688, .int .i64 t689, .int .i64 t690, .int .i64 t691]] (by rfl) rfl rfl (by (try simp only [List.map_toArray, List.map_cons, List.map_nil]); first | done | rfl | (simp only [List.length_drop, List.length_take]; rfl)) ?_
       with_reducible refine (impl_AddIntervals.calls k t684 t685 t686 t687 t688 t689 t690 t691 t692 t693 t694 t695 t696 _ A8.out).mono ?_
       rintro e w29 ⟨rfl, hb⟩
       refine ⟨_, rfl, ?_⟩
       have n0_ := Aside0.mk (zbb BK668 hb)
       have n1_ := Aside0.mk (zbb BK669 hb)
       have n2_ := Aside0.mk (zbb BK683 hb)
       have n3_ := Aside0.mk (zbb BK697 hb)
       have n4_ := Aside0.mk (below_step (z10_1 HB) hb)
       clear BK668 BK669 BK683 BK697 HB
       have BK668 := n0_; have BK669 := n1_; have BK683 := n2_; have BK697 := n3_; have HB := n4_
       clear n0_ n1_ n2_ n3_ n4_
       (try clear hb)
       (try clear hb2)
       (try clear hk)
       (try clear hi)
       refine hK.out _ _ ⟨zc BK668 0, zc BK668 1, zc BK668 2, zc BK668 3, zc BK669 0, zc BK669 1, zc BK669 2, zc BK669 3⟩ (fun hHeld => ?_)
       clear hK K
       refine norm_ (a' := ?_) ?_ ?_
       rotate_left
       ·
        show Act.put _ (some 22) _ = _
        simp only [Act.put, List.setIfInBounds_toArray, List.set_cons_zero, List.set_cons_succ, i64_w, i32_w]; rfl
       refine pure_ (i := 5) (N := some 17) (v := ?_) (a' := ?_) #[true, true, true, true, true, true, false, false, true, false, false] rfl rfl (any_of HT_.out (by kernel_rfl)) (fun _ _ _ h => h) (Or.inl ⟨by rfl, ?_⟩) ?_ ?_
       rotate_left
       ·
        intro w'
        go_simp
        with_reducible rfl
       rotate_left
       ·
        simp only [Act.put, List.setIfInBounds_toArray, List.set_cons_zero, List.set_cons_succ, i64_w, i32_w]
        rfl
       refine pure_ (i := 6) (N := some 23) (v := ?_) (a' := ?_) #[true, true, true, true, true, true, true, false, true, false, false] rfl rfl (any_of HT_.out (by kernel_rfl)) (fun _ _ _ h => h) (Or.inl ⟨by rfl, ?_⟩) ?_ ?_
       rotate_left
       ·
        intro w'
        go_simp
        with_reducible rfl
       rotate_left
       ·
        simp only [Act.put, List.setIfInBounds_toArray, List.set_cons_zero, List.set_cons_succ, i64_w, i32_w]
        rfl
       refine pure_ (i := 7) (N := some 24) (v := ?_) (a' := ?_) #[true, true, true, true, true, true, true, true, true, false, false] rfl rfl (any_of HT_.out (by kernel_rfl)) (fun _ _ _ h => h) (Or.inl ⟨by rfl, ?_⟩) ?_ ?_
       rotate_left
       ·
        intro w'
        go_simp
        with_reducible rfl
       rotate_left
       ·
        simp only [Act.put, List.setIfInBounds_toArray, List.set_cons_zero, List.set_cons_succ, i64_w, i32_w]
        rfl
       exact norm_ (by simp only [putAll, Act.put, List.setIfInBounds_toArray, List.set_cons_zero, List.set_cons_succ]) (hCont (gb697) _ ⟨hHeld, (zq1 BK668), (zq1 BK669), (zq1 BK683), (zq1 BK697), GW697.out, GE697.out, NB668_697.out, NB697_668.out, NB669_697.out, NB697_669.out, NB683_697.out, NB697_683.out, (z10_1 HB)⟩)
     ·
      refine box_step ?hg (N := 7) ?hd (cs := #[.int .i64 0, .int .i64 0, .int .i64 0, .int .i64 0]) (t := 29) ?hr ?_; (case hd => rfl); (case hg => rfl); (case hr => first | (go_simp; done) | (go_simp; rfl))
      intro gb697 hg w27 hbox hb
      have n0_ := Aside0.mk (zbb BK668 hb)
      have n1_ := Aside0.mk (zbb BK669 hb)
      have n2_ := Aside0.mk (zbb BK683 hb)
      have n3_ := Aside0.mk (below_step (z10_1 HB) hb)
      have BK697 := Aside0.mk (hbox)
      have GW697 := Aside0.mk ((by rw [hg]; exact (below_size (z10_1 HB)) : w.heap.size ≤ gb697))
      have GE697 := Aside0.mk ((by rw [hg]; exact (below_size (z10_1 HB)) : w.heap.size ≤ gb697))
      have NB668_697 := Aside0.mk (zlt BK668 hg)
      have NB697_668 := Aside0.mk (zgt BK668 hg)
      have NB669_697 := Aside0.mk (zlt BK669 hg)
      have NB697_669 := Aside0.mk (zgt BK669 hg)
      have NB683_697 := Aside0.mk (zlt BK683 hg)
      have NB697_683 := Aside0.mk (zgt BK683 hg)
      clear BK668 BK669 BK683 HB
      have BK668 := n0_; have BK669 := n1_; have BK683 := n2_; have HB := n3_
      clear n0_ n1_ n2_ n3_ hb hbox hg
      refine hK.out _ _ ⟨zc BK668 0, zc BK668 1, zc BK668 2, zc BK668 3, zc BK669 0, zc BK669 1, zc BK669 2, zc BK669 3⟩ (fun hHeld => ?_)
      clear hK K
      refine norm_ (a' := ?_) ?_ ?_
      rotate_left
      ·
       show Act.put _ (some 7) _ = _
       simp only [Act.put, List.setIfInBounds_toArray, List.set_cons_zero, List.set_cons_succ, i64_w, i32_w]; rfl
      refine one_ (i := 3) (N := some 21) #[true, true, true, true, false, false, false, false, true, false, false] rfl rfl (one_of HT_.out (by kernel_rfl)) (by decide) (fun K hK => ?_)
      refine goes_ Try.func16 (by kernel_rfl) rfl #[.agg #[.int .i64 a1_0, .int .i64 a1_1, .int .i64 a1_2, .int .i64 a1_3]] (by rfl) rfl rfl (by (try simp only [List.map_toArray, List.map_cons, List.map_nil]); first | done | rfl | (simp only [List.length_drop, List.length_take]; rfl)) ?_
      with_reducible refine (laws_toInterval.calls a1_0 a1_1 a1_2 a1_3 t688 t689 t690 t691 _ A7.out).mono ?_
      rintro e w28 ⟨rfl, hb⟩
      refine ⟨_, rfl, ?_⟩
      have n0_ := Aside0.mk (zbb BK668 hb)
      have n1_ := Aside0.mk (zbb BK669 hb)
      have n2_ := Aside0.mk (zbb BK683 hb)
      have n3_ := Aside0.mk (zbb BK697 hb)
      have n4_ := Aside0.mk (below_step (z10_1 HB) hb)
      clear BK668 BK669 BK683 BK697 HB
      have BK668 := n0_; have BK669 := n1_; have BK683 := n2_; have BK697 := n3_; have HB := n4_
      clear n0_ n1_ n2_ n3_ n4_
      (try clear hb)
      (try clear hb2)
      (try clear hk)
      (try clear hi)
      refine hK.out _ _ ⟨zc BK668 0, zc BK668 1, zc BK668 2, zc BK668 3, zc BK669 0, zc BK669 1, zc BK669 2, zc BK669 3⟩ (fun hHeld => ?_)
      clear hK K
      refine norm_ (a' := ?_) ?_ ?_
      rotate_left
      ·
       show Act.put _ (some 21) _ = _
       simp only [Act.put, List.setIfInBounds_toArray, List.set_cons_zero, List.set_cons_succ, i64_w, i32_w]; rfl
      refine one_ (i := 4) (N := some 22) #[true, true, true, true, true, false, false, false, true, false, false] rfl rfl (one_of HT_.out (by kernel_rfl)) (by decide) (fun K hK => ?_)
      refine goes_ Try.func33 (by kernel_rfl) rfl #[.agg #[.int .i64 t684, .int .i64 t685, .int .i64 t686, .int .i64 t687], .agg #[.int .i64 t688, .int .i64 t689, .int .i64 t690, .int .i64 t691]] (by rfl) rfl rfl (by (try simp only [List.map_toArray, List.map_cons, List.map_nil]); first | done | rfl | (simp only [List.length_drop, List.length_take]; rfl)) ?_
      with_reducible refine (impl_AddIntervals.calls k t684 t685 t686 t687 t688 t689 t690 t691 t692 t693 t694 t695 t696 _ A8.out).mono ?_
      rintro e w29 ⟨rfl, hb⟩
      refine ⟨_, rfl, ?_⟩
      have n0_ := Aside0.mk (zbb BK668 hb)
      have n1_ := Aside0.mk (zbb BK669 hb)
      have n2_ := Aside0.mk (zbb BK683 hb)
      have n3_ := Aside0.mk (zbb BK697 hb)
      have n4_ := Aside0.mk (below_step (z10_1 HB) hb)
      clear BK668 BK669 BK683 BK697 HB
      have BK668 := n0_; have BK669 := n1_; have BK683 := n2_; have BK697 := n3_; have HB := n4_
      clear n0_ n1_ n2_ n3_ n4_
      (try clear hb)
      (try clear hb2)
      (try clear hk)
      (try clear hi)
      refine hK.out _ _ ⟨zc BK668 0, zc BK668 1, zc BK668 2, zc BK668 3, zc BK669 0, zc BK669 1, zc BK669 2, zc BK669 3⟩ (fun hHeld => ?_)
      clear hK K
      refine norm_ (a' := ?_) ?_ ?_
      rotate_left
      ·
       show Act.put _ (some 22) _ = _
       simp only [Act.put, List.setIfInBounds_toArray, List.set_cons_zero, List.set_cons_succ, i64_w, i32_w]; rfl
      refine pure_ (i := 5) (N := some 17) (v := ?_) (a' := ?_) #[true, true, true, true, true, true, false, false, true, false, false] rfl rfl (any_of HT_.out (by kernel_rfl)) (fun _ _ _ h => h) (Or.inl ⟨by rfl, ?_⟩) ?_ ?_
      rotate_left
      ·
       intro w'
       go_simp
       with_reducible rfl
      rotate_left
      ·
       simp only [Act.put, List.setIfInBounds_toArray, List.set_cons_zero, List.set_cons_succ, i64_w, i32_w]
       rfl
      refine pure_ (i := 6) (N := some 23) (v := ?_) (a' := ?_) #[true, true, true, true, true, true, true, false, true, false, false] rfl rfl (any_of HT_.out (by kernel_rfl)) (fun _ _ _ h => h) (Or.inl ⟨by rfl, ?_⟩) ?_ ?_
      rotate_left
      ·
       intro w'
       go_simp
       with_reducible rfl
      rotate_left
      ·
       simp only [Act.put, List.setIfInBounds_toArray, List.set_cons_zero, List.set_cons_succ, i64_w, i32_w]
       rfl
      refine pure_ (i := 7) (N := some 24) (v := ?_) (a' := ?_) #[true, true, true, true, true, true, true, true, true, false, false] rfl rfl (any_of HT_.out (by kernel_rfl)) (fun _ _ _ h => h) (Or.inl ⟨by rfl, ?_⟩) ?_ ?_
      rotate_left
      ·
       intro w'
       go_simp
       with_reducible rfl
      rotate_left
      ·
       simp only [Act.put, List.setIfInBounds_toArray, List.set_cons_zero, List.set_cons_succ, i64_w, i32_w]
       rfl
      exact norm_ (by simp only [putAll, Act.put, List.setIfInBounds_toArray, List.set_cons_zero, List.set_cons_succ]) (hCont (gb697) _ ⟨hHeld, (zq1 BK668), (zq1 BK669), (zq1 BK683), (zq1 BK697), GW697.out, GE697.out, NB668_697.out, NB697_668.out, NB669_697.out, NB697_669.out, NB683_697.out, NB697_683.out, (z10_1 HB)⟩)
    ·
     refine box_step ?hg (N := 7) ?hd (cs := #[.int .i64 0, .int .i64 0, .int .i64 0, .int .i64 0]) (t := 29) ?hr ?_; (case hd => rfl); (case hg => rfl); (case hr => first | (go_simp; done) | (go_simp; rfl))
     intro gb697 hg w26 hbox hb
     have n0_ := Aside0.mk (zbb BK668 hb)
     have n1_ := Aside0.mk (zbb BK669 hb)
     have n2_ := Aside0.mk (zbb BK683 hb)
     have n3_ := Aside0.mk (below_step (z10_1 HB) hb)
     have BK697 := Aside0.mk (hbox)
     have GW697 := Aside0.mk ((by rw [hg]; exact (below_size (z10_1 HB)) : w.heap.size ≤ gb697))
     have GE697 := Aside0.mk ((by rw [hg]; exact (below_size (z10_1 HB)) : w.heap.size ≤ gb697))
     have NB668_697 := Aside0.mk (zlt BK668 hg)
     have NB697_668 := Aside0.mk (zgt BK668 hg)
     have NB669_697 := Aside0.mk (zlt BK669 hg)
     have NB697_669 := Aside0.mk (zgt BK669 hg)
     have NB683_697 := Aside0.mk (zlt BK683 hg)
     have NB697_683 := Aside0.mk (zgt BK683 hg)
     clear BK668 BK669 BK683 HB
     have BK668 := n0_; have BK669 := n1_; have BK683 := n2_; have HB := n3_
     clear n0_ n1_ n2_ n3_ hb hbox hg
     refine hK.out _ _ ⟨zc BK668 0, zc BK668 1, zc BK668 2, zc BK668 3, zc BK669 0, zc BK669 1, zc BK669 2, zc BK669 3⟩ (fun hHeld => ?_)
     clear hK K
     refine norm_ (a' := ?_) ?_ ?_
     rotate_left
     ·
      show Act.put _ (some 7) _ = _
      simp only [Act.put, List.setIfInBounds_toArray, List.set_cons_zero, List.set_cons_succ, i64_w, i32_w]; rfl
     refine one_ (i := 1) (N := some 19) #[true, true, true, false, false, false, false, false, true, false, false] rfl rfl (one_of HT_.out (by kernel_rfl)) (by decide) (fun K hK => ?_)
     refine goes_ Try.func16 (by kernel_rfl) rfl #[.agg #[.int .i64 a0_0, .int .i64 a0_1, .int .i64 a0_2, .int .i64 a0_3]] (by rfl) rfl rfl (by (try simp only [List.map_toArray, List.map_cons, List.map_nil]); first | done | rfl | (simp only [List.length_drop, List.length_take]; rfl)) ?_
     with_reducible refine (laws_toInterval.calls a0_0 a0_1 a0_2 a0_3 t684 t685 t686 t687 _ A6.out).mono ?_
     rintro e w27 ⟨rfl, hb⟩
     refine ⟨_, rfl, ?_⟩
     have n0_ := Aside0.mk (zbb BK668 hb)
     have n1_ := Aside0.mk (zbb BK669 hb)
     have n2_ := Aside0.mk (zbb BK683 hb)
     have n3_ := Aside0.mk (zbb BK697 hb)
     have n4_ := Aside0.mk (below_step (z10_1 HB) hb)
     clear BK668 BK669 BK683 BK697 HB
     have BK668 := n0_; have BK669 := n1_; have BK683 := n2_; have BK697 := n3_; have HB := n4_
     clear n0_ n1_ n2_ n3_ n4_
     (try clear hb)
     (try clear hb2)
     (try clear hk)
     (try clear hi)
     refine hK.out _ _ ⟨zc BK668 0, zc BK668 1, zc BK668 2, zc BK668 3, zc BK669 0, zc BK669 1, zc BK669 2, zc BK669 3⟩ (fun hHeld => ?_)
     clear hK K
     refine norm_ (a' := ?_) ?_ ?_
     rotate_left
     ·
      show Act.put _ (some 19) _ = _
      simp only [Act.put, List.setIfInBounds_toArray, List.set_cons_zero, List.set_cons_succ, i64_w, i32_w]; rfl
     refine one_ (i := 3) (N := some 21) #[true, true, true, true, false, false, false, false, true, false, false] rfl rfl (one_of HT_.out (by kernel_rfl)) (by decide) (fun K hK => ?_)
     refine goes_ Try.func16 (by kernel_rfl) rfl #[.agg #[.int .i64 a1_0, .int .i64 a1_1, .int .i64 a1_2, .int .i64 a1_3]] (by rfl) rfl rfl (by (try simp only [List.map_toArray, List.map_cons, List.map_nil]); first | done | rfl | (simp only [List.length_drop, List.length_take]; rfl)) ?_
     with_reducible refine (laws_toInterval.calls a1_0 a1_1 a1_2 a1_3 t688 t689 t690 t691 _ A7.out).mono ?_
     rintro e w28 ⟨rfl, hb⟩
     refine ⟨_, rfl, ?_⟩
     have n0_ := Aside0.mk (zbb BK668 hb)
     have n1_ := Aside0.mk (zbb BK669 hb)
     have n2_ := Aside0.mk (zbb BK683 hb)
     have n3_ := Aside0.mk (zbb BK697 hb)
     have n4_ := Aside0.mk (below_step (z10_1 HB) hb)
     clear BK668 BK669 BK683 BK697 HB
     have BK668 := n0_; have BK669 := n1_; have BK683 := n2_; have BK697 := n3_; have HB := n4_
     clear n0_ n1_ n2_ n3_ n4_
     (try clear hb)
     (try clear hb2)
     (try clear hk)
     (try clear hi)
     refine hK.out _ _ ⟨zc BK668 0, zc BK668 1, zc BK668 2, zc BK668 3, zc BK669 0, zc BK669 1, zc BK669 2, zc BK669 3⟩ (fun hHeld => ?_)
     clear hK K
     refine norm_ (a' := ?_) ?_ ?_
     rotate_left
     ·
      show Act.put _ (some 21) _ = _
      simp only [Act.put, List.setIfInBounds_toArray, List.set_cons_zero, List.set_cons_succ, i64_w, i32_w]; rfl
     refine one_ (i := 4) (N := some 22) #[true, true, true, true, true, false, false, false, true, false, false] rfl rfl (one_of HT_.out (by kernel_rfl)) (by decide) (fun K hK => ?_)
     refine goes_ Try.func33 (by kernel_rfl) rfl #[.agg #[.int .i64 t684, .int .i64 t685, .int .i64 t686, .int .i64 t687], .agg #[.int .i64 t688, .int .i64 t689, .int .i64 t690, .int .i64 t691]] (by rfl) rfl rfl (by (try simp only [List.map_toArray, List.map_cons, List.map_nil]); first | done | rfl | (simp only [List.length_drop, List.length_take]; rfl)) ?_
     with_reducible refine (impl_AddIntervals.calls k t684 t685 t686 t687 t688 t689 t690 t691 t692 t693 t694 t695 t696 _ A8.out).mono ?_
     rintro e w29 ⟨rfl, hb⟩
     refine ⟨_, rfl, ?_⟩
     have n0_ := Aside0.mk (zbb BK668 hb)
     have n1_ := Aside0.mk (zbb BK669 hb)
     have n2_ := Aside0.mk (zbb BK683 hb)
     have n3_ := Aside0.mk (zbb BK697 hb)
     have n4_ := Aside0.mk (below_step (z10_1 HB) hb)
     clear BK668 BK669 BK683 BK697 HB
     have BK668 := n0_; have BK669 := n1_; have BK683 := n2_; have BK697 := n3_; have HB := n4_
     clear n0_ n1_ n2_ n3_ n4_
     (try clear hb)
     (try clear hb2)
     (try clear hk)
     (try clear hi)
     refine hK.out _ _ ⟨zc BK668 0, zc BK668 1, zc BK668 2, zc BK668 3, zc BK669 0, zc BK669 1, zc BK669 2, zc BK669 3⟩ (fun hHeld => ?_)
     clear hK K
     refine norm_ (a' := ?_) ?_ ?_
     rotate_left
     ·
      show Act.put _ (some 22) _ = _
      simp only [Act.put, List.setIfInBounds_toArray, List.set_cons_zero, List.set_cons_succ, i64_w, i32_w]; rfl
     refine pure_ (i := 5) (N := some 17) (v := ?_) (a' := ?_) #[true, true, true, true, true, true, false, false, true, false, false] rfl rfl (any_of HT_.out (by kernel_rfl)) (fun _ _ _ h => h) (Or.inl ⟨by rfl, ?_⟩) ?_ ?_
     rotate_left
     ·
      intro w'
      go_simp
      with_reducible rfl
     rotate_left
     ·
      simp only [Act.put, List.setIfInBounds_toArray, List.set_cons_zero, List.set_cons_succ, i64_w, i32_w]
      rfl
     refine pure_ (i := 6) (N := some 23) (v := ?_) (a' := ?_) #[true, true, true, true, true, true, true, false, true, false, false] rfl rfl (any_of HT_.out (by kernel_rfl)) (fun _ _ _ h => h) (Or.inl ⟨by rfl, ?_⟩) ?_ ?_
     rotate_left
     ·
      intro w'
      go_simp
      with_reducible rfl
     rotate_left
     ·
      simp only [Act.put, List.setIfInBounds_toArray, List.set_cons_zero, List.set_cons_succ, i64_w, i32_w]
      rfl
     refine pure_ (i := 7) (N := some 24) (v := ?_) (a' := ?_) #[true, true, true, true, true, true, true, true, true, false, false] rfl rfl (any_of HT_.out (by kernel_rfl)) (fun _ _ _ h => h) (Or.inl ⟨by rfl, ?_⟩) ?_ ?_
     rotate_left
     ·
      intro w'
      go_simp
      with_reducible rfl
     rotate_left
     ·
      simp only [Act.put, List.setIfInBounds_toArray, List.set_cons_zero, List.set_cons_succ, i64_w, i32_w]
      rfl
     exact norm_ (by simp only [putAll, Act.put, List.setIfInBounds_toArray, List.set_cons_zero, List.set_cons_succ]) (hCont (gb697) _ ⟨hHeld, (zq1 BK668), (zq1 BK669), (zq1 BK683), (zq1 BK697), GW697.out, GE697.out, NB668_697.out, NB697_668.out, NB669_697.out, NB697_669.out, NB683_697.out, NB697_683.out, (z10_1 HB)⟩)
   rintro gb697 w30 ⟨hS_, h0_, h1_, h2_, h3_, h4_, h5_, h6_, h7_, h8_, h9_, h10_, h11_, h12_⟩
   have n0_ : Aside0 (w30.heap[gb668]? = some (.cells #[.int .i64 a0_0, .int .i64 a0_1, .int .i64 a0_2, .int .i64 a0_3] 25 (0, 0))) := ⟨h0_⟩
   have n1_ : Aside0 (w30.heap[gb669]? = some (.cells #[.int .i64 a1_0, .int .i64 a1_1, .int .i64 a1_2, .int .i64 a1_3] 25 (0, 0))) := ⟨h1_⟩
   have n2_ : Aside0 (w30.heap[gb683]? = some (.cells #[.int .i64 t678, .int .i64 t679, .int .i64 t680, .int .i64 t681] 29 (0, 0))) := ⟨h2_⟩
   have BK697 : Aside0 (w30.heap[gb697]? = some (.cells #[.int .i64 0, .int .i64 0, .int .i64 0, .int .i64 0] 29 (0, 0))) := ⟨h3_⟩
   have GW697 : Aside0 (w.heap.size ≤ gb697) := ⟨h4_⟩
   have GE697 : Aside0 (w.heap.size ≤ gb697) := ⟨h5_⟩
   have NB668_697 : Aside0 (gb668 ≠ gb697) := ⟨h6_⟩
   have NB697_668 : Aside0 (gb697 ≠ gb668) := ⟨h7_⟩
   have NB669_697 : Aside0 (gb669 ≠ gb697) := ⟨h8_⟩
   have NB697_669 : Aside0 (gb697 ≠ gb669) := ⟨h9_⟩
   have NB683_697 : Aside0 (gb683 ≠ gb697) := ⟨h10_⟩
   have NB697_683 : Aside0 (gb697 ≠ gb683) := ⟨h11_⟩
   have n12_ : Aside0 (Below w.heap.size w w30) := ⟨h12_⟩
   clear BK668 BK669 BK683 HB h0_ h1_ h2_ h3_ h4_ h5_ h6_ h7_ h8_ h9_ h10_ h11_ h12_
   have BK668 := n0_; have BK669 := n1_; have BK683 := n2_; have HB := n12_
   clear n0_ n1_ n2_ n12_
   have hHeld : w30.cell? ⟨gb668, 0, none⟩ = some (.int .i64 a0_0) ∧ w30.cell? ⟨gb668, 1, none⟩ = some (.int .i64 a0_1) ∧ w30.cell? ⟨gb668, 2, none⟩ = some (.int .i64 a0_2) ∧ w30.cell? ⟨gb668, 3, none⟩ = some (.int .i64 a0_3) ∧ w30.cell? ⟨gb669, 0, none⟩ = some (.int .i64 a1_0) ∧ w30.cell? ⟨gb669, 1, none⟩ = some (.int .i64 a1_1) ∧ w30.cell? ⟨gb669, 2, none⟩ = some (.int .i64 a1_2) ∧ w30.cell? ⟨gb669, 3, none⟩ = some (.int .i64 a1_3) := hS_
   refine norm_ (a' := ?_) ?_ ?_
   rotate_left
   ·
    simp only [putAll, Act.put, List.setIfInBounds_toArray, List.set_cons_zero, List.set_cons_succ]
    rfl
   refine one_ (i := 9) (N := none) #[true, true, true, true, true, true, true, true, true, true, false] rfl rfl (one_of HT_.out (by kernel_rfl)) (by decide) (fun K hK => ?_)
   have hs31 : w30.cell? ⟨gb697, 0, none⟩ = some (.int .i64 0) := zc BK697 0
   have hfs31 := blk_frozen BK697.out 0
   have hns31_0 := NB668_697.out
   have hns31_1 := NB669_697.out
   have hns31_2 := NB683_697.out
   have hms31_0 := NB697_668.out
   have hms31_1 := NB697_669.out
   have hms31_2 := NB697_683.out
   have hs32 : w30.cell? ⟨gb697, 1, none⟩ = some (.int .i64 0) := zc BK697 1
   have hfs32 := blk_frozen BK697.out 1
   have hns32_0 := NB668_697.out
   have hns32_1 := NB669_697.out
   have hns32_2 := NB683_697.out
   have hms32_0 := NB697_668.out
   have hms32_1 := NB697_669.out
   have hms32_2 := NB697_683.out
   have hs33 : w30.cell? ⟨gb697, 2, none⟩ = some (.int .i64 0) := zc BK697 2
   have hfs33 := blk_frozen BK697.out 2
   have hns33_0 := NB668_697.out
   have hns33_1 := NB669_697.out
   have hns33_2 := NB683_697.out
   have hms33_0 := NB697_668.out
   have hms33_1 := NB697_669.out
   have hms33_2 := NB697_683.out
   have hs34 : w30.cell? ⟨gb697, 3, none⟩ = some (.int .i64 0) := zc BK697 3
   have hfs34 := blk_frozen BK697.out 3
   have hns34_0 := NB668_697.out
   have hns34_1 := NB669_697.out
   have hns34_2 := NB683_697.out
   have hms34_0 := NB697_668.out
   have hms34_1 := NB697_669.out
   have hms34_2 := NB697_683.out
   refine skip_ (w1 := ?_) (by rfl) rfl ?_ ?_
   rotate_left
   ·
    go_simp
    rfl
   refine hK.out _ _ ⟨((cell_far (p := ⟨gb697, _, none⟩) NB668_697.out _).trans (((cell_far (p := ⟨gb697, _, none⟩) NB668_697.out _).trans (((cell_far (p := ⟨gb697, _, none⟩) NB668_697.out _).trans (((cell_far (p := ⟨gb697, _, none⟩) NB668_697.out _).trans (hHeld.1)))))))), ((cell_far (p := ⟨gb697, _, none⟩) NB668_697.out _).trans (((cell_far (p := ⟨gb697, _, none⟩) NB668_697.out _).trans (((cell_far (p := ⟨gb697, _, none⟩) NB668_697.out _).trans (((cell_far (p := ⟨gb697, _, none⟩) NB668_697.out _).trans (hHeld.2.1)))))))), ((cell_far (p := ⟨gb697, _, none⟩) NB668_697.out _).trans (((cell_far (p := ⟨gb697, _, none⟩) NB668_697.out _).trans (((cell_far (p := ⟨gb697, _, none⟩) NB668_697.out _).trans (((cell_far (p := ⟨gb697, _, none⟩) NB668_697.out _).trans (hHeld.2.2.1)))))))), ((cell_far (p := ⟨gb697, _, none⟩) NB668_697.out _).trans (((cell_far (p := ⟨gb697, _, none⟩) NB668_697.out _).trans (((cell_far (p := ⟨gb697, _, none⟩) NB668_697.out _).trans (((cell_far (p := ⟨gb697, _, none⟩) NB668_697.out _).trans (hHeld.2.2.2.1)))))))), ((cell_far (p := ⟨gb697, _, none⟩) NB669_697.out _).trans (((cell_far (p := ⟨gb697, _, none⟩) NB669_697.out _).trans (((cell_far (p := ⟨gb697, _, none⟩) NB669_697.out _).trans (((cell_far (p := ⟨gb697, _, none⟩) NB669_697.out _).trans (hHeld.2.2.2.2.1)))))))), ((cell_far (p := ⟨gb697, _, none⟩) NB669_697.out _).trans (((cell_far (p := ⟨gb697, _, none⟩) NB669_697.out _).trans (((cell_far (p := ⟨gb697, _, none⟩) NB669_697.out _).trans (((cell_far (p := ⟨gb697, _, none⟩) NB669_697.out _).trans (hHeld.2.2.2.2.2.1)))))))), ((cell_far (p := ⟨gb697, _, none⟩) NB669_697.out _).trans (((cell_far (p := ⟨gb697, _, none⟩) NB669_697.out _).trans (((cell_far (p := ⟨gb697, _, none⟩) NB669_697.out _).trans (((cell_far (p := ⟨gb697, _, none⟩) NB669_697.out _).trans (hHeld.2.2.2.2.2.2.1)))))))), ((cell_far (p := ⟨gb697, _, none⟩) NB669_697.out _).trans (((cell_far (p := ⟨gb697, _, none⟩) NB669_697.out _).trans (((cell_far (p := ⟨gb697, _, none⟩) NB669_697.out _).trans (((cell_far (p := ⟨gb697, _, none⟩) NB669_697.out _).trans (hHeld.2.2.2.2.2.2.2))))))))⟩ (fun hHeld => ?_)
   clear hK K
   refine pure_ (i := 10) (N := some 8) (v := ?_) (a' := ?_) #[true, true, true, true, true, true, true, true, true, true, true] rfl rfl (any_of HT_.out (by kernel_rfl)) (fun _ _ _ h => h) (Or.inl ⟨by rfl, ?_⟩) ?_ ?_
   rotate_left
   ·
    intro w'
    go_simp
    with_reducible rfl
   rotate_left
   ·
    simp only [Act.put, List.setIfInBounds_toArray, List.set_cons_zero, List.set_cons_succ, i64_w, i32_w]
    rfl
   refine done_ (done_of HT_.out (by kernel_rfl)) ?_
   have hnb35 := NB697_668.out
   have hnc35 := NB668_697.out
   have hnb36 := NB697_669.out
   have hnc36 := NB669_697.out
   have hnb37 := NB697_683.out
   have hnc37 := NB683_697.out
   have hcz38_0 : w30.cell? ⟨gb697, 0, none⟩ = some (.int .i64 0) := zc BK697 0
   have hcz38_1 : w30.cell? ⟨gb697, 1, none⟩ = some (.int .i64 0) := zc BK697 1
   have hcz38_2 : w30.cell? ⟨gb697, 2, none⟩ = some (.int .i64 0) := zc BK697 2
   have hcz38_3 : w30.cell? ⟨gb697, 3, none⟩ = some (.int .i64 0) := zc BK697 3
   have hfz38_0 := blk_frozen BK697.out 0
   have hfz38_1 := blk_frozen BK697.out 1
   have hfz38_2 := blk_frozen BK697.out 2
   have hfz38_3 := blk_frozen BK697.out 3
   have hnb39 := NB683_668.out
   have hnc39 := NB668_683.out
   have hnb40 := NB683_669.out
   have hnc40 := NB669_683.out
   have hcz41_0 : w30.cell? ⟨gb683, 0, none⟩ = some (.int .i64 t678) := zc BK683 0
   have hcz41_1 : w30.cell? ⟨gb683, 1, none⟩ = some (.int .i64 t679) := zc BK683 1
   have hcz41_2 : w30.cell? ⟨gb683, 2, none⟩ = some (.int .i64 t680) := zc BK683 2
   have hcz41_3 : w30.cell? ⟨gb683, 3, none⟩ = some (.int .i64 t681) := zc BK683 3
   have hfz41_0 := blk_frozen BK683.out 0
   have hfz41_1 := blk_frozen BK683.out 1
   have hfz41_2 := blk_frozen BK683.out 2
   have hfz41_3 := blk_frozen BK683.out 3
   try go_wp2_with (first | ((with_reducible refine gate_callee (f := 24) rfl ?_); refine goesL_ (some 27) rfl rfl Try.func24 (by kernel_rfl) rfl #[.agg #[.int .i64 t692, .int .i64 t693, .int .i64 t694, .int .i64 t695], .agg #[.int .i64 t678, .int .i64 t679, .int .i64 t680, .int .i64 t681]] rfl (by (try simp only [List.map_toArray, List.map_cons, List.map_nil]); first | done | rfl | (simp only [List.length_drop, List.length_take]; rfl)) ?_; (with_reducible refine (laws_eqInterval.calls t692 t693 t694 t695 t678 t679 t680 t681 true _ A9.out).mono ?_); rintro e w42 ⟨rfl, hb⟩; refine ⟨_, rfl, ?_⟩; have n0_ := Aside0.mk (blk_below (g := gb668) (o := .cells #[.int .i64 a0_0, .int .i64 a0_1, .int .i64 a0_2, .int .i64 a0_3] 25 (0, 0)) (zq5 BK668) hb); have n1_ := Aside0.mk (blk_below (g := gb669) (o := .cells #[.int .i64 a1_0, .int .i64 a1_1, .int .i64 a1_2, .int .i64 a1_3] 25 (0, 0)) (zq5 BK669) hb); have n2_ := Aside0.mk (blk_below (g := gb683) (o := .cells #[.int .i64 t678, .int .i64 t679, .int .i64 t680, .int .i64 t681] 29 (0, 0)) (zq5 BK683) hb); have n3_ := Aside0.mk (blk_below (g := gb697) (o := .cells #[.int .i64 t692, .int .i64 t693, .int .i64 t694, .int .i64 t695] 29 (0, 0)) (by (with_reducible repeat (first | refine blk_drewN ?_ _ | refine blk_drew ?_ | refine blk_alloc ?_ _)); refine blk_put (cs := #[.int .i64 t692, .int .i64 t693, .int .i64 t694, .int .i64 0]) ?_ 3 _ rfl; (with_reducible repeat (first | refine blk_drewN ?_ _ | refine blk_drew ?_ | refine blk_alloc ?_ _)); refine blk_put (cs := #[.int .i64 t692, .int .i64 t693, .int .i64 0, .int .i64 0]) ?_ 2 _ rfl; (with_reducible repeat (first | refine blk_drewN ?_ _ | refine blk_drew ?_ | refine blk_alloc ?_ _)); refine blk_put (cs := #[.int .i64 t692, .int .i64 0, .int .i64 0, .int .i64 0]) ?_ 1 _ rfl; (with_reducible repeat (first | refine blk_drewN ?_ _ | refine blk_drew ?_ | refine blk_alloc ?_ _)); refine blk_put (cs := #[.int .i64 0, .int .i64 0, .int .i64 0, .int .i64 0]) ?_ 0 _ rfl; (with_reducible repeat (first | refine blk_drewN ?_ _ | refine blk_drew ?_ | refine blk_alloc ?_ _)); exact BK697.out) hb); have n4_ := Aside0.mk (below_step (z10_1 HB) hb); clear BK668; clear BK669; clear BK683; clear BK697; clear HB; have BK668 := n0_; have BK669 := n1_; have BK683 := n2_; have BK697 := n3_; have HB := n4_; clear n0_ n1_ n2_ n3_ n4_; (try clear hb); (try clear hb2); (try clear hk); (try clear hi)))
   go_ret
   exact ⟨by first | rfl | (simp [errW_none, errW_some] <;> rfl) | (simp [*, errW_none, errW_some] <;> rfl), (z10_1 HB)⟩
 ·
  replace c10 := Bool.eq_false_iff.mpr c10
  subst c10
  have H1 : (none) = some r := by rw [if_neg (show ¬ (false = true) by decide)] at H; exact H
  clear H
  have H := H1
  clear H1
  exact absurd H (by simp)
end Go.Proofs.Ytinpcalgdiigiaa.PD
