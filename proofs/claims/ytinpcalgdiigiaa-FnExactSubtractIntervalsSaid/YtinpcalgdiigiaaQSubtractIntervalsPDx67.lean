-- Written by a program of this session (wip/mk/drv.py) out of the seat's translation; Lean checks it.
import Derived.Test.YtinpcalgdiigiaaQSubtractIntervalsPDx0
import Derived.Test.YtinpcalgdiigiaaQSubtractIntervalsPDx1
import Derived.Test.YtinpcalgdiigiaaQSubtractIntervalsPDx2
import Derived.Test.YtinpcalgdiigiaaQSubtractIntervalsPDx30
import Derived.Test.YtinpcalgdiigiaaQSubtractIntervalsPDx64
import Derived.Test.YtinpcalgdiigiaaQSubtractIntervalsPDx66
namespace Go.Proofs.Ytinpcalgdiigiaa.PD
open Go.RowKit Go.Proofs.YtinpcalgdiigiaaW.PrintWords Go.Proofs.YtinpcalgdiigiaaW.PrintLast Go.Proofs.YtinpcalgdiigiaaW.PrintMore
attribute [local go_sem] max2_int min2_int max_two min_two max_three min_three max_four min_four   -- for this text's walks alone
set_option linter.unusedVariables false
set_option linter.unusedSimpArgs false
/-! ### laws_FnExactSubtractIntervals: function 11 -/
theorem z11_0 {w W0 W1 : World} {B : Nat} (h : Aside0 (Below B w W0)) (f : Below B w W0 → Below B w W1 := by intro h_; repeat (first | (with_reducible first | exact h_ | apply below_alloc | apply pw_below_drewN | apply below_drew1) | exact h_)) : Below B w W1 := f h.out
theorem z11_1 {w W0 W1 : World} {B : Nat} (h : Aside0 (Below B w W0)) (f : Below B w W0 → Below B w W1 := by intro h_; repeat (first | (with_reducible first | exact h_ | apply below_alloc | apply pw_below_drewN | apply below_drew1 | refine below_set ?_ (Aside0.out (by assumption))) | exact h_)) : Below B w W1 := f h.out
def laws_FnExactSubtractIntervals.T1 : Bool × List (List Nat × List Nat) := (true, [([], []), ([0], [0]), ([], []), ([2, 1], [2]), ([1, 3, 3], [1, 3]), ([4], [4]), ([5], [5]), ([5], [5]), ([], []), ([8, 6, 4, 0, 1, 2, 3, 4, 5, 6, 8], [6, 8]), ([7, 9, 0, 1, 2, 3, 4, 5, 6, 7, 8, 9], [7])])
def laws_FnExactSubtractIntervals.B1 : List Nat := [0, 1, 0, 7, 15, 31, 63, 63, 0, 383, 1023]
theorem laws_FnExactSubtractIntervals.tab1 : rtab .any (opsOf Try.f11 1) = laws_FnExactSubtractIntervals.T1 := by kernel_rfl
theorem laws_FnExactSubtractIntervals.bits1 : waitsOk laws_FnExactSubtractIntervals.T1.2 laws_FnExactSubtractIntervals.B1 = true := by kernel_rfl
def laws_FnExactSubtractIntervals.T2 : Bool × List (List Nat × List Nat) := (true, [([], []), ([0], [0]), ([], []), ([2, 1], [2]), ([1, 3, 3], [1, 3]), ([4], [4]), ([5], [5]), ([5], [5]), ([], []), ([8, 6, 4, 0, 1, 2, 3, 4, 5, 6, 8], [6, 8]), ([7, 9, 0, 1, 2, 3, 4, 5, 6, 7, 8, 9], [7])])
def laws_FnExactSubtractIntervals.B2 : List Nat := [0, 1, 0, 7, 15, 31, 63, 63, 0, 383, 1023]
theorem laws_FnExactSubtractIntervals.tab2 : rtab .any (opsOf Try.f11 2) = laws_FnExactSubtractIntervals.T2 := by kernel_rfl
theorem laws_FnExactSubtractIntervals.bits2 : waitsOk laws_FnExactSubtractIntervals.T2.2 laws_FnExactSubtractIntervals.B2 = true := by kernel_rfl
set_option maxHeartbeats 8000000 in
set_option maxRecDepth 100000 in
theorem laws_FnExactSubtractIntervals.calls (k : Nat) (a0_0 : Int) (a0_1 : Int) (a0_2 : Int) (a0_3 : Int) (a1_0 : Int) (a1_1 : Int) (a1_2 : Int) (a1_3 : Int) (r : Bool) (w : World) (h : laws_FnExactSubtractIntervals.f k a0_0 a0_1 a0_2 a0_3 a1_0 a1_1 a1_2 a1_3 = some r) :
  Calls Try.prog 11 #[.agg #[.int .i64 a0_0, .int .i64 a0_1, .int .i64 a0_2, .int .i64 a0_3], .agg #[.int .i64 a1_0, .int .i64 a1_1, .int .i64 a1_2, .int .i64 a1_3]] w fun e w' => e = .returned (.bool r) ∧ Below w.heap.size w w' := by
 have hu25 := Try.underlying25
 have hu29 := Try.underlying29
 have HB := Aside0.mk (Below.refl w.heap.size w)
 have H : ((laws_toInterval.f a0_0 a0_1 a0_2 a0_3).bind fun bt758 => ((laws_toInterval.f a1_0 a1_1 a1_2 a1_3).bind fun bt762 => ((spec_SubtractIntervals.f k bt758.1 bt758.2.1 bt758.2.2.1 bt758.2.2.2 bt762.1 bt762.2.1 bt762.2.2.1 bt762.2.2.2).bind fun bt766 => ((laws_toInterval.f a0_0 a0_1 a0_2 a0_3).bind fun bt772 => ((laws_toInterval.f a1_0 a1_1 a1_2 a1_3).bind fun bt776 => ((impl_SubtractIntervals.f k bt772.1 bt772.2.1 bt772.2.2.1 bt772.2.2.2 bt776.1 bt776.2.1 bt776.2.2.1 bt776.2.2.2).bind fun bt780 => ((laws_eqInterval.f bt780.1 bt780.2.1 bt780.2.2.1 bt780.2.2.2.1 bt766.1 bt766.2.1 bt766.2.2.1 bt766.2.2.2.1).bind fun t786 => (if t786 = true then (if (bt780.2.2.2.2 != bt766.2.2.2.2) = true then (none) else (some true)) else (none))))))))) = some r := h
 clear h
 replace H := Option.bind_eq_some_iff.mp H
 obtain ⟨⟨t758, t759, t760, t761⟩, A30, H⟩ := H
 replace H : ((laws_toInterval.f a1_0 a1_1 a1_2 a1_3).bind fun bt762 => ((spec_SubtractIntervals.f k t758 t759 t760 t761 bt762.1 bt762.2.1 bt762.2.2.1 bt762.2.2.2).bind fun bt766 => ((laws_toInterval.f a0_0 a0_1 a0_2 a0_3).bind fun bt772 => ((laws_toInterval.f a1_0 a1_1 a1_2 a1_3).bind fun bt776 => ((impl_SubtractIntervals.f k bt772.1 bt772.2.1 bt772.2.2.1 bt772.2.2.2 bt776.1 bt776.2.1 bt776.2.2.1 bt776.2.2.2).bind fun bt780 => ((laws_eqInterval.f bt780.1 bt780.2.1 bt780.2.2.1 bt780.2.2.2.1 bt766.1 bt766.2.1 bt766.2.2.1 bt766.2.2.2.1).bind fun t786 => (if t786 = true then (if (bt780.2.2.2.2 != bt766.2.2.2.2) = true then (none) else (some true)) else (none)))))))) = some r := H
 have A3 := Aside0.mk A30
 clear A30
 replace H := Option.bind_eq_some_iff.mp H
 obtain ⟨⟨t762, t763, t764, t765⟩, A40, H⟩ := H
 replace H : ((spec_SubtractIntervals.f k t758 t759 t760 t761 t762 t763 t764 t765).bind fun bt766 => ((laws_toInterval.f a0_0 a0_1 a0_2 a0_3).bind fun bt772 => ((laws_toInterval.f a1_0 a1_1 a1_2 a1_3).bind fun bt776 => ((impl_SubtractIntervals.f k bt772.1 bt772.2.1 bt772.2.2.1 bt772.2.2.2 bt776.1 bt776.2.1 bt776.2.2.1 bt776.2.2.2).bind fun bt780 => ((laws_eqInterval.f bt780.1 bt780.2.1 bt780.2.2.1 bt780.2.2.2.1 bt766.1 bt766.2.1 bt766.2.2.1 bt766.2.2.2.1).bind fun t786 => (if t786 = true then (if (bt780.2.2.2.2 != bt766.2.2.2.2) = true then (none) else (some true)) else (none))))))) = some r := H
 have A4 := Aside0.mk A40
 clear A40
 replace H := Option.bind_eq_some_iff.mp H
 obtain ⟨⟨t766, t767, t768, t769, t770⟩, A50, H⟩ := H
 replace H : ((laws_toInterval.f a0_0 a0_1 a0_2 a0_3).bind fun bt772 => ((laws_toInterval.f a1_0 a1_1 a1_2 a1_3).bind fun bt776 => ((impl_SubtractIntervals.f k bt772.1 bt772.2.1 bt772.2.2.1 bt772.2.2.2 bt776.1 bt776.2.1 bt776.2.2.1 bt776.2.2.2).bind fun bt780 => ((laws_eqInterval.f bt780.1 bt780.2.1 bt780.2.2.1 bt780.2.2.2.1 t766 t767 t768 t769).bind fun t786 => (if t786 = true then (if (bt780.2.2.2.2 != t770) = true then (none) else (some true)) else (none)))))) = some r := H
 have A5 := Aside0.mk A50
 clear A50
 replace H := Option.bind_eq_some_iff.mp H
 obtain ⟨⟨t772, t773, t774, t775⟩, A60, H⟩ := H
 replace H : ((laws_toInterval.f a1_0 a1_1 a1_2 a1_3).bind fun bt776 => ((impl_SubtractIntervals.f k t772 t773 t774 t775 bt776.1 bt776.2.1 bt776.2.2.1 bt776.2.2.2).bind fun bt780 => ((laws_eqInterval.f bt780.1 bt780.2.1 bt780.2.2.1 bt780.2.2.2.1 t766 t767 t768 t769).bind fun t786 => (if t786 = true then (if (bt780.2.2.2.2 != t770) = true then (none) else (some true)) else (none))))) = some r := H
 have A6 := Aside0.mk A60
 clear A60
 replace H := Option.bind_eq_some_iff.mp H
 obtain ⟨⟨t776, t777, t778, t779⟩, A70, H⟩ := H
 replace H : ((impl_SubtractIntervals.f k t772 t773 t774 t775 t776 t777 t778 t779).bind fun bt780 => ((laws_eqInterval.f bt780.1 bt780.2.1 bt780.2.2.1 bt780.2.2.2.1 t766 t767 t768 t769).bind fun t786 => (if t786 = true then (if (bt780.2.2.2.2 != t770) = true then (none) else (some true)) else (none)))) = some r := H
 have A7 := Aside0.mk A70
 clear A70
 replace H := Option.bind_eq_some_iff.mp H
 obtain ⟨⟨t780, t781, t782, t783, t784⟩, A80, H⟩ := H
 replace H : ((laws_eqInterval.f t780 t781 t782 t783 t766 t767 t768 t769).bind fun t786 => (if t786 = true then (if (t784 != t770) = true then (none) else (some true)) else (none))) = some r := H
 have A8 := Aside0.mk A80
 clear A80
 replace H := Option.bind_eq_some_iff.mp H
 obtain ⟨t786, A90, H⟩ := H
 replace H : (if t786 = true then (if (t784 != t770) = true then (none) else (some true)) else (none)) = some r := H
 have A9 := Aside0.mk A90
 clear A90
 by_cases c10 : t786 = true
 ·
  subst c10
  have H1 : (if (t784 != t770) = true then (none) else (some true)) = some r := by rw [if_pos rfl] at H; exact H
  clear H
  have H := H1
  clear H1
  by_cases c11 : (t784 != t770) = true
  ·
   rw [if_pos c11] at H
   exact absurd H (by simp)
  ·
   rw [if_neg c11] at H
   have c11b0 : (t784 != t770) = false := by simpa using c11
   (try (have c11b1 : decide (t784 = t770) = true := by simpa using c11))
   (try (have c11b2 : (t784 == t770) = true := by simpa using c11))
   clear c11
   obtain rfl := Option.some.inj H
   go_enter Try.func11, Try.ntmps11
   try go_wp2_with (first | ((with_reducible refine gate_dst (N := 2) rfl ?_); refine box_event ?hg (N := 2) ?hd (cs := #[.int .i64 a0_0, .int .i64 a0_1, .int .i64 a0_2, .int .i64 a0_3]) (t := 25) ?hr ?_; (case hd => rfl); (case hg => rfl); (case hr => first | (go_simp; done) | (go_simp; rfl)); intro gb756 hg w12 hbox hb; have n0_ := Aside0.mk (below_step (z11_0 HB) hb); have n1_ := Aside0.mk (hbox); have n2_ := Aside0.mk ((by rw [hg]; exact (below_size (z11_0 HB)) : w.heap.size ≤ gb756)); have n3_ := Aside0.mk ((by rw [hg]; exact (below_size (z11_0 HB)) : w.heap.size ≤ gb756)); clear HB; have HB := n0_; have BK756 := n1_; have GW756 := n2_; have GE756 := n3_; clear n0_ n1_ n2_ n3_; clear hb hbox hg) | ((with_reducible refine gate_dst (N := 3) rfl ?_); refine box_event ?hg (N := 3) ?hd (cs := #[.int .i64 a1_0, .int .i64 a1_1, .int .i64 a1_2, .int .i64 a1_3]) (t := 25) ?hr ?_; (case hd => rfl); (case hg => rfl); (case hr => first | (go_simp; done) | (go_simp; rfl)); intro gb757 hg w13 hbox hb; have n0_ := Aside0.mk (zbb BK756 hb); have n1_ := Aside0.mk (below_step (z11_1 HB) hb); have n2_ := Aside0.mk (hbox); have n3_ := Aside0.mk ((by rw [hg]; exact (below_size (z11_1 HB)) : w.heap.size ≤ gb757)); have n4_ := Aside0.mk ((by rw [hg]; exact (below_size (z11_1 HB)) : w.heap.size ≤ gb757)); have n5_ := Aside0.mk (zlt BK756 hg); have n6_ := Aside0.mk (zgt BK756 hg); clear BK756; clear HB; have BK756 := n0_; have HB := n1_; have BK757 := n2_; have GW757 := n3_; have GE757 := n4_; have NB756_757 := n5_; have NB757_756 := n6_; clear n0_ n1_ n2_ n3_ n4_ n5_ n6_; clear hb hbox hg))
   have n0_ := Aside0.mk (blk_drew BK756.out)
   have n1_ := Aside0.mk (blk_drew BK757.out)
   have n2_ := Aside0.mk (below_drew1 HB.out)
   clear BK756 BK757 HB
   have BK756 := n0_; have BK757 := n1_; have HB := n2_
   clear n0_ n1_ n2_
   refine start_ (n := 11) (S := fun w' => w'.cell? ⟨gb756, 0, none⟩ = some (.int .i64 a0_0) ∧ w'.cell? ⟨gb756, 1, none⟩ = some (.int .i64 a0_1) ∧ w'.cell? ⟨gb756, 2, none⟩ = some (.int .i64 a0_2) ∧ w'.cell? ⟨gb756, 3, none⟩ = some (.int .i64 a0_3) ∧ w'.cell? ⟨gb757, 0, none⟩ = some (.int .i64 a1_0) ∧ w'.cell? ⟨gb757, 1, none⟩ = some (.int .i64 a1_1) ∧ w'.cell? ⟨gb757, 2, none⟩ = some (.int .i64 a1_2) ∧ w'.cell? ⟨gb757, 3, none⟩ = some (.int .i64 a1_3)) (ds := []) #[false, false, false, false, false, false, false, false, false, false, false] (by kernel_rfl) rfl rfl ⟨zc BK756 0, zc BK756 1, zc BK756 2, zc BK756 3, zc BK757 0, zc BK757 1, zc BK757 2, zc BK757 3⟩ (fun hHeld => ?_); refine with_tabW laws_FnExactSubtractIntervals.tab1 laws_FnExactSubtractIntervals.bits1 (fun HT_ HW_ => ?_)
   generalize w13.drew = w14 at BK756 BK757 HB hHeld ⊢
   refine take_ (i := 0) (N := some 10) (v := ?_) (a' := ?_) #[true, false, false, false, false, false, false, false, false, false, false] rfl rfl (take_ofW HT_.out HW_.out (by kernel_rfl)) (fun _ _ _ h => h) (Or.inl ⟨by rfl, ?_⟩) hHeld ?_ ?_
   rotate_left
   ·
    rintro w' ⟨s0, s1, s2, s3, s4, s5, s6, s7⟩
    go_simp
    with_reducible rfl
   rotate_left
   ·
    simp only [Act.put, List.setIfInBounds_toArray, List.set_cons_zero, List.set_cons_succ, i64_w, i32_w]
    rfl
   refine take_ (i := 2) (N := some 12) (v := ?_) (a' := ?_) #[true, false, true, false, false, false, false, false, false, false, false] rfl rfl (take_ofW HT_.out HW_.out (by kernel_rfl)) (fun _ _ _ h => h) (Or.inl ⟨by rfl, ?_⟩) hHeld ?_ ?_
   rotate_left
   ·
    rintro w' ⟨s0, s1, s2, s3, s4, s5, s6, s7⟩
    go_simp
    with_reducible rfl
   rotate_left
   ·
    simp only [Act.put, List.setIfInBounds_toArray, List.set_cons_zero, List.set_cons_succ, i64_w, i32_w]
    rfl
   refine join_ (σ := Nat) 2 #[true, true, true, true, true, true, true, true, true, false, false] (fun s_ => [(11, .agg #[.int .i64 t758, .int .i64 t759, .int .i64 t760, .int .i64 t761]), (13, .agg #[.int .i64 t762, .int .i64 t763, .int .i64 t764, .int .i64 t765]), (14, .tuple #[.agg #[.int .i64 t766, .int .i64 t767, .int .i64 t768, .int .i64 t769], .bool t770]), (5, .pointer (some ⟨s_, 0, none⟩)), (9, .tuple #[.agg #[.int .i64 t766, .int .i64 t767, .int .i64 t768, .int .i64 t769], .bool t770]), (15, .agg #[.int .i64 t766, .int .i64 t767, .int .i64 t768, .int .i64 t769]), (16, .bool t770)]) (fun s_ w' => (w'.cell? ⟨gb756, 0, none⟩ = some (.int .i64 a0_0) ∧ w'.cell? ⟨gb756, 1, none⟩ = some (.int .i64 a0_1) ∧ w'.cell? ⟨gb756, 2, none⟩ = some (.int .i64 a0_2) ∧ w'.cell? ⟨gb756, 3, none⟩ = some (.int .i64 a0_3) ∧ w'.cell? ⟨gb757, 0, none⟩ = some (.int .i64 a1_0) ∧ w'.cell? ⟨gb757, 1, none⟩ = some (.int .i64 a1_1) ∧ w'.cell? ⟨gb757, 2, none⟩ = some (.int .i64 a1_2) ∧ w'.cell? ⟨gb757, 3, none⟩ = some (.int .i64 a1_3)) ∧ (w'.heap[gb756]? = some (.cells #[.int .i64 a0_0, .int .i64 a0_1, .int .i64 a0_2, .int .i64 a0_3] 25 (0, 0))) ∧ (w'.heap[gb757]? = some (.cells #[.int .i64 a1_0, .int .i64 a1_1, .int .i64 a1_2, .int .i64 a1_3] 25 (0, 0))) ∧ (w'.heap[s_]? = some (.cells #[.int .i64 0, .int .i64 0, .int .i64 0, .int .i64 0] 29 (0, 0))) ∧ (w.heap.size ≤ s_) ∧ (w.heap.size ≤ s_) ∧ (gb756 ≠ s_) ∧ (s_ ≠ gb756) ∧ (gb757 ≠ s_) ∧ (s_ ≠ gb757) ∧ (Below w.heap.size w w')) ?_ ?_
   rotate_left
   ·
    intro hCont
    refine two_ (i := 1) (j := 8) (Ni := some 11) (Nj := some 5) #[true, true, true, false, false, false, false, false, false, false, false] #[true, false, true, false, false, false, false, false, true, false, false] rfl rfl rfl rfl (two_of HT_.out (by kernel_rfl)) (by decide) (by decide) (fun K hK => ?_) (fun K hK => ?_)
    ·
     refine goes_ Try.func16 (by kernel_rfl) rfl #[.agg #[.int .i64 a0_0, .int .i64 a0_1, .int .i64 a0_2, .int .i64 a0_3]] (by rfl) rfl rfl (by (try simp only [List.map_toArray, List.map_cons, List.map_nil]); first | done | rfl | (simp only [List.length_drop, List.length_take]; rfl)) ?_
     with_reducible refine (laws_toInterval.calls a0_0 a0_1 a0_2 a0_3 t758 t759 t760 t761 _ A3.out).mono ?_
     rintro e w15 ⟨rfl, hb⟩
     refine ⟨_, rfl, ?_⟩
     have n0_ := Aside0.mk (zbb BK756 hb)
     have n1_ := Aside0.mk (zbb BK757 hb)
     have n2_ := Aside0.mk (below_step (z11_1 HB) hb)
     clear BK756 BK757 HB
     have BK756 := n0_; have BK757 := n1_; have HB := n2_
     clear n0_ n1_ n2_
     (try clear hb)
     (try clear hb2)
     (try clear hk)
     (try clear hi)
     refine hK.out _ _ ⟨zc BK756 0, zc BK756 1, zc BK756 2, zc BK756 3, zc BK757 0, zc BK757 1, zc BK757 2, zc BK757 3⟩ (fun hHeld => ?_)
     clear hK K
     refine norm_ (a' := ?_) ?_ ?_
     rotate_left
     ·
      show Act.put _ (some 11) _ = _
      simp only [Act.put, List.setIfInBounds_toArray, List.set_cons_zero, List.set_cons_succ, i64_w, i32_w]; rfl
     refine two_ (i := 3) (j := 8) (Ni := some 13) (Nj := some 5) #[true, true, true, true, false, false, false, false, false, false, false] #[true, true, true, false, false, false, false, false, true, false, false] rfl rfl rfl rfl (two_of HT_.out (by kernel_rfl)) (by decide) (by decide) (fun K hK => ?_) (fun K hK => ?_)
     ·
      refine goes_ Try.func16 (by kernel_rfl) rfl #[.agg #[.int .i64 a1_0, .int .i64 a1_1, .int .i64 a1_2, .int .i64 a1_3]] (by rfl) rfl rfl (by (try simp only [List.map_toArray, List.map_cons, List.map_nil]); first | done | rfl | (simp only [List.length_drop, List.length_take]; rfl)) ?_
      with_reducible refine (laws_toInterval.calls a1_0 a1_1 a1_2 a1_3 t762 t763 t764 t765 _ A4.out).mono ?_
      rintro e w16 ⟨rfl, hb⟩
      refine ⟨_, rfl, ?_⟩
      have n0_ := Aside0.mk (zbb BK756 hb)
      have n1_ := Aside0.mk (zbb BK757 hb)
      have n2_ := Aside0.mk (below_step (z11_1 HB) hb)
      clear BK756 BK757 HB
      have BK756 := n0_; have BK757 := n1_; have HB := n2_
      clear n0_ n1_ n2_
      (try clear hb)
      (try clear hb2)
      (try clear hk)
      (try clear hi)
      refine hK.out _ _ ⟨zc BK756 0, zc BK756 1, zc BK756 2, zc BK756 3, zc BK757 0, zc BK757 1, zc BK757 2, zc BK757 3⟩ (fun hHeld => ?_)
      clear hK K
      refine norm_ (a' := ?_) ?_ ?_
      rotate_left
      ·
       show Act.put _ (some 13) _ = _
       simp only [Act.put, List.setIfInBounds_toArray, List.set_cons_zero, List.set_cons_succ, i64_w, i32_w]; rfl
      refine two_ (i := 4) (j := 8) (Ni := some 14) (Nj := some 5) #[true, true, true, true, true, false, false, false, false, false, false] #[true, true, true, true, false, false, false, false, true, false, false] rfl rfl rfl rfl (two_of HT_.out (by kernel_rfl)) (by decide) (by decide) (fun K hK => ?_) (fun K hK => ?_)
      ·
       refine goes_ Try.func34 (by kernel_rfl) rfl #[.agg #[.int .i64 t758, .int .i64 t759, .int .i64 t760, .int .i64 t761], .agg #[.int .i64 t762, .int .i64 t763, .int .i64 t764, .int .i64 t765]] (by rfl) rfl rfl (by (try simp only [List.map_toArray, List.map_cons, List.map_nil]); first | done | rfl | (simp only [List.length_drop, List.length_take]; rfl)) ?_
       with_reducible refine (spec_SubtractIntervals.calls k t758 t759 t760 t761 t762 t763 t764 t765 t766 t767 t768 t769 t770 _ A5.out).mono ?_
       rintro e w17 ⟨rfl, hb⟩
       refine ⟨_, rfl, ?_⟩
       have n0_ := Aside0.mk (zbb BK756 hb)
       have n1_ := Aside0.mk (zbb BK757 hb)
       have n2_ := Aside0.mk (below_step (z11_1 HB) hb)
       clear BK756 BK757 HB
       have BK756 := n0_; have BK757 := n1_; have HB := n2_
       clear n0_ n1_ n2_
       (try clear hb)
       (try clear hb2)
       (try clear hk)
       (try clear hi)
       refine hK.out _ _ ⟨zc BK756 0, zc BK756 1, zc BK756 2, zc BK756 3, zc BK757 0, zc BK757 1, zc BK757 2, zc BK757 3⟩ (fun hHeld => ?_)
       clear hK K
       refine norm_ (a' := ?_) ?_ ?_
       rotate_left
       ·
        show Act.put _ (some 14) _ = _
        simp only [Act.put, List.setIfInBounds_toArray, List.set_cons_zero, List.set_cons_succ, i64_w, i32_w]; rfl
       refine pure_ (i := 5) (N := some 9) (v := ?_) (a' := ?_) #[true, true, true, true, true, true, false, false, false, false, false] rfl rfl (any_of HT_.out (by kernel_rfl)) (fun _ _ _ h => h) (Or.inl ⟨by rfl, ?_⟩) ?_ ?_
       rotate_left
       ·
        intro w'
        go_simp
        with_reducible rfl
       rotate_left
       ·
        simp only [Act.put, List.setIfInBounds_toArray, List.set_cons_zero, List.set_cons_succ, i64_w, i32_w]
        rfl
       refine pure_ (i := 6) (N := some 15) (v := ?_) (a' := ?_) #[true, true, true, true, true, true, true, false, false, false, false] rfl rfl (any_of HT_.out (by kernel_rfl)) (fun _ _ _ h => h) (Or.inl ⟨by rfl, ?_⟩) ?_ ?_
       rotate_left
       ·
        intro w'
        go_simp
        with_reducible rfl
       rotate_left
       ·
        simp only [Act.put, List.setIfInBounds_toArray, List.set_cons_zero, List.set_cons_succ, i64_w, i32_w]
        rfl
       refine pure_ (i := 7) (N := some 16) (v := ?_) (a' := ?_) #[true, true, true, true, true, true, true, true, false, false, false] rfl rfl (any_of HT_.out (by kernel_rfl)) (fun _ _ _ h => h) (Or.inl ⟨by rfl, ?_⟩) ?_ ?_
       rotate_left
       ·
        intro w'
        go_simp
        with_reducible rfl
       rotate_left
       ·
        simp only [Act.put, List.setIfInBounds_toArray, List.set_cons_zero, List.set_cons_succ, i64_w, i32_w]
        rfl
       refine one_ (i := 8) (N := some 5) #[true, true, true, true, true, true, true, true, true, false, false] rfl rfl (one_of HT_.out (by kernel_rfl)) (by decide) (fun K hK => ?_)
       refine box_step ?hg (N := 5) ?hd (cs := #[.int .i64 0, .int .i64 0, .int .i64 0, .int .i64 0]) (t := 29) ?hr ?_; (case hd => rfl); (case hg => rfl); (case hr => first | (go_simp; done) | (go_simp; rfl))
       intro gb771 hg w18 hbox hb
       have n0_ := Aside0.mk (zbb BK756 hb)
       have n1_ := Aside0.mk (zbb BK757 hb)
       have n2_ := Aside0.mk (below_step (z11_1 HB) hb)
       have BK771 := Aside0.mk (hbox)
       have GW771 := Aside0.mk ((by rw [hg]; exact (below_size (z11_1 HB)) : w.heap.size ≤ gb771))
       have GE771 := Aside0.mk ((by rw [hg]; exact (below_size (z11_1 HB)) : w.heap.size ≤ gb771))
       have NB756_771 := Aside0.mk (zlt BK756 hg)
       have NB771_756 := Aside0.mk (zgt BK756 hg)
       have NB757_771 := Aside0.mk (zlt BK757 hg)
       have NB771_757 := Aside0.mk (zgt BK757 hg)
       clear BK756 BK757 HB
       have BK756 := n0_; have BK757 := n1_; have HB := n2_
       clear n0_ n1_ n2_ hb hbox hg
       refine hK.out _ _ ⟨zc BK756 0, zc BK756 1, zc BK756 2, zc BK756 3, zc BK757 0, zc BK757 1, zc BK757 2, zc BK757 3⟩ (fun hHeld => ?_)
       clear hK K
       refine norm_ (a' := ?_) ?_ ?_
       rotate_left
       ·
        show Act.put _ (some 5) _ = _
        simp only [Act.put, List.setIfInBounds_toArray, List.set_cons_zero, List.set_cons_succ, i64_w, i32_w]; rfl
       exact norm_ (by simp only [putAll, Act.put, List.setIfInBounds_toArray, List.set_cons_zero, List.set_cons_succ]) (hCont (gb771) _ ⟨hHeld, (zq1 BK756), (zq1 BK757), (zq1 BK771), GW771.out, GE771.out, NB756_771.out, NB771_756.out, NB757_771.out, NB771_757.out, (z11_1 HB)⟩)
      ·
       refine box_step ?hg (N := 5) ?hd (cs := #[.int .i64 0, .int .i64 0, .int .i64 0, .int .i64 0]) (t := 29) ?hr ?_; (case hd => rfl); (case hg => rfl); (case hr => first | (go_simp; done) | (go_simp; rfl))
       intro gb771 hg w17 hbox hb
       have n0_ := Aside0.mk (zbb BK756 hb)
       have n1_ := Aside0.mk (zbb BK757 hb)
       have n2_ := Aside0.mk (below_step (z11_1 HB) hb)
       have BK771 := Aside0.mk (hbox)
       have GW771 := Aside0.mk ((by rw [hg]; exact (below_size (z11_1 HB)) : w.heap.size ≤ gb771))
       have GE771 := Aside0.mk ((by rw [hg]; exact (below_size (z11_1 HB)) : w.heap.size ≤ gb771))
       have NB756_771 := Aside0.mk (zlt BK756 hg)
       have NB771_756 := Aside0.mk (zgt BK756 hg)
       have NB757_771 := Aside0.mk (zlt BK757 hg)
       have NB771_757 := Aside0.mk (zgt BK757 hg)
       clear BK756 BK757 HB
       have BK756 := n0_; have BK757 := n1_; have HB := n2_
       clear n0_ n1_ n2_ hb hbox hg
       refine hK.out _ _ ⟨zc BK756 0, zc BK756 1, zc BK756 2, zc BK756 3, zc BK757 0, zc BK757 1, zc BK757 2, zc BK757 3⟩ (fun hHeld => ?_)
       clear hK K
       refine norm_ (a' := ?_) ?_ ?_
       rotate_left
       ·
        show Act.put _ (some 5) _ = _
        simp only [Act.put, List.setIfInBounds_toArray, List.set_cons_zero, List.set_cons_succ, i64_w, i32_w]; rfl
       refine one_ (i := 4) (N := some 14) #[true, true, true, true, true, false, false, false, true, false, false] rfl rfl (one_of HT_.out (by kernel_rfl)) (by decide) (fun K hK => ?_)
       refine goes_ Try.func34 (by kernel_rfl) rfl #[.agg #[.int .i64 t758, .int .i64 t759, .int .i64 t760, .int .i64 t761], .agg #[.int .i64 t762, .int .i64 t763, .int .i64 t764, .int .i64 t765]] (by rfl) rfl rfl (by (try simp only [List.map_toArray, List.map_cons, List.map_nil]); first | done | rfl | (simp only [List.length_drop, List.length_take]; rfl)) ?_
       with_reducible refine (spec_SubtractIntervals.calls k t758 t759 t760 t761 t762 t763 t764 t765 t766 t767 t768 t769 t770 _ A5.out).mono ?_
       rintro e w18 ⟨rfl, hb⟩
       refine ⟨_, rfl, ?_⟩
       have n0_ := Aside0.mk (zbb BK756 hb)
       have n1_ := Aside0.mk (zbb BK757 hb)
       have n2_ := Aside0.mk (zbb BK771 hb)
       have n3_ := Aside0.mk (below_step (z11_1 HB) hb)
       clear BK756 BK757 BK771 HB
       have BK756 := n0_; have BK757 := n1_; have BK771 := n2_; have HB := n3_
       clear n0_ n1_ n2_ n3_
       (try clear hb)
       (try clear hb2)
       (try clear hk)
       (try clear hi)
       refine hK.out _ _ ⟨zc BK756 0, zc BK756 1, zc BK756 2, zc BK756 3, zc BK757 0, zc BK757 1, zc BK757 2, zc BK757 3⟩ (fun hHeld => ?_)
       clear hK K
       refine norm_ (a' := ?_) ?_ ?_
       rotate_left
       ·
        show Act.put _ (some 14) _ = _
        simp only [Act.put, List.setIfInBounds_toArray, List.set_cons_zero, List.set_cons_succ, i64_w, i32_w]; rfl
       refine pure_ (i := 5) (N := some 9) (v := ?_) (a' := ?_) #[true, true, true, true, true, true, false, false, true, false, false] rfl rfl (any_of HT_.out (by kernel_rfl)) (fun _ _ _ h => h) (Or.inl ⟨by rfl, ?_⟩) ?_ ?_
       rotate_left
       ·
        intro w'
        go_simp
        with_reducible rfl
       rotate_left
       ·
        simp only [Act.put, List.setIfInBounds_toArray, List.set_cons_zero, List.set_cons_succ, i64_w, i32_w]
        rfl
       refine pure_ (i := 6) (N := some 15) (v := ?_) (a' := ?_) #[true, true, true, true, true, true, true, false, true, false, false] rfl rfl (any_of HT_.out (by kernel_rfl)) (fun _ _ _ h => h) (Or.inl ⟨by rfl, ?_⟩) ?_ ?_
       rotate_left
       ·
        intro w'
        go_simp
        with_reducible rfl
       rotate_left
       ·
        simp only [Act.put, List.setIfInBounds_toArray, List.set_cons_zero, List.set_cons_succ, i64_w, i32_w]
        rfl
       refine pure_ (i := 7) (N := some 16) (v := ?_) (a' := ?_) #[true, true, true, true, true, true, true, true, true, false, false] rfl rfl (any_of HT_.out (by kernel_rfl)) (fun _ _ _ h => h) (Or.inl ⟨by rfl, ?_⟩) ?_ ?_
       rotate_left
       ·
        intro w'
        go_simp
        with_reducible rfl
       rotate_left
       ·
        simp only [Act.put, List.setIfInBounds_toArray, List.set_cons_zero, List.set_cons_succ, i64_w, i32_w]
        rfl
       exact norm_ (by simp only [putAll, Act.put, List.setIfInBounds_toArray, List.set_cons_zero, List.set_cons_succ]) (hCont (gb771) _ ⟨hHeld, (zq1 BK756), (zq1 BK757), (zq1 BK771), GW771.out, GE771.out, NB756_771.out, NB771_756.out, NB757_771.out, NB771_757.out, (z11_1 HB)⟩)
     ·
      refine box_step ?hg (N := 5) ?hd (cs := #[.int .i64 0, .int .i64 0, .int .i64 0, .int .i64 0]) (t := 29) ?hr ?_; (case hd => rfl); (case hg => rfl); (case hr => first | (go_simp; done) | (go_simp; rfl))
      intro gb771 hg w16 hbox hb
      have n0_ := Aside0.mk (zbb BK756 hb)
      have n1_ := Aside0.mk (zbb BK757 hb)
      have n2_ := Aside0.mk (below_step (z11_1 HB) hb)
      have BK771 := Aside0.mk (hbox)
      have GW771 := Aside0.mk ((by rw [hg]; exact (below_size (z11_1 HB)) : w.heap.size ≤ gb771))
      have GE771 := Aside0.mk ((by rw [hg]; exact (below_size (z11_1 HB)) : w.heap.size ≤ gb771))
      have NB756_771 := Aside0.mk (zlt BK756 hg)
      have NB771_756 := Aside0.mk (zgt BK756 hg)
      have NB757_771 := Aside0.mk (zlt BK757 hg)
      have NB771_757 := Aside0.mk (zgt BK757 hg)
      clear BK756 BK757 HB
      have BK756 := n0_; have BK757 := n1_; have HB := n2_
      clear n0_ n1_ n2_ hb hbox hg
      refine hK.out _ _ ⟨zc BK756 0, zc BK756 1, zc BK756 2, zc BK756 3, zc BK757 0, zc BK757 1, zc BK757 2, zc BK757 3⟩ (fun hHeld => ?_)
      clear hK K
      refine norm_ (a' := ?_) ?_ ?_
      rotate_left
      ·
       show Act.put _ (some 5) _ = _
       simp only [Act.put, List.setIfInBounds_toArray, List.set_cons_zero, List.set_cons_succ, i64_w, i32_w]; rfl
      refine one_ (i := 3) (N := some 13) #[true, true, true, true, false, false, false, false, true, false, false] rfl rfl (one_of HT_.out (by kernel_rfl)) (by decide) (fun K hK => ?_)
      refine goes_ Try.func16 (by kernel_rfl) rfl #[.agg #[.int .i64 a1_0, .int .i64 a1_1, .int .i64 a1_2, .int .i64 a1_3]] (by rfl) rfl rfl (by (try simp only [List.map_toArray, List.map_cons, List.map_nil]); first | done | rfl | (simp only [List.length_drop, List.length_take]; rfl)) ?_
      with_reducible refine (laws_toInterval.calls a1_0 a1_1 a1_2 a1_3 t762 t763 t764 t765 _ A4.out).mono ?_
      rintro e w17 ⟨rfl, hb⟩
      refine ⟨_, rfl, ?_⟩
      have n0_ := Aside0.mk (zbb BK756 hb)
      have n1_ := Aside0.mk (zbb BK757 hb)
      have n2_ := Aside0.mk (zbb BK771 hb)
      have n3_ := Aside0.mk (below_step (z11_1 HB) hb)
      clear BK756 BK757 BK771 HB
      have BK756 := n0_; have BK757 := n1_; have BK771 := n2_; have HB := n3_
      clear n0_ n1_ n2_ n3_
      (try clear hb)
      (try clear hb2)
      (try clear hk)
      (try clear hi)
      refine hK.out _ _ ⟨zc BK756 0, zc BK756 1, zc BK756 2, zc BK756 3, zc BK757 0, zc BK757 1, zc BK757 2, zc BK757 3⟩ (fun hHeld => ?_)
      clear hK K
      refine norm_ (a' := ?_) ?_ ?_
      rotate_left
      ·
       show Act.put _ (some 13) _ = _
       simp only [Act.put, List.setIfInBounds_toArray, List.set_cons_zero, List.set_cons_succ, i64_w, i32_w]; rfl
      refine one_ (i := 4) (N := some 14) #[true, true, true, true, true, false, false, false, true, false, false] rfl rfl (one_of HT_.out (by kernel_rfl)) (by decide) (fun K hK => ?_)
      refine goes_ Try.func34 (by kernel_rfl) rfl #[.agg #[.int .i64 t758, .int .i64 t759, .int .i64 t760, .int .i64 t761], .agg #[.int .i64 t762, .int .i64 t763, .int .i64 t764, .int .i64 t765]] (by rfl) rfl rfl (by (try simp only [List.map_toArray, List.map_cons, List.map_nil]); first | done | rfl | (simp only [List.length_drop, List.length_take]; rfl)) ?_
      with_reducible refine (spec_SubtractIntervals.calls k t758 t759 t760 t761 t762 t763 t764 t765 t766 t767 t768 t769 t770 _ A5.out).mono ?_
      rintro e w18 ⟨rfl, hb⟩
      refine ⟨_, rfl, ?_⟩
      have n0_ := Aside0.mk (zbb BK756 hb)
      have n1_ := Aside0.mk (zbb BK757 hb)
      have n2_ := Aside0.mk (zbb BK771 hb)
      have n3_ := Aside0.mk (below_step (z11_1 HB) hb)
      clear BK756 BK757 BK771 HB
      have BK756 := n0_; have BK757 := n1_; have BK771 := n2_; have HB := n3_
      clear n0_ n1_ n2_ n3_
      (try clear hb)
      (try clear hb2)
      (try clear hk)
      (try clear hi)
      refine hK.out _ _ ⟨zc BK756 0, zc BK756 1, zc BK756 2, zc BK756 3, zc BK757 0, zc BK757 1, zc BK757 2, zc BK757 3⟩ (fun hHeld => ?_)
      clear hK K
      refine norm_ (a' := ?_) ?_ ?_
      rotate_left
      ·
       show Act.put _ (some 14) _ = _
       simp only [Act.put, List.setIfInBounds_toArray, List.set_cons_zero, List.set_cons_succ, i64_w, i32_w]; rfl
      refine pure_ (i := 5) (N := some 9) (v := ?_) (a' := ?_) #[true, true, true, true, true, true, false, false, true, false, false] rfl rfl (any_of HT_.out (by kernel_rfl)) (fun _ _ _ h => h) (Or.inl ⟨by rfl, ?_⟩) ?_ ?_
      rotate_left
      ·
       intro w'
       go_simp
       with_reducible rfl
      rotate_left
      ·
       simp only [Act.put, List.setIfInBounds_toArray, List.set_cons_zero, List.set_cons_succ, i64_w, i32_w]
       rfl
      refine pure_ (i := 6) (N := some 15) (v := ?_) (a' := ?_) #[true, true, true, true, true, true, true, false, true, false, false] rfl rfl (any_of HT_.out (by kernel_rfl)) (fun _ _ _ h => h) (Or.inl ⟨by rfl, ?_⟩) ?_ ?_
      rotate_left
      ·
       intro w'
       go_simp
       with_reducible rfl
      rotate_left
      ·
       simp only [Act.put, List.setIfInBounds_toArray, List.set_cons_zero, List.set_cons_succ, i64_w, i32_w]
       rfl
      refine pure_ (i := 7) (N := some 16) (v := ?_) (a' := ?_) #[true, true, true, true, true, true, true, true, true, false, false] rfl rfl (any_of HT_.out (by kernel_rfl)) (fun _ _ _ h => h) (Or.inl ⟨by rfl, ?_⟩) ?_ ?_
      rotate_left
      ·
       intro w'
       go_simp
       with_reducible rfl
      rotate_left
      ·
       simp only [Act.put, List.setIfInBounds_toArray, List.set_cons_zero, List.set_cons_succ, i64_w, i32_w]
       rfl
      exact norm_ (by simp only [putAll, Act.put, List.setIfInBounds_toArray, List.set_cons_zero, List.set_cons_succ]) (hCont (gb771) _ ⟨hHeld, (zq1 BK756), (zq1 BK757), (zq1 BK771), GW771.out, GE771.out, NB756_771.out, NB771_756.out, NB757_771.out, NB771_757.out, (z11_1 HB)⟩)
    ·
     refine box_step ?hg (N := 5) ?hd (cs := #[.int .i64 0, .int .i64 0, .int .i64 0, .int .i64 0]) (t := 29) ?hr ?_; (case hd => rfl); (case hg => rfl); (case hr => first | (go_simp; done) | (go_simp; rfl))
     intro gb771 hg w15 hbox hb
     have n0_ := Aside0.mk (zbb BK756 hb)
     have n1_ := Aside0.mk (zbb BK757 hb)
     have n2_ := Aside0.mk (below_step (z11_1 HB) hb)
     have BK771 := Aside0.mk (hbox)
     have GW771 := Aside0.mk ((by rw [hg]; exact (below_size (z11_1 HB)) : w.heap.size ≤ gb771))
     have GE771 := Aside0.mk ((by rw [hg]; exact (below_size (z11_1 HB)) : w.heap.size ≤ gb771))
     have NB756_771 := Aside0.mk (zlt BK756 hg)
     have NB771_756 := Aside0.mk (zgt BK756 hg)
     have NB757_771 := Aside0.mk (zlt BK757 hg)
     have NB771_757 := Aside0.mk (zgt BK757 hg)
     clear BK756 BK757 HB
     have BK756 := n0_; have BK757 := n1_; have HB := n2_
     clear n0_ n1_ n2_ hb hbox hg
     refine hK.out _ _ ⟨zc BK756 0, zc BK756 1, zc BK756 2, zc BK756 3, zc BK757 0, zc BK757 1, zc BK757 2, zc BK757 3⟩ (fun hHeld => ?_)
     clear hK K
     refine norm_ (a' := ?_) ?_ ?_
     rotate_left
     ·
      show Act.put _ (some 5) _ = _
      simp only [Act.put, List.setIfInBounds_toArray, List.set_cons_zero, List.set_cons_succ, i64_w, i32_w]; rfl
     refine one_ (i := 1) (N := some 11) #[true, true, true, false, false, false, false, false, true, false, false] rfl rfl (one_of HT_.out (by kernel_rfl)) (by decide) (fun K hK => ?_)
     refine goes_ Try.func16 (by kernel_rfl) rfl #[.agg #[.int .i64 a0_0, .int .i64 a0_1, .int .i64 a0_2, .int .i64 a0_3]] (by rfl) rfl rfl (by (try simp only [List.map_toArray, List.map_cons, List.map_nil]); first | done | rfl | (simp only [List.length_drop, List.length_take]; rfl)) ?_
     with_reducible refine (laws_toInterval.calls a0_0 a0_1 a0_2 a0_3 t758 t759 t760 t761 _ A3.out).mono ?_
     rintro e w16 ⟨rfl, hb⟩
     refine ⟨_, rfl, ?_⟩
     have n0_ := Aside0.mk (zbb BK756 hb)
     have n1_ := Aside0.mk (zbb BK757 hb)
     have n2_ := Aside0.mk (zbb BK771 hb)
     have n3_ := Aside0.mk (below_step (z11_1 HB) hb)
     clear BK756 BK757 BK771 HB
     have BK756 := n0_; have BK757 := n1_; have BK771 := n2_; have HB := n3_
     clear n0_ n1_ n2_ n3_
     (try clear hb)
     (try clear hb2)
     (try clear hk)
     (try clear hi)
     refine hK.out _ _ ⟨zc BK756 0, zc BK756 1, zc BK756 2, zc BK756 3, zc BK757 0, zc BK757 1, zc BK757 2, zc BK757 3⟩ (fun hHeld => ?_)
     clear hK K
     refine norm_ (a' := ?_) ?_ ?_
     rotate_left
     ·
      show Act.put _ (some 11) _ = _
      simp only [Act.put, List.setIfInBounds_toArray, List.set_cons_zero, List.set_cons_succ, i64_w, i32_w]; rfl
     refine one_ (i := 3) (N := some 13) #[true, true, true, true, false, false, false, false, true, false, false] rfl rfl (one_of HT_.out (by kernel_rfl)) (by decide) (fun K hK => ?_)
     refine goes_ Try.func16 (by kernel_rfl) rfl #[.agg #[.int .i64 a1_0, .int .i64 a1_1, .int .i64 a1_2, .int .i64 a1_3]] (by rfl) rfl rfl (by (try simp only [List.map_toArray, List.map_cons, List.map_nil]); first | done | rfl | (simp only [List.length_drop, List.length_take]; rfl)) ?_
     with_reducible refine (laws_toInterval.calls a1_0 a1_1 a1_2 a1_3 t762 t763 t764 t765 _ A4.out).mono ?_
     rintro e w17 ⟨rfl, hb⟩
     refine ⟨_, rfl, ?_⟩
     have n0_ := Aside0.mk (zbb BK756 hb)
     have n1_ := Aside0.mk (zbb BK757 hb)
     have n2_ := Aside0.mk (zbb BK771 hb)
     have n3_ := Aside0.mk (below_step (z11_1 HB) hb)
     clear BK756 BK757 BK771 HB
     have BK756 := n0_; have BK757 := n1_; have BK771 := n2_; have HB := n3_
     clear n0_ n1_ n2_ n3_
     (try clear hb)
     (try clear hb2)
     (try clear hk)
     (try clear hi)
     refine hK.out _ _ ⟨zc BK756 0, zc BK756 1, zc BK756 2, zc BK756 3, zc BK757 0, zc BK757 1, zc BK757 2, zc BK757 3⟩ (fun hHeld => ?_)
     clear hK K
     refine norm_ (a' := ?_) ?_ ?_
     rotate_left
     ·
      show Act.put _ (some 13) _ = _
      simp only [Act.put, List.setIfInBounds_toArray, List.set_cons_zero, List.set_cons_succ, i64_w, i32_w]; rfl
     refine one_ (i := 4) (N := some 14) #[true, true, true, true, true, false, false, false, true, false, false] rfl rfl (one_of HT_.out (by kernel_rfl)) (by decide) (fun K hK => ?_)
     refine goes_ Try.func34 (by kernel_rfl) rfl #[.agg #[.int .i64 t758, .int .i64 t759, .int .i64 t760, .int .i64 t761], .agg #[.int .i64 t762, .int .i64 t763, .int .i64 t764, .int .i64 t765]] (by rfl) rfl rfl (by (try simp only [List.map_toArray, List.map_cons, List.map_nil]); first | done | rfl | (simp only [List.length_drop, List.length_take]; rfl)) ?_
     with_reducible refine (spec_SubtractIntervals.calls k t758 t759 t760 t761 t762 t763 t764 t765 t766 t767 t768 t769 t770 _ A5.out).mono ?_
     rintro e w18 ⟨rfl, hb⟩
     refine ⟨_, rfl, ?_⟩
     have n0_ := Aside0.mk (zbb BK756 hb)
     have n1_ := Aside0.mk (zbb BK757 hb)
     have n2_ := Aside0.mk (zbb BK771 hb)
     have n3_ := Aside0.mk (below_step (z11_1 HB) hb)
     clear BK756 BK757 BK771 HB
     have BK756 := n0_; have BK757 := n1_; have BK771 := n2_; have HB := n3_
     clear n0_ n1_ n2_ n3_
     (try clear hb)
     (try clear hb2)
     (try clear hk)
     (try clear hi)
     refine hK.out _ _ ⟨zc BK756 0, zc BK756 1, zc BK756 2, zc BK756 3, zc BK757 0, zc BK757 1, zc BK757 2, zc BK757 3⟩ (fun hHeld => ?_)
     clear hK K
     refine norm_ (a' := ?_) ?_ ?_
     rotate_left
     ·
      show Act.put _ (some 14) _ = _
      simp only [Act.put, List.setIfInBounds_toArray, List.set_cons_zero, List.set_cons_succ, i64_w, i32_w]; rfl
     refine pure_ (i := 5) (N := some 9) (v := ?_) (a' := ?_) #[true, true, true, true, true, true, false, false, true, false, false] rfl rfl (any_of HT_.out (by kernel_rfl)) (fun _ _ _ h => h) (Or.inl ⟨by rfl, ?_⟩) ?_ ?_
     rotate_left
     ·
      intro w'
      go_simp
      with_reducible rfl
     rotate_left
     ·
      simp only [Act.put, List.setIfInBounds_toArray, List.set_cons_zero, List.set_cons_succ, i64_w, i32_w]
      rfl
     refine pure_ (i := 6) (N := some 15) (v := ?_) (a' := ?_) #[true, true, true, true, true, true, true, false, true, false, false] rfl rfl (any_of HT_.out (by kernel_rfl)) (fun _ _ _ h => h) (Or.inl ⟨by rfl, ?_⟩) ?_ ?_
     rotate_left
     ·
      intro w'
      go_simp
      with_reducible rfl
     rotate_left
     ·
      simp only [Act.put, List.setIfInBounds_toArray, List.set_cons_zero, List.set_cons_succ, i64_w, i32_w]
      rfl
     refine pure_ (i := 7) (N := some 16) (v := ?_) (a' := ?_) #[true, true, true, true, true, true, true, true, true, false, false] rfl rfl (any_of HT_.out (by kernel_rfl)) (fun _ _ _ h => h) (Or.inl ⟨by rfl, ?_⟩) ?_ ?_
     rotate_left
     ·
      intro w'
      go_simp
      with_reducible rfl
     rotate_left
     ·
      simp only [Act.put, List.setIfInBounds_toArray, List.set_cons_zero, List.set_cons_succ, i64_w, i32_w]
      rfl
     exact norm_ (by simp only [putAll, Act.put, List.setIfInBounds_toArray, List.set_cons_zero, List.set_cons_succ]) (hCont (gb771) _ ⟨hHeld, (zq1 BK756), (zq1 BK757), (zq1 BK771), GW771.out, GE771.out, NB756_771.out, NB771_756.out, NB757_771.out, NB771_757.out, (z11_1 HB)⟩)
   rintro gb771 w19 ⟨hS_, h0_, h1_, h2_, h3_, h4_, h5_, h6_, h7_, h8_, h9_⟩
   have n0_ : Aside0 (w19.heap[gb756]? = some (.cells #[.int .i64 a0_0, .int .i64 a0_1, .int .i64 a0_2, .int .i64 a0_3] 25 (0, 0))) := ⟨h0_⟩
   have n1_ : Aside0 (w19.heap[gb757]? = some (.cells #[.int .i64 a1_0, .int .i64 a1_1, .int .i64 a1_2, .int .i64 a1_3] 25 (0, 0))) := ⟨h1_⟩
   have BK771 : Aside0 (w19.heap[gb771]? = some (.cells #[.int .i64 0, .int .i64 0, .int .i64 0, .int .i64 0] 29 (0, 0))) := ⟨h2_⟩
   have GW771 : Aside0 (w.heap.size ≤ gb771) := ⟨h3_⟩
   have GE771 : Aside0 (w.heap.size ≤ gb771) := ⟨h4_⟩
   have NB756_771 : Aside0 (gb756 ≠ gb771) := ⟨h5_⟩
   have NB771_756 : Aside0 (gb771 ≠ gb756) := ⟨h6_⟩
   have NB757_771 : Aside0 (gb757 ≠ gb771) := ⟨h7_⟩
   have NB771_757 : Aside0 (gb771 ≠ gb757) := ⟨h8_⟩
   have n9_ : Aside0 (Below w.heap.size w w19) := ⟨h9_⟩
   clear BK756 BK757 HB h0_ h1_ h2_ h3_ h4_ h5_ h6_ h7_ h8_ h9_
   have BK756 := n0_; have BK757 := n1_; have HB := n9_
   clear n0_ n1_ n9_
   have hHeld : w19.cell? ⟨gb756, 0, none⟩ = some (.int .i64 a0_0) ∧ w19.cell? ⟨gb756, 1, none⟩ = some (.int .i64 a0_1) ∧ w19.cell? ⟨gb756, 2, none⟩ = some (.int .i64 a0_2) ∧ w19.cell? ⟨gb756, 3, none⟩ = some (.int .i64 a0_3) ∧ w19.cell? ⟨gb757, 0, none⟩ = some (.int .i64 a1_0) ∧ w19.cell? ⟨gb757, 1, none⟩ = some (.int .i64 a1_1) ∧ w19.cell? ⟨gb757, 2, none⟩ = some (.int .i64 a1_2) ∧ w19.cell? ⟨gb757, 3, none⟩ = some (.int .i64 a1_3) := hS_
   refine norm_ (a' := ?_) ?_ ?_
   rotate_left
   ·
    simp only [putAll, Act.put, List.setIfInBounds_toArray, List.set_cons_zero, List.set_cons_succ]
    rfl
   refine one_ (i := 9) (N := none) #[true, true, true, true, true, true, true, true, true, true, false] rfl rfl (one_of HT_.out (by kernel_rfl)) (by decide) (fun K hK => ?_)
   have hs20 : w19.cell? ⟨gb771, 0, none⟩ = some (.int .i64 0) := zc BK771 0
   have hfs20 := blk_frozen BK771.out 0
   have hns20_0 := NB756_771.out
   have hns20_1 := NB757_771.out
   have hms20_0 := NB771_756.out
   have hms20_1 := NB771_757.out
   have hs21 : w19.cell? ⟨gb771, 1, none⟩ = some (.int .i64 0) := zc BK771 1
   have hfs21 := blk_frozen BK771.out 1
   have hns21_0 := NB756_771.out
   have hns21_1 := NB757_771.out
   have hms21_0 := NB771_756.out
   have hms21_1 := NB771_757.out
   have hs22 : w19.cell? ⟨gb771, 2, none⟩ = some (.int .i64 0) := zc BK771 2
   have hfs22 := blk_frozen BK771.out 2
   have hns22_0 := NB756_771.out
   have hns22_1 := NB757_771.out
   have hms22_0 := NB771_756.out
   have hms22_1 := NB771_757.out
   have hs23 : w19.cell? ⟨gb771, 3, none⟩ = some (.int .i64 0) := zc BK771 3
   have hfs23 := blk_frozen BK771.out 3
   have hns23_0 := NB756_771.out
   have hns23_1 := NB757_771.out
   have hms23_0 := NB771_756.out
   have hms23_1 := NB771_757.out
   refine skip_ (w1 := ?_) (by rfl) rfl ?_ ?_
   rotate_left
   ·
    go_simp
    rfl
   refine hK.out _ _ ⟨((cell_far (p := ⟨gb771, _, none⟩) NB756_771.out _).trans (((cell_far (p := ⟨gb771, _, none⟩) NB756_771.out _).trans (((cell_far (p := ⟨gb771, _, none⟩) NB756_771.out _).trans (((cell_far (p := ⟨gb771, _, none⟩) NB756_771.out _).trans (hHeld.1)))))))), ((cell_far (p := ⟨gb771, _, none⟩) NB756_771.out _).trans (((cell_far (p := ⟨gb771, _, none⟩) NB756_771.out _).trans (((cell_far (p := ⟨gb771, _, none⟩) NB756_771.out _).trans (((cell_far (p := ⟨gb771, _, none⟩) NB756_771.out _).trans (hHeld.2.1)))))))), ((cell_far (p := ⟨gb771, _, none⟩) NB756_771.out _).trans (((cell_far (p := ⟨gb771, _, none⟩) NB756_771.out _).trans (((cell_far (p := ⟨gb771, _, none⟩) NB756_771.out _).trans (((cell_far (p := ⟨gb771, _, none⟩) NB756_771.out _).trans (hHeld.2.2.1)))))))), ((cell_far (p := ⟨gb771, _, none⟩) NB756_771.out _).trans (((cell_far (p := ⟨gb771, _, none⟩) NB756_771.out _).trans (((cell_far (p := ⟨gb771, _, none⟩) NB756_771.out _).trans (((cell_far (p := ⟨gb771, _, none⟩) NB756_771.out _).trans (hHeld.2.2.2.1)))))))), ((cell_far (p := ⟨gb771, _, none⟩) NB757_771.out _).trans (((cell_far (p := ⟨gb771, _, none⟩) NB757_771.out _).trans (((cell_far (p := ⟨gb771, _, none⟩) NB757_771.out _).trans (((cell_far (p := ⟨gb771, _, none⟩) NB757_771.out _).trans (hHeld.2.2.2.2.1)))))))), ((cell_far (p := ⟨gb771, _, none⟩) NB757_771.out _).trans (((cell_far (p := ⟨gb771, _, none⟩) NB757_771.out _).trans (((cell_far (p := ⟨gb771, _, none⟩) NB757_771.out _).trans (((cell_far (p := ⟨gb771, _, none⟩) NB757_771.out _).trans (hHeld.2.2.2.2.2.1)))))))), ((cell_far (p := ⟨gb771, _, none⟩) NB757_771.out _).trans (((cell_far (p := ⟨gb771, _, none⟩) NB757_771.out _).trans (((cell_far (p := ⟨gb771, _, none⟩) NB757_771.out _).trans (((cell_far (p := ⟨gb771, _, none⟩) NB757_771.out _).trans (hHeld.2.2.2.2.2.2.1)))))))), ((cell_far (p := ⟨gb771, _, none⟩) NB757_771.out _).trans (((cell_far (p := ⟨gb771, _, none⟩) NB757_771.out _).trans (((cell_far (p := ⟨gb771, _, none⟩) NB757_771.out _).trans (((cell_far (p := ⟨gb771, _, none⟩) NB757_771.out _).trans (hHeld.2.2.2.2.2.2.2))))))))⟩ (fun hHeld => ?_)
   clear hK K
   refine pure_ (i := 10) (N := some 6) (v := ?_) (a' := ?_) #[true, true, true, true, true, true, true, true, true, true, true] rfl rfl (any_of HT_.out (by kernel_rfl)) (fun _ _ _ h => h) (Or.inl ⟨by rfl, ?_⟩) ?_ ?_
   rotate_left
   ·
    intro w'
    go_simp
    with_reducible rfl
   rotate_left
   ·
    simp only [Act.put, List.setIfInBounds_toArray, List.set_cons_zero, List.set_cons_succ, i64_w, i32_w]
    rfl
   refine done_ (done_of HT_.out (by kernel_rfl)) ?_
   try go_wp2
   have n0_ : Aside0 (((((w19.setCell ⟨gb771, 0, none⟩ (.int .i64 t766)).setCell ⟨gb771, 1, none⟩ (.int .i64 t767)).setCell ⟨gb771, 2, none⟩ (.int .i64 t768)).setCell ⟨gb771, 3, none⟩ (.int .i64 t769)).heap[gb756]? = some (.cells #[.int .i64 a0_0, .int .i64 a0_1, .int .i64 a0_2, .int .i64 a0_3] 25 (0, 0))) := ⟨zq5 BK756⟩
   have n1_ : Aside0 (((((w19.setCell ⟨gb771, 0, none⟩ (.int .i64 t766)).setCell ⟨gb771, 1, none⟩ (.int .i64 t767)).setCell ⟨gb771, 2, none⟩ (.int .i64 t768)).setCell ⟨gb771, 3, none⟩ (.int .i64 t769)).heap[gb757]? = some (.cells #[.int .i64 a1_0, .int .i64 a1_1, .int .i64 a1_2, .int .i64 a1_3] 25 (0, 0))) := ⟨zq5 BK757⟩
   have n2_ : Aside0 (((((w19.setCell ⟨gb771, 0, none⟩ (.int .i64 t766)).setCell ⟨gb771, 1, none⟩ (.int .i64 t767)).setCell ⟨gb771, 2, none⟩ (.int .i64 t768)).setCell ⟨gb771, 3, none⟩ (.int .i64 t769)).heap[gb771]? = some (.cells #[.int .i64 t766, .int .i64 t767, .int .i64 t768, .int .i64 t769] 29 (0, 0))) := ⟨by (with_reducible repeat (first | refine blk_drewN ?_ _ | refine blk_drew ?_ | refine blk_alloc ?_ _)); refine blk_put (cs := #[.int .i64 t766, .int .i64 t767, .int .i64 t768, .int .i64 0]) ?_ 3 _ rfl; (with_reducible repeat (first | refine blk_drewN ?_ _ | refine blk_drew ?_ | refine blk_alloc ?_ _)); refine blk_put (cs := #[.int .i64 t766, .int .i64 t767, .int .i64 0, .int .i64 0]) ?_ 2 _ rfl; (with_reducible repeat (first | refine blk_drewN ?_ _ | refine blk_drew ?_ | refine blk_alloc ?_ _)); refine blk_put (cs := #[.int .i64 t766, .int .i64 0, .int .i64 0, .int .i64 0]) ?_ 1 _ rfl; (with_reducible repeat (first | refine blk_drewN ?_ _ | refine blk_drew ?_ | refine blk_alloc ?_ _)); refine blk_put (cs := #[.int .i64 0, .int .i64 0, .int .i64 0, .int .i64 0]) ?_ 0 _ rfl; (with_reducible repeat (first | refine blk_drewN ?_ _ | refine blk_drew ?_ | refine blk_alloc ?_ _)); exact BK771.out⟩
   have n3_ : Aside0 (Below w.heap.size w ((((w19.setCell ⟨gb771, 0, none⟩ (.int .i64 t766)).setCell ⟨gb771, 1, none⟩ (.int .i64 t767)).setCell ⟨gb771, 2, none⟩ (.int .i64 t768)).setCell ⟨gb771, 3, none⟩ (.int .i64 t769))) := ⟨(z11_1 HB)⟩
   (try clear BK756)
   (try clear BK757)
   (try clear BK771)
   (try clear HB)
   generalize ((((w19.setCell ⟨gb771, 0, none⟩ (.int .i64 t766)).setCell ⟨gb771, 1, none⟩ (.int .i64 t767)).setCell ⟨gb771, 2, none⟩ (.int .i64 t768)).setCell ⟨gb771, 3, none⟩ (.int .i64 t769)) = w24 at n0_ n1_ n2_ n3_ ⊢
   have BK756 := n0_; have BK757 := n1_; have BK771 := n2_; have HB := n3_
   clear n0_ n1_ n2_ n3_
   have n0_ := Aside0.mk (blk_drew BK756.out)
   have n1_ := Aside0.mk (blk_drew BK757.out)
   have n2_ := Aside0.mk (blk_drew BK771.out)
   have n3_ := Aside0.mk (below_drew1 HB.out)
   clear BK756 BK757 BK771 HB
   have BK756 := n0_; have BK757 := n1_; have BK771 := n2_; have HB := n3_
   clear n0_ n1_ n2_ n3_
   refine start_ (n := 11) (S := fun w' => w'.cell? ⟨gb756, 0, none⟩ = some (.int .i64 a0_0) ∧ w'.cell? ⟨gb756, 1, none⟩ = some (.int .i64 a0_1) ∧ w'.cell? ⟨gb756, 2, none⟩ = some (.int .i64 a0_2) ∧ w'.cell? ⟨gb756, 3, none⟩ = some (.int .i64 a0_3) ∧ w'.cell? ⟨gb757, 0, none⟩ = some (.int .i64 a1_0) ∧ w'.cell? ⟨gb757, 1, none⟩ = some (.int .i64 a1_1) ∧ w'.cell? ⟨gb757, 2, none⟩ = some (.int .i64 a1_2) ∧ w'.cell? ⟨gb757, 3, none⟩ = some (.int .i64 a1_3)) (ds := []) #[false, false, false, false, false, false, false, false, false, false, false] (by kernel_rfl) rfl rfl ⟨zc BK756 0, zc BK756 1, zc BK756 2, zc BK756 3, zc BK757 0, zc BK757 1, zc BK757 2, zc BK757 3⟩ (fun hHeld => ?_); refine with_tabW laws_FnExactSubtractIntervals.tab2 laws_FnExactSubtractIntervals.bits2 (fun HT_ HW_ => ?_)
   generalize w24.drew = w25 at BK756 BK757 BK771 HB hHeld ⊢
   refine take_ (i := 0) (N := some 18) (v := ?_) (a' := ?_) #[true, false, false, false, false, false, false, false, false, false, false] rfl rfl (take_ofW HT_.out HW_.out (by kernel_rfl)) (fun _ _ _ h => h) (Or.inl ⟨by rfl, ?_⟩) hHeld ?_ ?_
   rotate_left
   ·
    rintro w' ⟨s0, s1, s2, s3, s4, s5, s6, s7⟩
    go_simp
    with_reducible rfl
   rotate_left
   ·
    simp only [Act.put, List.setIfInBounds_toArray, List.set_cons_zero, List.set_cons_succ, i64_w, i32_w]
    rfl
   refine take_ (i := 2) (N := some 20) (v := ?_) (a' := ?_) #[true, false, true, false, false, false, false, false, false, false, false] rfl rfl (take_ofW HT_.out HW_.out (by kernel_rfl)) (fun _ _ _ h => h) (Or.inl ⟨by rfl, ?_⟩) hHeld ?_ ?_
   rotate_left
   ·
    rintro w' ⟨s0, s1, s2, s3, s4, s5, s6, s7⟩
    go_simp
    with_reducible rfl
   rotate_left
   ·
    simp only [Act.put, List.setIfInBounds_toArray, List.set_cons_zero, List.set_cons_succ, i64_w, i32_w]
    rfl
   refine join_ (σ := Nat) 2 #[true, true, true, true, true, true, true, true, true, false, false] (fun s_ => [(19, .agg #[.int .i64 t772, .int .i64 t773, .int .i64 t774, .int .i64 t775]), (21, .agg #[.int .i64 t776, .int .i64 t777, .int .i64 t778, .int .i64 t779]), (22, .tuple #[.agg #[.int .i64 t780, .int .i64 t781, .int .i64 t782, .int .i64 t783], .bool t784]), (7, .pointer (some ⟨s_, 0, none⟩)), (17, .tuple #[.agg #[.int .i64 t780, .int .i64 t781, .int .i64 t782, .int .i64 t783], .bool t784]), (23, .agg #[.int .i64 t780, .int .i64 t781, .int .i64 t782, .int .i64 t783]), (24, .bool t784)]) (fun s_ w' => (w'.cell? ⟨gb756, 0, none⟩ = some (.int .i64 a0_0) ∧ w'.cell? ⟨gb756, 1, none⟩ = some (.int .i64 a0_1) ∧ w'.cell? ⟨gb756, 2, none⟩ = some (.int .i64 a0_2) ∧ w'.cell? ⟨gb756, 3, none⟩ = some (.int .i64 a0_3) ∧ w'.cell? ⟨gb757, 0, none⟩ = some (.int .i64 a1_0) ∧ w'.cell? ⟨gb757, 1, none⟩ = some (.int .i64 a1_1) ∧ w'.cell? ⟨gb757, 2, none⟩ = some (.int .i64 a1_2) ∧ w'.cell? ⟨gb757, 3, none⟩ = some (.int .i64 a1_3)) ∧ (w'.heap[gb756]? = some (.cells #[.int .i64 a0_0, .int .i64 a0_1, .int .i64 a0_2, .int .i64 a0_3] 25 (0, 0))) ∧ (w'.heap[gb757]? = some (.cells #[.int .i64 a1_0, .int .i64 a1_1, .int .i64 a1_2, .int .i64 a1_3] 25 (0, 0))) ∧ (w'.heap[gb771]? = some (.cells #[.int .i64 t766, .int .i64 t767, .int .i64 t768, .int .i64 t769] 29 (0, 0))) ∧ (w'.heap[s_]? = some (.cells #[.int .i64 0, .int .i64 0, .int .i64 0, .int .i64 0] 29 (0, 0))) ∧ (w.heap.size ≤ s_) ∧ (w.heap.size ≤ s_) ∧ (gb756 ≠ s_) ∧ (s_ ≠ gb756) ∧ (gb757 ≠ s_) ∧ (s_ ≠ gb757) ∧ (gb771 ≠ s_) ∧ (s_ ≠ gb771) ∧ (Below w.heap.size w w')) ?_ ?_
   rotate_left
   ·
    intro hCont
    refine two_ (i := 1) (j := 8) (Ni := some 19) (Nj := some 7) #[true, true, true, false, false, false, false, false, false, false, false] #[true, false, true, false, false, false, false, false, true, false, false] rfl rfl rfl rfl (two_of HT_.out (by kernel_rfl)) (by decide) (by decide) (fun K hK => ?_) (fun K hK => ?_)
    ·
     refine goes_ Try.func16 (by kernel_rfl) rfl #[.agg #[.int .i64 a0_0, .int .i64 a0_1, .int .i64 a0_2, .int .i64 a0_3]] (by rfl) rfl rfl (by (try simp only [List.map_toArray, List.map_cons, List.map_nil]); first | done | rfl | (simp only [List.length_drop, List.length_take]; rfl)) ?_
     with_reducible refine (laws_toInterval.calls a0_0 a0_1 a0_2 a0_3 t772 t773 t774 t775 _ A6.out).mono ?_
     rintro e w26 ⟨rfl, hb⟩
     refine ⟨_, rfl, ?_⟩
     have n0_ := Aside0.mk (zbb BK756 hb)
     have n1_ := Aside0.mk (zbb BK757 hb)
     have n2_ := Aside0.mk (zbb BK771 hb)
     have n3_ := Aside0.mk (below_step (z11_1 HB) hb)
     clear BK756 BK757 BK771 HB
     have BK756 := n0_; have BK757 := n1_; have BK771 := n2_; have HB := n3_
     clear n0_ n1_ n2_ n3_
     (try clear hb)
     (try clear hb2)
     (try clear hk)
     (try clear hi)
     refine hK.out _ _ ⟨zc BK756 0, zc BK756 1, zc BK756 2, zc BK756 3, zc BK757 0, zc BK757 1, zc BK757 2, zc BK757 3⟩ (fun hHeld => ?_)
     clear hK K
     refine norm_ (a' := ?_) ?_ ?_
     rotate_left
     ·
      show Act.put _ (some 19) _ = _
      simp only [Act.put, List.setIfInBounds_toArray, List.set_cons_zero, List.set_cons_succ, i64_w, i32_w]; rfl
     refine two_ (i := 3) (j := 8) (Ni := some 21) (Nj := some 7) #[true, true, true, true, false, false, false, false, false, false, false] #[true, true, true, false, false, false, false, false, true, false, false] rfl rfl rfl rfl (two_of HT_.out (by kernel_rfl)) (by decide) (by decide) (fun K hK => ?_) (fun K hK => ?_)
     ·
      refine goes_ Try.func16 (by kernel_rfl) rfl #[.agg #[.int .i64 a1_0, .int .i64 a1_1, .int .i64 a1_2, .int .i64 a1_3]] (by rfl) rfl rfl (by (try simp only [List.map_toArray, List.map_cons, List.map_nil]); first | done | rfl | (simp only [List.length_drop, List.length_take]; rfl)) ?_
      with_reducible refine (laws_toInterval.calls a1_0 a1_1 a1_2 a1_3 t776 t777 t778 t779 _ A7.out).mono ?_
      rintro e w27 ⟨rfl, hb⟩
      refine ⟨_, rfl, ?_⟩
      have n0_ := Aside0.mk (zbb BK756 hb)
      have n1_ := Aside0.mk (zbb BK757 hb)
      have n2_ := Aside0.mk (zbb BK771 hb)
      have n3_ := Aside0.mk (below_step (z11_1 HB) hb)
      clear BK756 BK757 BK771 HB
      have BK756 := n0_; have BK757 := n1_; have BK771 := n2_; have HB := n3_
      clear n0_ n1_ n2_ n3_
      (try clear hb)
      (try clear hb2)
      (try clear hk)
      (try clear hi)
      refine hK.out _ _ ⟨zc BK756 0, zc BK756 1, zc BK756 2, zc BK756 3, zc BK757 0, zc BK757 1, zc BK757 2, zc BK757 3⟩ (fun hHeld => ?_)
      clear hK K
      refine norm_ (a' := ?_) ?_ ?_
      rotate_left
      ·
       show Act.put _ (some 21) _ = _
       simp only [Act.put, List.setIfInBounds_toArray, List.set_cons_zero, List.set_cons_succ, i64_w, i32_w]; rfl
      refine two_ (i := 4) (j := 8) (Ni := some 22) (Nj := some 7) #[true, true, true, true, true, false, false, false, false, false, false] #[true, true, true, true, false, false, false, false, true, false, false] rfl rfl rfl rfl (two_of HT_.out (by kernel_rfl)) (by decide) (by decide) (fun K hK => ?_) (fun K hK => ?_)
      ·
       refine goes_ Try.func35 (by kernel_rfl) rfl #[.agg #[.int .i64 t772, .int .i64 t773, .int .i64 t774, .int .i64 t775], .agg #[.int .i64 t776, .int .i64 t777, .int .i64 t778, .int .i64 t779]] (by rfl) rfl rfl (by (try simp only [List.map_toArray, List.map_cons, List.map_nil]); first | done | rfl | (simp only [List.length_drop, List.length_take]; rfl)) ?_
       with_reducible refine (impl_SubtractIntervals.calls k t772 t773 t774 t775 t776 t777 t778 t779 t780 t781 t782 t783 t784 _ A8.out).mono ?_
       rintro e w28 ⟨rfl, hb⟩
       refine ⟨_, rfl, ?_⟩
       have n0_ := Aside0.mk (zbb BK756 hb)
       have n1_ := Aside0.mk (zbb BK757 hb)
       have n2_ := Aside0.mk (zbb BK771 hb)
       have n3_ := Aside0.mk (below_step (z11_1 HB) hb)
       clear BK756 BK757 BK771 HB
       have BK756 := n0_; have BK757 := n1_; have BK771 := n2_; have HB := n3_
       clear n0_ n1_ n2_ n3_
       (try clear hb)
       (try clear hb2)
       (try clear hk)
       (try clear hi)
       refine hK.out _ _ ⟨zc BK756 0, zc BK756 1, zc BK756 2, zc BK756 3, zc BK757 0, zc BK757 1, zc BK757 2, zc BK757 3⟩ (fun hHeld => ?_)
       clear hK K
       refine norm_ (a' := ?_) ?_ ?_
       rotate_left
       ·
        show Act.put _ (some 22) _ = _
        simp only [Act.put, List.setIfInBounds_toArray, List.set_cons_zero, List.set_cons_succ, i64_w, i32_w]; rfl
       refine pure_ (i := 5) (N := some 17) (v := ?_) (a' := ?_) #[true, true, true, true, true, true, false, false, false, false, false] rfl rfl (any_of HT_.out (by kernel_rfl)) (fun _ _ _ h => h) (Or.inl ⟨by rfl, ?_⟩) ?_ ?_
       rotate_left
       ·
        intro w'
        go_simp
        with_reducible rfl
       rotate_left
       ·
        simp only [Act.put, List.setIfInBounds_toArray, List.set_cons_zero, List.set_cons_succ, i64_w, i32_w]
        rfl
       refine pure_ (i := 6) (N := some 23) (v := ?_) (a' := ?_) #[true, true, true, true, true, true, true, false, false, false, false] rfl rfl (any_of HT_.out (by kernel_rfl)) (fun _ _ _ h => h) (Or.inl ⟨by rfl, ?_⟩) ?_ ?_
       rotate_left
       ·
        intro w'
        go_simp
        with_reducible rfl
       rotate_left
       ·
        simp only [Act.put, List.setIfInBounds_toArray, List.set_cons_zero, List.set_cons_succ, i64_w, i32_w]
        rfl
       refine pure_ (i := 7) (N := some 24) (v := ?_) (a' := ?_) #[true, true, true, true, true, true, true, true, false, false, false] rfl rfl (any_of HT_.out (by kernel_rfl)) (fun _ _ _ h => h) (Or.inl ⟨by rfl, ?_⟩) ?_ ?_
       rotate_left
       ·
        intro w'
        go_simp
        with_reducible rfl
       rotate_left
       ·
        simp only [Act.put, List.setIfInBounds_toArray, List.set_cons_zero, List.set_cons_succ, i64_w, i32_w]
        rfl
       refine one_ (i := 8) (N := some 7) #[true, true, true, true, true, true, true, true, true, false, false] rfl rfl (one_of HT_.out (by kernel_rfl)) (by decide) (fun K hK => ?_)
       refine box_step ?hg (N := 7) ?hd (cs := #[.int .i64 0, .int .i64 0, .int .i64 0, .int .i64 0]) (t := 29) ?hr ?_; (case hd => rfl); (case hg => rfl); (case hr => first | (go_simp; done) | (go_simp; rfl))
       intro gb785 hg w29 hbox hb
       have n0_ := Aside0.mk (zbb BK756 hb)
       have n1_ := Aside0.mk (zbb BK757 hb)
       have n2_ := Aside0.mk (zbb BK771 hb)
       have n3_ := Aside0.mk (below_step (z11_1 HB) hb)
       have BK785 := Aside0.mk (hbox)
       have GW785 := Aside0.mk ((by rw [hg]; exact (below_size (z11_1 HB)) : w.heap.size ≤ gb785))
       have GE785 := Aside0.mk ((by rw [hg]; exact (below_size (z11_1 HB)) : w.heap.size ≤ gb785))
       have NB756_785 := Aside0.mk (zlt BK756 hg)
       have NB785_756 := Aside0.mk (zgt BK756 hg)
       have NB757_785 := Aside0.mk (zlt BK757 hg)
       have NB785_757 := Aside0.mk (zgt BK757 hg)
       have NB771_785 := Aside0.mk (zlt BK771 hg)
       have NB785_771 := Aside0.mk (zgt BK771 hg)
       clear BK756 BK757 BK771 HB
       have BK756 := n0_; have BK757 := n1_; have BK771 := n2_; have HB := n3_
       clear n0_ n1_ n2_ n3_ hb hbox hg
       refine hK.out _ _ ⟨zc BK756 0, zc BK756 1, zc BK756 2, zc BK756 3, zc BK757 0, zc BK757 1, zc BK757 2, zc BK757 3⟩ (fun hHeld => ?_)
       clear hK K
       refine norm_ (a' := ?_) ?_ ?_
       rotate_left
       ·
        show Act.put _ (some 7) _ = _
        simp only [Act.put, List.setIfInBounds_toArray, List.set_cons_zero, List.set_cons_succ, i64_w, i32_w]; rfl
       exact norm_ (by simp only [putAll, Act.put, List.setIfInBounds_toArray, List.set_cons_zero, List.set_cons_succ]) (hCont (gb785) _ ⟨hHeld, (zq1 BK756), (zq1 BK757), (zq1 BK771), (zq1 BK785), GW785.out, GE785.out, NB756_785.out, NB785_756.out, NB757_785.out, NB785_757.out, NB771_785.out, NB785_771.out, (z11_1 HB)⟩)
      ·
       refine box_step ?hg (N := 7) ?hd (cs := #[.int .i64 0, .int .i64 0, .int .i64 0, .int .i64 0]) (t := 29) ?hr ?_; (case hd => rfl); (case hg => rfl); (case hr => first | (go_simp; done) | (go_simp; rfl))
       intro gb785 hg w28 hbox hb
       have n0_ := Aside0.mk (zbb BK756 hb)
       have n1_ := Aside0.mk (zbb BK757 hb)
       have n2_ := Aside0.mk (zbb BK771 hb)
       have n3_ := Aside0.mk (below_step (z11_1 HB) hb)
       have BK785 := Aside0.mk (hbox)
       have GW785 := Aside0.mk ((by rw [hg]; exact (below_size (z11_1 HB)) : w.heap.size ≤ gb785))
       have GE785 := Aside0.mk ((by rw [hg]; exact (below_size (z11_1 HB)) : w.heap.size ≤ gb785))
       have NB756_785 := Aside0.mk (zlt BK756 hg)
       have NB785_756 := Aside0.mk (zgt BK756 hg)
       have NB757_785 := Aside0.mk (zlt BK757 hg)
       have NB785_757 := Aside0.mk (zgt BK757 hg)
       have NB771_785 := Aside0.mk (zlt BK771 hg)
       have NB785_771 := Aside0.mk (zgt BK771 hg)
       clear BK756 BK757 BK771 HB
       have BK756 := n0_; have BK757 := n1_; have BK771 := n2_; have HB := n3_
       clear n0_ n1_ n2_ n3_ hb hbox hg
       refine hK.out _ _ ⟨zc BK756 0, zc BK756 1, zc BK756 2, zc BK756 3, zc BK757 0, zc BK757 1, zc BK757 2, zc BK757 3⟩ (fun hHeld => ?_)
       clear hK K
       refine norm_ (a' := ?_) ?_ ?_
       rotate_left
       ·
        show Act.put _ (some 7) _ = _
        simp only [Act.put, List.setIfInBounds_toArray, List.set_cons_zero, List.set_cons_succ, i64_w, i32_w]; rfl
       refine one_ (i := 4) (N := some 22) #[true, true, true, true, true, false, false, false, true, false, false] rfl rfl (one_of HT_.out (by kernel_rfl)) (by decide) (fun K hK => ?_)
       refine goes_ Try.func35 (by kernel_rfl) rfl #[.agg #[.int .i64 t772, .int .i64 t773, .int .i64 t774, .int .i64 t775], .agg #[.int .i64 t776, .int .i64 t777, .int .i64 t778, .int .i64 t779]] (by rfl) rfl rfl (by (try simp only [List.map_toArray, List.map_cons, List.map_nil]); first | done | rfl | (simp only [List.length_drop, List.length_take]; rfl)) ?_
       with_reducible refine (impl_SubtractIntervals.calls k t772 t773 t774 t775 t776 t777 t778 t779 t780 t781 t782 t783 t784 _ A8.out).mono ?_
       rintro e w29 ⟨rfl, hb⟩
       refine ⟨_, rfl, ?_⟩
       have n0_ := Aside0.mk (zbb BK756 hb)
       have n1_ := Aside0.mk (zbb BK757 hb)
       have n2_ := Aside0.mk (zbb BK771 hb)
       have n3_ := Aside0.mk (zbb BK785 hb)
       have n4_ := Aside0.mk (below_step (z11_1 HB) hb)
       clear BK756 BK757 BK771 BK785 HB
       have BK756 := n0_; have BK757 := n1_; have BK771 := n2_; have BK785 := n3_; have HB := n4_
       clear n0_ n1_ n2_ n3_ n4_
       (try clear hb)
       (try clear hb2)
       (try clear hk)
       (try clear hi)
       refine hK.out _ _ ⟨zc BK756 0, zc BK756 1, zc BK756 2, zc BK756 3, zc BK757 0, zc BK757 1, zc BK757 2, zc BK757 3⟩ (fun hHeld => ?_)
       clear hK K
       refine norm_ (a' := ?_) ?_ ?_
       rotate_left
       ·
        show Act.put _ (some 22) _ = _
        simp only [Act.put, List.setIfInBounds_toArray, List.set_cons_zero, List.set_cons_succ, i64_w, i32_w]; rfl
       refine pure_ (i := 5) (N := some 17) (v := ?_) (a' := ?_) #[true, true, true, true, true, true, false, false, true, false, false] rfl rfl (any_of HT_.out (by kernel_rfl)) (fun _ _ _ h => h) (Or.inl ⟨by rfl, ?_⟩) ?_ ?_
       rotate_left
       ·
        intro w'
        go_simp
        with_reducible rfl
       rotate_left
       ·
        simp only [Act.put, List.setIfInBounds_toArray, List.set_cons_zero, List.set_cons_succ, i64_w, i32_w]
        rfl
       refine pure_ (i := 6) (N := some 23) (v := ?_) (a' := ?_) #[true, true, true, true, true, true, true, false, true, false, false] rfl rfl (any_of HT_.out (by kernel_rfl)) (fun _ _ _ h => h) (Or.inl ⟨by rfl, ?_⟩) ?_ ?_
       rotate_left
       ·
        intro w'
        go_simp
        with_reducible rfl
       rotate_left
       ·
        simp only [Act.put, List.setIfInBounds_toArray, List.set_cons_zero, List.set_cons_succ, i64_w, i32_w]
        rfl
       refine pure_ (i := 7) (N := some 24) (v := ?_) (a' := ?_) #[true, true, true, true, true, true, true, true, true, false, false] rfl rfl (any_of HT_.out (by kernel_rfl)) (fun _ _ _ h => h) (Or.inl ⟨by rfl, ?_⟩) ?_ ?_
       rotate_left
       ·
        intro w'
        go_simp
        with_reducible rfl
       rotate_left
       ·
        simp only [Act.put, List.setIfInBounds_toArray, List.set_cons_zero, List.set_cons_succ, i64_w, i32_w]
        rfl
       exact norm_ (by simp only [putAll, Act.put, List.setIfInBounds_toArray, List.set_cons_zero, List.set_cons_succ]) (hCont (gb785) _ ⟨hHeld, (zq1 BK756), (zq1 BK757), (zq1 BK771), (zq1 BK785), GW785.out, GE785.out, NB756_785.out, NB785_756.out, NB757_785.out, NB785_757.out, NB771_785.out, NB785_771.out, (z11_1 HB)⟩)
     ·
      refine box_step ?hg (N := 7) ?hd (cs := #[.int .i64 0, .int .i64 0, .int .i64 0, .int .i64 0]) (t := 29) ?hr ?_; (case hd => rfl); (case hg => rfl); (case hr => first | (go_simp; done) | (go_simp; rfl))
      intro gb785 hg w27 hbox hb
      have n0_ := Aside0.mk (zbb BK756 hb)
      have n1_ := Aside0.mk (zbb BK757 hb)
      have n2_ := Aside0.mk (zbb BK771 hb)
      have n3_ := Aside0.mk (below_step (z11_1 HB) hb)
      have BK785 := Aside0.mk (hbox)
      have GW785 := Aside0.mk ((by rw [hg]; exact (below_size (z11_1 HB)) : w.heap.size ≤ gb785))
      have GE785 := Aside0.mk ((by rw [hg]; exact (below_size (z11_1 HB)) : w.heap.size ≤ gb785))
      have NB756_785 := Aside0.mk (zlt BK756 hg)
      have NB785_756 := Aside0.mk (zgt BK756 hg)
      have NB757_785 := Aside0.mk (zlt BK757 hg)
      have NB785_757 := Aside0.mk (zgt BK757 hg)
      have NB771_785 := Aside0.mk (zlt BK771 hg)
      have NB785_771 := Aside0.mk (zgt BK771 hg)
      clear BK756 BK757 BK771 HB
      have BK756 := n0_; have BK757 := n1_; have BK771 := n2_; have HB := n3_
      clear n0_ n1_ n2_ n3_ hb hbox hg
      refine hK.out _ _ ⟨zc BK756 0, zc BK756 1, zc BK756 2, zc BK756 3, zc BK757 0, zc BK757 1, zc BK757 2, zc BK757 3⟩ (fun hHeld => ?_)
      clear hK K
      refine norm_ (a' := ?_) ?_ ?_
      rotate_left
      ·
       show Act.put _ (some 7) _ = _
       simp only [Act.put, List.setIfInBounds_toArray, List.set_cons_zero, List.set_cons_succ, i64_w, i32_w]; rfl
      refine one_ (i := 3) (N := some 21) #[true, true, true, true, false, false, false, false, true, false, false] rfl rfl (one_of HT_.out (by kernel_rfl)) (by decide) (fun K hK => ?_)
      refine goes_ Try.func16 (by kernel_rfl) rfl #[.agg #[.int .i64 a1_0, .int .i64 a1_1, .int .i64 a1_2, .int .i64 a1_3]] (by rfl) rfl rfl (by (try simp only [List.map_toArray, List.map_cons, List.map_nil]); first | done | rfl | (simp only [List.length_drop, List.length_take]; rfl)) ?_
      with_reducible refine (laws_toInterval.calls a1_0 a1_1 a1_2 a1_3 t776 t777 t778 t779 _ A7.out).mono ?_
      rintro e w28 ⟨rfl, hb⟩
      refine ⟨_, rfl, ?_⟩
      have n0_ := Aside0.mk (zbb BK756 hb)
      have n1_ := Aside0.mk (zbb BK757 hb)
      have n2_ := Aside0.mk (zbb BK771 hb)
      have n3_ := Aside0.mk (zbb BK785 hb)
      have n4_ := Aside0.mk (below_step (z11_1 HB) hb)
      clear BK756 BK757 BK771 BK785 HB
      have BK756 := n0_; have BK757 := n1_; have BK771 := n2_; have BK785 := n3_; have HB := n4_
      clear n0_ n1_ n2_ n3_ n4_
      (try clear hb)
      (try clear hb2)
      (try clear hk)
      (try clear hi)
      refine hK.out _ _ ⟨zc BK756 0, zc BK756 1, zc BK756 2, zc BK756 3, zc BK757 0, zc BK757 1, zc BK757 2, zc BK757 3⟩ (fun hHeld => ?_)
      clear hK K
      refine norm_ (a' := ?_) ?_ ?_
      rotate_left
      ·
       show Act.put _ (some 21) _ = _
       simp only [Act.put, List.setIfInBounds_toArray, List.set_cons_zero, List.set_cons_succ, i64_w, i32_w]; rfl
      refine one_ (i := 4) (N := some 22) #[true, true, true, true, true, false, false, false, true, false, false] rfl rfl (one_of HT_.out (by kernel_rfl)) (by decide) (fun K hK => ?_)
      refine goes_ Try.func35 (by kernel_rfl) rfl #[.agg #[.int .i64 t772, .int .i64 t773, .int .i64 t774, .int .i64 t775], .agg #[.int .i64 t776, .int .i64 t777, .int .i64 t778, .int .i64 t779]] (by rfl) rfl rfl (by (try simp only [List.map_toArray, List.map_cons, List.map_nil]); first | done | rfl | (simp only [List.length_drop, List.length_take]; rfl)) ?_
      with_reducible refine (impl_SubtractIntervals.calls k t772 t773 t774 t775 t776 t777 t778 t779 t780 t781 t782 t783 t784 _ A8.out).mono ?_
      rintro e w29 ⟨rfl, hb⟩
      refine ⟨_, rfl, ?_⟩
      have n0_ := Aside0.mk (zbb BK756 hb)
      have n1_ := Aside0.mk (zbb BK757 hb)
      have n2_ := Aside0.mk (zbb BK771 hb)
      have n3_ := Aside0.mk (zbb BK785 hb)
      have n4_ := Aside0.mk (below_step (z11_1 HB) hb)
      clear BK756 BK757 BK771 BK785 HB
      have BK756 := n0_; have BK757 := n1_; have BK771 := n2_; have BK785 := n3_; have HB := n4_
      clear n0_ n1_ n2_ n3_ n4_
      (try clear hb)
      (try clear hb2)
      (try clear hk)
      (try clear hi)
      refine hK.out _ _ ⟨zc BK756 0, zc BK756 1, zc BK756 2, zc BK756 3, zc BK757 0, zc BK757 1, zc BK757 2, zc BK757 3⟩ (fun hHeld => ?_)
      clear hK K
      refine norm_ (a' := ?_) ?_ ?_
      rotate_left
      ·
       show Act.put _ (some 22) _ = _
       simp only [Act.put, List.setIfInBounds_toArray, List.set_cons_zero, List.set_cons_succ, i64_w, i32_w]; rfl
      refine pure_ (i := 5) (N := some 17) (v := ?_) (a' := ?_) #[true, true, true, true, true, true, false, false, true, false, false] rfl rfl (any_of HT_.out (by kernel_rfl)) (fun _ _ _ h => h) (Or.inl ⟨by rfl, ?_⟩) ?_ ?_
      rotate_left
      ·
       intro w'
       go_simp
       with_reducible rfl
      rotate_left
      ·
       simp only [Act.put, List.setIfInBounds_toArray, List.set_cons_zero, List.set_cons_succ, i64_w, i32_w]
       rfl
      refine pure_ (i := 6) (N := some 23) (v := ?_) (a' := ?_) #[true, true, true, true, true, true, true, false, true, false, false] rfl rfl (any_of HT_.out (by kernel_rfl)) (fun _ _ _ h => h) (Or.inl ⟨by rfl, ?_⟩) ?_ ?_
      rotate_left
      ·
       intro w'
       go_simp
       with_reducible rfl
      rotate_left
      ·
       simp only [Act.put, List.setIfInBounds_toArray, List.set_cons_zero, List.set_cons_succ, i64_w, i32_w]
       rfl
      refine pure_ (i := 7) (N := some 24) (v := ?_) (a' := ?_) #[true, true, true, true, true, true, true, true, true, false, false] rfl rfl (any_of HT_.out (by kernel_rfl)) (fun _ _ _ h => h) (Or.inl ⟨by rfl, ?_⟩) ?_ ?_
      rotate_left
      ·
       intro w'
       go_simp
       with_reducible rfl
      rotate_left
      ·
       simp only [Act.put, List.setIfInBounds_toArray, List.set_cons_zero, List.set_cons_succ, i64_w, i32_w]
       rfl
      exact norm_ (by simp only [putAll, Act.put, List.setIfInBounds_toArray, List.set_cons_zero, List.set_cons_succ]) (hCont (gb785) _ ⟨hHeld, (zq1 BK756), (zq1 BK757), (zq1 BK771), (zq1 BK785), GW785.out, GE785.out, NB756_785.out, NB785_756.out, NB757_785.out, NB785_757.out, NB771_785.out, NB785_771.out, (z11_1 HB)⟩)
    ·
     refine box_step ?hg (N := 7) ?hd (cs := #[.int .i64 0, .int .i64 0, .int .i64 0, .int .i64 0]) (t := 29) ?hr ?_; (case hd => rfl); (case hg => rfl); (case hr => first | (go_simp; done) | (go_simp; rfl))
     intro gb785 hg w26 hbox hb
     have n0_ := Aside0.mk (zbb BK756 hb)
     have n1_ := Aside0.mk (zbb BK757 hb)
     have n2_ := Aside0.mk (zbb BK771 hb)
     have n3_ := Aside0.mk (below_step (z11_1 HB) hb)
     have BK785 := Aside0.mk (hbox)
     have GW785 := Aside0.mk ((by rw [hg]; exact (below_size (z11_1 HB)) : w.heap.size ≤ gb785))
     have GE785 := Aside0.mk ((by rw [hg]; exact (below_size (z11_1 HB)) : w.heap.size ≤ gb785))
     have NB756_785 := Aside0.mk (zlt BK756 hg)
     have NB785_756 := Aside0.mk (zgt BK756 hg)
     have NB757_785 := Aside0.mk (zlt BK757 hg)
     have NB785_757 := Aside0.mk (zgt BK757 hg)
     have NB771_785 := Aside0.mk (zlt BK771 hg)
     have NB785_771 := Aside0.mk (zgt BK771 hg)
     clear BK756 BK757 BK771 HB
     have BK756 := n0_; have BK757 := n1_; have BK771 := n2_; have HB := n3_
     clear n0_ n1_ n2_ n3_ hb hbox hg
     refine hK.out _ _ ⟨zc BK756 0, zc BK756 1, zc BK756 2, zc BK756 3, zc BK757 0, zc BK757 1, zc BK757 2, zc BK757 3⟩ (fun hHeld => ?_)
     clear hK K
     refine norm_ (a' := ?_) ?_ ?_
     rotate_left
     ·
      show Act.put _ (some 7) _ = _
      simp only [Act.put, List.setIfInBounds_toArray, List.set_cons_zero, List.set_cons_succ, i64_w, i32_w]; rfl
     refine one_ (i := 1) (N := some 19) #[true, true, true, false, false, false, false, false, true, false, false] rfl rfl (one_of HT_.out (by kernel_rfl)) (by decide) (fun K hK => ?_)
     refine goes_ Try.func16 (by kernel_rfl) rfl #[.agg #[.int .i64 a0_0, .int .i64 a0_1, .int .i64 a0_2, .int .i64 a0_3]] (by rfl) rfl rfl (by (try simp only [List.map_toArray, List.map_cons, List.map_nil]); first | done | rfl | (simp only [List.length_drop, List.length_take]; rfl)) ?_
     with_reducible refine (laws_toInterval.calls a0_0 a0_1 a0_2 a0_3 t772 t773 t774 t775 _ A6.out).mono ?_
     rintro e w27 ⟨rfl, hb⟩
     refine ⟨_, rfl, ?_⟩
     have n0_ := Aside0.mk (zbb BK756 hb)
     have n1_ := Aside0.mk (zbb BK757 hb)
     have n2_ := Aside0.mk (zbb BK771 hb)
     have n3_ := Aside0.mk (zbb BK785 hb)
     have n4_ := Aside0.mk (below_step (z11_1 HB) hb)
     clear BK756 BK757 BK771 BK785 HB
     have BK756 := n0_; have BK757 := n1_; have BK771 := n2_; have BK785 := n3_; have HB := n4_
     clear n0_ n1_ n2_ n3_ n4_
     (try clear hb)
     (try clear hb2)
     (try clear hk)
     (try clear hi)
     refine hK.out _ _ ⟨zc BK756 0, zc BK756 1, zc BK756 2, zc BK756 3, zc BK757 0, zc BK757 1, zc BK757 2, zc BK757 3⟩ (fun hHeld => ?_)
     clear hK K
     refine norm_ (a' := ?_) ?_ ?_
     rotate_left
     ·
      show Act.put _ (some 19) _ = _
      simp only [Act.put, List.setIfInBounds_toArray, List.set_cons_zero, List.set_cons_succ, i64_w, i32_w]; rfl
     refine one_ (i := 3) (N := some 21) #[true, true, true, true, false, false, false, false, true, false, false] rfl rfl (one_of HT_.out (by kernel_rfl)) (by decide) (fun K hK => ?_)
     refine goes_ Try.func16 (by kernel_rfl) rfl #[.agg #[.int .i64 a1_0, .int .i64 a1_1, .int .i64 a1_2, .int .i64 a1_3]] (by rfl) rfl rfl (by (try simp only [List.map_toArray, List.map_cons, List.map_nil]); first | done | rfl | (simp only [List.length_drop, List.length_take]; rfl)) ?_
     with_reducible refine (laws_toInterval.calls a1_0 a1_1 a1_2 a1_3 t776 t777 t778 t779 _ A7.out).mono ?_
     rintro e w28 ⟨rfl, hb⟩
     refine ⟨_, rfl, ?_⟩
     have n0_ := Aside0.mk (zbb BK756 hb)
     have n1_ := Aside0.mk (zbb BK757 hb)
     have n2_ := Aside0.mk (zbb BK771 hb)
     have n3_ := Aside0.mk (zbb BK785 hb)
     have n4_ := Aside0.mk (below_step (z11_1 HB) hb)
     clear BK756 BK757 BK771 BK785 HB
     have BK756 := n0_; have BK757 := n1_; have BK771 := n2_; have BK785 := n3_; have HB := n4_
     clear n0_ n1_ n2_ n3_ n4_
     (try clear hb)
     (try clear hb2)
     (try clear hk)
     (try clear hi)
     refine hK.out _ _ ⟨zc BK756 0, zc BK756 1, zc BK756 2, zc BK756 3, zc BK757 0, zc BK757 1, zc BK757 2, zc BK757 3⟩ (fun hHeld => ?_)
     clear hK K
     refine norm_ (a' := ?_) ?_ ?_
     rotate_left
     ·
      show Act.put _ (some 21) _ = _
      simp only [Act.put, List.setIfInBounds_toArray, List.set_cons_zero, List.set_cons_succ, i64_w, i32_w]; rfl
     refine one_ (i := 4) (N := some 22) #[true, true, true, true, true, false, false, false, true, false, false] rfl rfl (one_of HT_.out (by kernel_rfl)) (by decide) (fun K hK => ?_)
     refine goes_ Try.func35 (by kernel_rfl) rfl #[.agg #[.int .i64 t772, .int .i64 t773, .int .i64 t774, .int .i64 t775], .agg #[.int .i64 t776, .int .i64 t777, .int .i64 t778, .int .i64 t779]] (by rfl) rfl rfl (by (try simp only [List.map_toArray, List.map_cons, List.map_nil]); first | done | rfl | (simp only [List.length_drop, List.length_take]; rfl)) ?_
     with_reducible refine (impl_SubtractIntervals.calls k t772 t773 t774 t775 t776 t777 t778 t779 t780 t781 t782 t783 t784 _ A8.out).mono ?_
     rintro e w29 ⟨rfl, hb⟩
     refine ⟨_, rfl, ?_⟩
     have n0_ := Aside0.mk (zbb BK756 hb)
     have n1_ := Aside0.mk (zbb BK757 hb)
     have n2_ := Aside0.mk (zbb BK771 hb)
     have n3_ := Aside0.mk (zbb BK785 hb)
     have n4_ := Aside0.mk (below_step (z11_1 HB) hb)
     clear BK756 BK757 BK771 BK785 HB
     have BK756 := n0_; have BK757 := n1_; have BK771 := n2_; have BK785 := n3_; have HB := n4_
     clear n0_ n1_ n2_ n3_ n4_
     (try clear hb)
     (try clear hb2)
     (try clear hk)
     (try clear hi)
     refine hK.out _ _ ⟨zc BK756 0, zc BK756 1, zc BK756 2, zc BK756 3, zc BK757 0, zc BK757 1, zc BK757 2, zc BK757 3⟩ (fun hHeld => ?_)
     clear hK K
     refine norm_ (a' := ?_) ?_ ?_
     rotate_left
     ·
      show Act.put _ (some 22) _ = _
      simp only [Act.put, List.setIfInBounds_toArray, List.set_cons_zero, List.set_cons_succ, i64_w, i32_w]; rfl
     refine pure_ (i := 5) (N := some 17) (v := ?_) (a' := ?_) #[true, true, true, true, true, true, false, false, true, false, false] rfl rfl (any_of HT_.out (by kernel_rfl)) (fun _ _ _ h => h) (Or.inl ⟨by rfl, ?_⟩) ?_ ?_
     rotate_left
     ·
      intro w'
      go_simp
      with_reducible rfl
     rotate_left
     ·
      simp only [Act.put, List.setIfInBounds_toArray, List.set_cons_zero, List.set_cons_succ, i64_w, i32_w]
      rfl
     refine pure_ (i := 6) (N := some 23) (v := ?_) (a' := ?_) #[true, true, true, true, true, true, true, false, true, false, false] rfl rfl (any_of HT_.out (by kernel_rfl)) (fun _ _ _ h => h) (Or.inl ⟨by rfl, ?_⟩) ?_ ?_
     rotate_left
     ·
      intro w'
      go_simp
      with_reducible rfl
     rotate_left
     ·
      simp only [Act.put, List.setIfInBounds_toArray, List.set_cons_zero, List.set_cons_succ, i64_w, i32_w]
      rfl
     refine pure_ (i := 7) (N := some 24) (v := ?_) (a' := ?_) #[true, true, true, true, true, true, true, true, true, false, false] rfl rfl (any_of HT_.out (by kernel_rfl)) (fun _ _ _ h => h) (Or.inl ⟨by rfl, ?_⟩) ?_ ?_
     rotate_left
     ·
      intro w'
      go_simp
      with_reducible rfl
     rotate_left
     ·
      simp only [Act.put, List.setIfInBounds_toArray, List.set_cons_zero, List.set_cons_succ, i64_w, i32_w]
      rfl
     exact norm_ (by simp only [putAll, Act.put, List.setIfInBounds_toArray, List.set_cons_zero, List.set_cons_succ]) (hCont (gb785) _ ⟨hHeld, (zq1 BK756), (zq1 BK757), (zq1 BK771), (zq1 BK785), GW785.out, GE785.out, NB756_785.out, NB785_756.out, NB757_785.out, NB785_757.out, NB771_785.out, NB785_771.out, (z11_1 HB)⟩)
   rintro gb785 w30 ⟨hS_, h0_, h1_, h2_, h3_, h4_, h5_, h6_, h7_, h8_, h9_, h10_, h11_, h12_⟩
   have n0_ : Aside0 (w30.heap[gb756]? = some (.cells #[.int .i64 a0_0, .int .i64 a0_1, .int .i64 a0_2, .int .i64 a0_3] 25 (0, 0))) := ⟨h0_⟩
   have n1_ : Aside0 (w30.heap[gb757]? = some (.cells #[.int .i64 a1_0, .int .i64 a1_1, .int .i64 a1_2, .int .i64 a1_3] 25 (0, 0))) := ⟨h1_⟩
   have n2_ : Aside0 (w30.heap[gb771]? = some (.cells #[.int .i64 t766, .int .i64 t767, .int .i64 t768, .int .i64 t769] 29 (0, 0))) := ⟨h2_⟩
   have BK785 : Aside0 (w30.heap[gb785]? = some (.cells #[.int .i64 0, .int .i64 0, .int .i64 0, .int .i64 0] 29 (0, 0))) := ⟨h3_⟩
   have GW785 : Aside0 (w.heap.size ≤ gb785) := ⟨h4_⟩
   have GE785 : Aside0 (w.heap.size ≤ gb785) := ⟨h5_⟩
   have NB756_785 : Aside0 (gb756 ≠ gb785) := ⟨h6_⟩
   have NB785_756 : Aside0 (gb785 ≠ gb756) := ⟨h7_⟩
   have NB757_785 : Aside0 (gb757 ≠ gb785) := ⟨h8_⟩
   have NB785_757 : Aside0 (gb785 ≠ gb757) := ⟨h9_⟩
   have NB771_785 : Aside0 (gb771 ≠ gb785) := ⟨h10_⟩
   have NB785_771 : Aside0 (gb785 ≠ gb771) := ⟨h11_⟩
   have n12_ : Aside0 (Below w.heap.size w w30) := ⟨h12_⟩
   clear BK756 BK757 BK771 HB h0_ h1_ h2_ h3_ h4_ h5_ h6_ h7_ h8_ h9_ h10_ h11_ h12_
   have BK756 := n0_; have BK757 := n1_; have BK771 := n2_; have HB := n12_
   clear n0_ n1_ n2_ n12_
   have hHeld : w30.cell? ⟨gb756, 0, none⟩ = some (.int .i64 a0_0) ∧ w30.cell? ⟨gb756, 1, none⟩ = some (.int .i64 a0_1) ∧ w30.cell? ⟨gb756, 2, none⟩ = some (.int .i64 a0_2) ∧ w30.cell? ⟨gb756, 3, none⟩ = some (.int .i64 a0_3) ∧ w30.cell? ⟨gb757, 0, none⟩ = some (.int .i64 a1_0) ∧ w30.cell? ⟨gb757, 1, none⟩ = some (.int .i64 a1_1) ∧ w30.cell? ⟨gb757, 2, none⟩ = some (.int .i64 a1_2) ∧ w30.cell? ⟨gb757, 3, none⟩ = some (.int .i64 a1_3) := hS_
   refine norm_ (a' := ?_) ?_ ?_
   rotate_left
   ·
    simp only [putAll, Act.put, List.setIfInBounds_toArray, List.set_cons_zero, List.set_cons_succ]
    rfl
   refine one_ (i := 9) (N := none) #[true, true, true, true, true, true, true, true, true, true, false] rfl rfl (one_of HT_.out (by kernel_rfl)) (by decide) (fun K hK => ?_)
   have hs31 : w30.cell? ⟨gb785, 0, none⟩ = some (.int .i64 0) := zc BK785 0
   have hfs31 := blk_frozen BK785.out 0
   have hns31_0 := NB756_785.out
   have hns31_1 := NB757_785.out
   have hns31_2 := NB771_785.out
   have hms31_0 := NB785_756.out
   have hms31_1 := NB785_757.out
   have hms31_2 := NB785_771.out
   have hs32 : w30.cell? ⟨gb785, 1, none⟩ = some (.int .i64 0) := zc BK785 1
   have hfs32 := blk_frozen BK785.out 1
   have hns32_0 := NB756_785.out
   have hns32_1 := NB757_785.out
   have hns32_2 := NB771_785.out
   have hms32_0 := NB785_756.out
   have hms32_1 := NB785_757.out
   have hms32_2 := NB785_771.out
   have hs33 : w30.cell? ⟨gb785, 2, none⟩ = some (.int .i64 0) := zc BK785 2
   have hfs33 := blk_frozen BK785.out 2
   have hns33_0 := NB756_785.out
   have hns33_1 := NB757_785.out
   have hns33_2 := NB771_785.out
   have hms33_0 := NB785_756.out
   have hms33_1 := NB785_757.out
   have hms33_2 := NB785_771.out
   have hs34 : w30.cell? ⟨gb785, 3, none⟩ = some (.int .i64 0) := zc BK785 3
   have hfs34 := blk_frozen BK785.out 3
   have hns34_0 := NB756_785.out
   have hns34_1 := NB757_785.out
   have hns34_2 := NB771_785.out
   have hms34_0 := NB785_756.out
   have hms34_1 := NB785_757.out
   have hms34_2 := NB785_771.out
   refine skip_ (w1 := ?_) (by rfl) rfl ?_ ?_
   rotate_left
   ·
    go_simp
    rfl
   refine hK.out _ _ ⟨((cell_far (p := ⟨gb785, _, none⟩) NB756_785.out _).trans (((cell_far (p := ⟨gb785, _, none⟩) NB756_785.out _).trans (((cell_far (p := ⟨gb785, _, none⟩) NB756_785.out _).trans (((cell_far (p := ⟨gb785, _, none⟩) NB756_785.out _).trans (hHeld.1)))))))), ((cell_far (p := ⟨gb785, _, none⟩) NB756_785.out _).trans (((cell_far (p := ⟨gb785, _, none⟩) NB756_785.out _).trans (((cell_far (p := ⟨gb785, _, none⟩) NB756_785.out _).trans (((cell_far (p := ⟨gb785, _, none⟩) NB756_785.out _).trans (hHeld.2.1)))))))), ((cell_far (p := ⟨gb785, _, none⟩) NB756_785.out _).trans (((cell_far (p := ⟨gb785, _, none⟩) NB756_785.out _).trans (((cell_far (p := ⟨gb785, _, none⟩) NB756_785.out _).trans (((cell_far (p := ⟨gb785, _, none⟩) NB756_785.out _).trans (hHeld.2.2.1)))))))), ((cell_far (p := ⟨gb785, _, none⟩) NB756_785.out _).trans (((cell_far (p := ⟨gb785, _, none⟩) NB756_785.out _).trans (((cell_far (p := ⟨gb785, _, none⟩) NB756_785.out _).trans (((cell_far (p := ⟨gb785, _, none⟩) NB756_785.out _).trans (hHeld.2.2.2.1)))))))), ((cell_far (p := ⟨gb785, _, none⟩) NB757_785.out _).trans (((cell_far (p := ⟨gb785, _, none⟩) NB757_785.out _).trans (((cell_far (p := ⟨gb785, _, none⟩) NB757_785.out _).trans (((cell_far (p := ⟨gb785, _, none⟩) NB757_785.out _).trans (hHeld.2.2.2.2.1)))))))), ((cell_far (p := ⟨gb785, _, none⟩) NB757_785.out _).trans (((cell_far (p := ⟨gb785, _, none⟩) NB757_785.out _).trans (((cell_far (p := ⟨gb785, _, none⟩) NB757_785.out _).trans (((cell_far (p := ⟨gb785, _, none⟩) NB757_785.out _).trans (hHeld.2.2.2.2.2.1)))))))), ((cell_far (p := ⟨gb785, _, none⟩) NB757_785.out _).trans (((cell_far (p := ⟨gb785, _, none⟩) NB757_785.out _).trans (((cell_far (p := ⟨gb785, _, none⟩) NB757_785.out _).trans (((cell_far (p := ⟨gb785, _, none⟩) NB757_785.out _).trans (hHeld.2.2.2.2.2.2.1)))))))), ((cell_far (p := ⟨gb785, _, none⟩) NB757_785.out _).trans (((cell_far (p := ⟨gb785, _, none⟩) NB757_785.out _).trans (((cell_far (p := ⟨gb785, _, none⟩) NB757_785.out _).trans (((cell_far (p := ⟨gb785, _, none⟩) NB757_785.out _).trans (hHeld.2.2.2.2.2.2.2))))))))⟩ (fun hHeld => ?_)
   clear hK K
   refine pure_ (i := 10) (N := some 8) (v := ?_) (a' := ?_) #[true, true, true, true, true, true, true, true, true, true, true] rfl rfl (any_of HT_.out (by kernel_rfl)) (fun _ _ _ h => h) (Or.inl ⟨by rfl, ?_⟩) ?_ ?_
   rotate_left
   ·
    intro w'
    go_simp
    with_reducible rfl
   rotate_left
   ·
    simp only [Act.put, List.setIfInBounds_toArray, List.set_cons_zero, List.set_cons_succ, i64_w, i32_w]
    rfl
   refine done_ (done_of HT_.out (by kernel_rfl)) ?_
   have hnb35 := NB785_756.out
   have hnc35 := NB756_785.out
   have hnb36 := NB785_757.out
   have hnc36 := NB757_785.out
   have hnb37 := NB785_771.out
   have hnc37 := NB771_785.out
   have hcz38_0 : w30.cell? ⟨gb785, 0, none⟩ = some (.int .i64 0) := zc BK785 0
   have hcz38_1 : w30.cell? ⟨gb785, 1, none⟩ = some (.int .i64 0) := zc BK785 1
   have hcz38_2 : w30.cell? ⟨gb785, 2, none⟩ = some (.int .i64 0) := zc BK785 2
   have hcz38_3 : w30.cell? ⟨gb785, 3, none⟩ = some (.int .i64 0) := zc BK785 3
   have hfz38_0 := blk_frozen BK785.out 0
   have hfz38_1 := blk_frozen BK785.out 1
   have hfz38_2 := blk_frozen BK785.out 2
   have hfz38_3 := blk_frozen BK785.out 3
   have hnb39 := NB771_756.out
   have hnc39 := NB756_771.out
   have hnb40 := NB771_757.out
   have hnc40 := NB757_771.out
   have hcz41_0 : w30.cell? ⟨gb771, 0, none⟩ = some (.int .i64 t766) := zc BK771 0
   have hcz41_1 : w30.cell? ⟨gb771, 1, none⟩ = some (.int .i64 t767) := zc BK771 1
   have hcz41_2 : w30.cell? ⟨gb771, 2, none⟩ = some (.int .i64 t768) := zc BK771 2
   have hcz41_3 : w30.cell? ⟨gb771, 3, none⟩ = some (.int .i64 t769) := zc BK771 3
   have hfz41_0 := blk_frozen BK771.out 0
   have hfz41_1 := blk_frozen BK771.out 1
   have hfz41_2 := blk_frozen BK771.out 2
   have hfz41_3 := blk_frozen BK771.out 3
   try go_wp2_with (first | ((with_reducible refine gate_callee (f := 24) rfl ?_); refine goesL_ (some 27) rfl rfl Try.func24 (by kernel_rfl) rfl #[.agg #[.int .i64 t780, .int .i64 t781, .int .i64 t782, .int .i64 t783], .agg #[.int .i64 t766, .int .i64 t767, .int .i64 t768, .int .i64 t769]] rfl (by (try simp only [List.map_toArray, List.map_cons, List.map_nil]); first | done | rfl | (simp only [List.length_drop, List.length_take]; rfl)) ?_; (with_reducible refine (laws_eqInterval.calls t780 t781 t782 t783 t766 t767 t768 t769 true _ A9.out).mono ?_); rintro e w42 ⟨rfl, hb⟩; refine ⟨_, rfl, ?_⟩; have n0_ := Aside0.mk (blk_below (g := gb756) (o := .cells #[.int .i64 a0_0, .int .i64 a0_1, .int .i64 a0_2, .int .i64 a0_3] 25 (0, 0)) (zq5 BK756) hb); have n1_ := Aside0.mk (blk_below (g := gb757) (o := .cells #[.int .i64 a1_0, .int .i64 a1_1, .int .i64 a1_2, .int .i64 a1_3] 25 (0, 0)) (zq5 BK757) hb); have n2_ := Aside0.mk (blk_below (g := gb771) (o := .cells #[.int .i64 t766, .int .i64 t767, .int .i64 t768, .int .i64 t769] 29 (0, 0)) (zq5 BK771) hb); have n3_ := Aside0.mk (blk_below (g := gb785) (o := .cells #[.int .i64 t780, .int .i64 t781, .int .i64 t782, .int .i64 t783] 29 (0, 0)) (by (with_reducible repeat (first | refine blk_drewN ?_ _ | refine blk_drew ?_ | refine blk_alloc ?_ _)); refine blk_put (cs := #[.int .i64 t780, .int .i64 t781, .int .i64 t782, .int .i64 0]) ?_ 3 _ rfl; (with_reducible repeat (first | refine blk_drewN ?_ _ | refine blk_drew ?_ | refine blk_alloc ?_ _)); refine blk_put (cs := #[.int .i64 t780, .int .i64 t781, .int .i64 0, .int .i64 0]) ?_ 2 _ rfl; (with_reducible repeat (first | refine blk_drewN ?_ _ | refine blk_drew ?_ | refine blk_alloc ?_ _)); refine blk_put (cs := #[.int .i64 t780, .int .i64 0, .int .i64 0, .int .i64 0]) ?_ 1 _ rfl; (with_reducible repeat (first | refine blk_drewN ?_ _ | refine blk_drew ?_ | refine blk_alloc ?_ _)); refine blk_put (cs := #[.int .i64 0, .int .i64 0, .int .i64 0, .int .i64 0]) ?_ 0 _ rfl; (with_reducible repeat (first | refine blk_drewN ?_ _ | refine blk_drew ?_ | refine blk_alloc ?_ _)); exact BK785.out) hb); have n4_ := Aside0.mk (below_step (z11_1 HB) hb); clear BK756; clear BK757; clear BK771; clear BK785; clear HB; have BK756 := n0_; have BK757 := n1_; have BK771 := n2_; have BK785 := n3_; have HB := n4_; clear n0_ n1_ n2_ n3_ n4_; (try clear hb); (try clear hb2); (try clear hk); (try clear hi)))
   go_ret
   exact ⟨by first | rfl | (simp [errW_none, errW_some] <;> rfl) | (simp [*, errW_none, errW_some] <;> rfl), (z11_1 HB)⟩
 ·
  replace c10 := Bool.eq_false_iff.mpr c10
  subst c10
  have H1 : (none) = some r := by rw [if_neg (show ¬ (false = true) by decide)] at H; exact H
  clear H
  have H := H1
  clear H1
  exact absurd H (by simp)
end Go.Proofs.Ytinpcalgdiigiaa.PD
