-- Written by a program of this session (wip/mk/drv.py) out of the seat's translation; Lean checks it.
import Derived.Test.YtinpcalgdiigiaaQCommonPartPDx0
import Derived.Test.YtinpcalgdiigiaaQCommonPartPDx1
import Derived.Test.YtinpcalgdiigiaaQCommonPartPDx12
import Derived.Test.YtinpcalgdiigiaaQCommonPartPDx27
import Derived.Test.YtinpcalgdiigiaaQCommonPartPDx28
namespace Go.Proofs.Ytinpcalgdiigiaa.PD
open Go.RowKit Go.Proofs.YtinpcalgdiigiaaW.PrintWords Go.Proofs.YtinpcalgdiigiaaW.PrintLast Go.Proofs.YtinpcalgdiigiaaW.PrintMore
attribute [local go_sem] max2_int min2_int max_two min_two max_three min_three max_four min_four   -- for this text's walks alone
set_option linter.unusedVariables false
set_option linter.unusedSimpArgs false
/-! ### impl_commonPart: function 54 -/
theorem z54_0 {w W0 W1 : World} {B : Nat} (h : Aside0 (Below B w W0)) (f : Below B w W0 → Below B w W1 := by intro h_; repeat (first | (with_reducible first | exact h_ | apply below_alloc | apply pw_below_drewN | apply below_drew1) | exact h_)) : Below B w W1 := f h.out
theorem z54_1 {w W0 W1 : World} {B : Nat} (h : Aside0 (Below B w W0)) (f : Below B w W0 → Below B w W1 := by intro h_; repeat (first | (with_reducible first | exact h_ | apply below_alloc | apply pw_below_drewN | apply below_drew1 | refine below_set ?_ (Aside0.out (by assumption))) | exact h_)) : Below B w W1 := f h.out
def impl_commonPart.T1 : Bool × List (List Nat × List Nat) := (true, [([], []), ([0], [0]), ([], []), ([2], [2]), ([1, 3], [1, 3]), ([], []), ([5], [5]), ([], []), ([7], [7]), ([6, 8, 4], [6, 8]), ([4, 9], [4, 9]), ([], []), ([11, 10, 9, 0, 1, 2, 3, 4, 5, 6, 7, 8, 9, 10, 11], [10, 11])])
def impl_commonPart.B1 : List Nat := [0, 1, 0, 4, 15, 0, 32, 0, 128, 511, 1023, 0, 4095]
theorem impl_commonPart.tab1 : rtab .any (opsOf Try.f54 1) = impl_commonPart.T1 := by kernel_rfl
theorem impl_commonPart.bits1 : waitsOk impl_commonPart.T1.2 impl_commonPart.B1 = true := by kernel_rfl
set_option maxHeartbeats 8000000 in
set_option maxRecDepth 100000 in
theorem impl_commonPart.calls (k : Nat) (a0_0 : Int) (a0_1 : Int) (a0_2 : Int) (a0_3 : Int) (a1_0 : Int) (a1_1 : Int) (a1_2 : Int) (a1_3 : Int) (r1 : Int) (r2 : Int) (r3 : Int) (r4 : Int) (r5 : Bool) (w : World) (h : impl_commonPart.f k a0_0 a0_1 a0_2 a0_3 a1_0 a1_1 a1_2 a1_3 = some (r1, r2, r3, r4, r5)) :
  Calls Try.prog 54 #[.agg #[.int .i64 a0_0, .int .i64 a0_1, .int .i64 a0_2, .int .i64 a0_3], .agg #[.int .i64 a1_0, .int .i64 a1_1, .int .i64 a1_2, .int .i64 a1_3]] w fun e w' => e = .returned (.tuple #[.agg #[.int .i64 r1, .int .i64 r2, .int .i64 r3, .int .i64 r4], .bool r5]) ∧ Below w.heap.size w w' := by
 have hu29 := Try.underlying29
 have hu27 := Try.underlying27
 have HB := Aside0.mk (Below.refl w.heap.size w)
 have H : ((impl_greater.f k a0_0 a0_1 a1_0 a1_1).bind fun bt372 => ((impl_lesser.f k a0_2 a0_3 a1_2 a1_3).bind fun bt374 => ((impl_compareD.f k bt372.1 bt372.2 bt374.1 bt374.2).bind fun t377 => (if t377 > 0 then (some (0, 0, 0, 0, false)) else (some (bt372.1, bt372.2, bt374.1, bt374.2, true)))))) = some (r1, r2, r3, r4, r5) := h
 clear h
 replace H := Option.bind_eq_some_iff.mp H
 obtain ⟨⟨t372, t373⟩, A30, H⟩ := H
 replace H : ((impl_lesser.f k a0_2 a0_3 a1_2 a1_3).bind fun bt374 => ((impl_compareD.f k t372 t373 bt374.1 bt374.2).bind fun t377 => (if t377 > 0 then (some (0, 0, 0, 0, false)) else (some (t372, t373, bt374.1, bt374.2, true))))) = some (r1, r2, r3, r4, r5) := H
 have A3 := Aside0.mk A30
 clear A30
 replace H := Option.bind_eq_some_iff.mp H
 obtain ⟨⟨t374, t375⟩, A40, H⟩ := H
 replace H : ((impl_compareD.f k t372 t373 t374 t375).bind fun t377 => (if t377 > 0 then (some (0, 0, 0, 0, false)) else (some (t372, t373, t374, t375, true)))) = some (r1, r2, r3, r4, r5) := H
 have A4 := Aside0.mk A40
 clear A40
 replace H := Option.bind_eq_some_iff.mp H
 obtain ⟨t377, A50, H⟩ := H
 replace H : (if t377 > 0 then (some (0, 0, 0, 0, false)) else (some (t372, t373, t374, t375, true))) = some (r1, r2, r3, r4, r5) := H
 have A5 := Aside0.mk A50
 clear A50
 by_cases c6 : t377 > 0
 ·
  rw [if_pos c6] at H
  have c6b0 : decide (0 < t377) = true := decide_eq_true c6
  clear c6
  simp only [Option.some.injEq, Prod.mk.injEq] at H
  obtain ⟨rfl, rfl, rfl, rfl, rfl⟩ := H
  go_enter Try.func54, Try.ntmps54
  try go_wp2_with (first | ((with_reducible refine gate_dst (N := 2) rfl ?_); refine box_event ?hg (N := 2) ?hd (cs := #[.int .i64 a0_0, .int .i64 a0_1, .int .i64 a0_2, .int .i64 a0_3]) (t := 29) ?hr ?_; (case hd => rfl); (case hg => rfl); (case hr => first | (go_simp; done) | (go_simp; rfl)); intro gb369 hg w7 hbox hb; have n0_ := Aside0.mk (below_step (z54_0 HB) hb); have n1_ := Aside0.mk (hbox); have n2_ := Aside0.mk ((by rw [hg]; exact (below_size (z54_0 HB)) : w.heap.size ≤ gb369)); have n3_ := Aside0.mk ((by rw [hg]; exact (below_size (z54_0 HB)) : w.heap.size ≤ gb369)); clear HB; have HB := n0_; have BK369 := n1_; have GW369 := n2_; have GE369 := n3_; clear n0_ n1_ n2_ n3_; clear hb hbox hg) | ((with_reducible refine gate_dst (N := 3) rfl ?_); refine box_event ?hg (N := 3) ?hd (cs := #[.int .i64 a1_0, .int .i64 a1_1, .int .i64 a1_2, .int .i64 a1_3]) (t := 29) ?hr ?_; (case hd => rfl); (case hg => rfl); (case hr => first | (go_simp; done) | (go_simp; rfl)); intro gb370 hg w8 hbox hb; have n0_ := Aside0.mk (zbb BK369 hb); have n1_ := Aside0.mk (below_step (z54_1 HB) hb); have n2_ := Aside0.mk (hbox); have n3_ := Aside0.mk ((by rw [hg]; exact (below_size (z54_1 HB)) : w.heap.size ≤ gb370)); have n4_ := Aside0.mk ((by rw [hg]; exact (below_size (z54_1 HB)) : w.heap.size ≤ gb370)); have n5_ := Aside0.mk (zlt BK369 hg); have n6_ := Aside0.mk (zgt BK369 hg); clear BK369; clear HB; have BK369 := n0_; have HB := n1_; have BK370 := n2_; have GW370 := n3_; have GE370 := n4_; have NB369_370 := n5_; have NB370_369 := n6_; clear n0_ n1_ n2_ n3_ n4_ n5_ n6_; clear hb hbox hg) | ((with_reducible refine gate_dst (N := 4) rfl ?_); refine box_event ?hg (N := 4) ?hd (cs := #[.int .i64 0, .int .i64 0, .int .i64 0, .int .i64 0]) (t := 29) ?hr ?_; (case hd => rfl); (case hg => rfl); (case hr => first | (go_simp; done) | (go_simp; rfl)); intro gb371 hg w9 hbox hb; have n0_ := Aside0.mk (zbb BK369 hb); have n1_ := Aside0.mk (zbb BK370 hb); have n2_ := Aside0.mk (below_step (z54_1 HB) hb); have n3_ := Aside0.mk (hbox); have n4_ := Aside0.mk ((by rw [hg]; exact (below_size (z54_1 HB)) : w.heap.size ≤ gb371)); have n5_ := Aside0.mk ((by rw [hg]; exact (below_size (z54_1 HB)) : w.heap.size ≤ gb371)); have n6_ := Aside0.mk (zlt BK369 hg); have n7_ := Aside0.mk (zgt BK369 hg); have n8_ := Aside0.mk (zlt BK370 hg); have n9_ := Aside0.mk (zgt BK370 hg); clear BK369; clear BK370; clear HB; have BK369 := n0_; have BK370 := n1_; have HB := n2_; have BK371 := n3_; have GW371 := n4_; have GE371 := n5_; have NB369_371 := n6_; have NB371_369 := n7_; have NB370_371 := n8_; have NB371_370 := n9_; clear n0_ n1_ n2_ n3_ n4_ n5_ n6_ n7_ n8_ n9_; clear hb hbox hg))
  have n0_ := Aside0.mk (blk_drew BK369.out)
  have n1_ := Aside0.mk (blk_drew BK370.out)
  have n2_ := Aside0.mk (blk_drew BK371.out)
  have n3_ := Aside0.mk (below_drew1 HB.out)
  clear BK369 BK370 BK371 HB
  have BK369 := n0_; have BK370 := n1_; have BK371 := n2_; have HB := n3_
  clear n0_ n1_ n2_ n3_
  refine start_ (n := 13) (S := fun w' => w'.cell? ⟨gb369, 0, none⟩ = some (.int .i64 a0_0) ∧ w'.cell? ⟨gb369, 1, none⟩ = some (.int .i64 a0_1) ∧ w'.cell? ⟨gb369, 2, none⟩ = some (.int .i64 a0_2) ∧ w'.cell? ⟨gb369, 3, none⟩ = some (.int .i64 a0_3) ∧ w'.cell? ⟨gb370, 0, none⟩ = some (.int .i64 a1_0) ∧ w'.cell? ⟨gb370, 1, none⟩ = some (.int .i64 a1_1) ∧ w'.cell? ⟨gb370, 2, none⟩ = some (.int .i64 a1_2) ∧ w'.cell? ⟨gb370, 3, none⟩ = some (.int .i64 a1_3)) (ds := []) #[false, false, false, false, false, false, false, false, false, false, false, false, false] (by kernel_rfl) rfl rfl ⟨zc BK369 0, zc BK369 1, zc BK369 2, zc BK369 3, zc BK370 0, zc BK370 1, zc BK370 2, zc BK370 3⟩ (fun hHeld => ?_); refine with_tabW impl_commonPart.tab1 impl_commonPart.bits1 (fun HT_ HW_ => ?_)
  generalize w9.drew = w10 at BK369 BK370 BK371 HB hHeld ⊢
  refine pure_ (i := 0) (N := some 7) (v := ?_) (a' := ?_) #[true, false, false, false, false, false, false, false, false, false, false, false, false] rfl rfl (any_of HT_.out (by kernel_rfl)) (fun _ _ _ h => h) (Or.inl ⟨by rfl, ?_⟩) ?_ ?_
  rotate_left
  ·
   intro w'
   go_simp
   with_reducible rfl
  rotate_left
  ·
   simp only [Act.put, List.setIfInBounds_toArray, List.set_cons_zero, List.set_cons_succ, i64_w, i32_w]
   rfl
  refine pure_ (i := 2) (N := some 9) (v := ?_) (a' := ?_) #[true, false, true, false, false, false, false, false, false, false, false, false, false] rfl rfl (any_of HT_.out (by kernel_rfl)) (fun _ _ _ h => h) (Or.inl ⟨by rfl, ?_⟩) ?_ ?_
  rotate_left
  ·
   intro w'
   go_simp
   with_reducible rfl
  rotate_left
  ·
   simp only [Act.put, List.setIfInBounds_toArray, List.set_cons_zero, List.set_cons_succ, i64_w, i32_w]
   rfl
  refine pure_ (i := 5) (N := some 12) (v := ?_) (a' := ?_) #[true, false, true, false, false, true, false, false, false, false, false, false, false] rfl rfl (any_of HT_.out (by kernel_rfl)) (fun _ _ _ h => h) (Or.inl ⟨by rfl, ?_⟩) ?_ ?_
  rotate_left
  ·
   intro w'
   go_simp
   with_reducible rfl
  rotate_left
  ·
   simp only [Act.put, List.setIfInBounds_toArray, List.set_cons_zero, List.set_cons_succ, i64_w, i32_w]
   rfl
  refine pure_ (i := 7) (N := some 14) (v := ?_) (a' := ?_) #[true, false, true, false, false, true, false, true, false, false, false, false, false] rfl rfl (any_of HT_.out (by kernel_rfl)) (fun _ _ _ h => h) (Or.inl ⟨by rfl, ?_⟩) ?_ ?_
  rotate_left
  ·
   intro w'
   go_simp
   with_reducible rfl
  rotate_left
  ·
   simp only [Act.put, List.setIfInBounds_toArray, List.set_cons_zero, List.set_cons_succ, i64_w, i32_w]
   rfl
  refine take_ (i := 1) (N := some 8) (v := ?_) (a' := ?_) #[true, true, true, false, false, true, false, true, false, false, false, false, false] rfl rfl (take_ofW HT_.out HW_.out (by kernel_rfl)) (fun _ _ _ h => h) (Or.inl ⟨by rfl, ?_⟩) hHeld ?_ ?_
  rotate_left
  ·
   rintro w' ⟨s0, s1, s2, s3, s4, s5, s6, s7⟩
   go_simp
   with_reducible rfl
  rotate_left
  ·
   simp only [Act.put, List.setIfInBounds_toArray, List.set_cons_zero, List.set_cons_succ, i64_w, i32_w]
   rfl
  refine take_ (i := 3) (N := some 10) (v := ?_) (a' := ?_) #[true, true, true, true, false, true, false, true, false, false, false, false, false] rfl rfl (take_ofW HT_.out HW_.out (by kernel_rfl)) (fun _ _ _ h => h) (Or.inl ⟨by rfl, ?_⟩) hHeld ?_ ?_
  rotate_left
  ·
   rintro w' ⟨s0, s1, s2, s3, s4, s5, s6, s7⟩
   go_simp
   with_reducible rfl
  rotate_left
  ·
   simp only [Act.put, List.setIfInBounds_toArray, List.set_cons_zero, List.set_cons_succ, i64_w, i32_w]
   rfl
  refine take_ (i := 6) (N := some 13) (v := ?_) (a' := ?_) #[true, true, true, true, false, true, true, true, false, false, false, false, false] rfl rfl (take_ofW HT_.out HW_.out (by kernel_rfl)) (fun _ _ _ h => h) (Or.inl ⟨by rfl, ?_⟩) hHeld ?_ ?_
  rotate_left
  ·
   rintro w' ⟨s0, s1, s2, s3, s4, s5, s6, s7⟩
   go_simp
   with_reducible rfl
  rotate_left
  ·
   simp only [Act.put, List.setIfInBounds_toArray, List.set_cons_zero, List.set_cons_succ, i64_w, i32_w]
   rfl
  refine take_ (i := 8) (N := some 15) (v := ?_) (a' := ?_) #[true, true, true, true, false, true, true, true, true, false, false, false, false] rfl rfl (take_ofW HT_.out HW_.out (by kernel_rfl)) (fun _ _ _ h => h) (Or.inl ⟨by rfl, ?_⟩) hHeld ?_ ?_
  rotate_left
  ·
   rintro w' ⟨s0, s1, s2, s3, s4, s5, s6, s7⟩
   go_simp
   with_reducible rfl
  rotate_left
  ·
   simp only [Act.put, List.setIfInBounds_toArray, List.set_cons_zero, List.set_cons_succ, i64_w, i32_w]
   rfl
  refine join_ (σ := Nat) 1 #[true, true, true, true, true, true, true, true, true, true, true, true, false] (fun s_ => [(11, .agg #[.int .i64 t372, .int .i64 t373]), (16, .agg #[.int .i64 t374, .int .i64 t375]), (6, .pointer (some ⟨s_, 0, none⟩)), (17, .agg #[.int .i64 t372, .int .i64 t373, .int .i64 t374, .int .i64 t375])]) (fun s_ w' => (w'.cell? ⟨gb369, 0, none⟩ = some (.int .i64 a0_0) ∧ w'.cell? ⟨gb369, 1, none⟩ = some (.int .i64 a0_1) ∧ w'.cell? ⟨gb369, 2, none⟩ = some (.int .i64 a0_2) ∧ w'.cell? ⟨gb369, 3, none⟩ = some (.int .i64 a0_3) ∧ w'.cell? ⟨gb370, 0, none⟩ = some (.int .i64 a1_0) ∧ w'.cell? ⟨gb370, 1, none⟩ = some (.int .i64 a1_1) ∧ w'.cell? ⟨gb370, 2, none⟩ = some (.int .i64 a1_2) ∧ w'.cell? ⟨gb370, 3, none⟩ = some (.int .i64 a1_3)) ∧ (w'.heap[gb369]? = some (.cells #[.int .i64 a0_0, .int .i64 a0_1, .int .i64 a0_2, .int .i64 a0_3] 29 (0, 0))) ∧ (w'.heap[gb370]? = some (.cells #[.int .i64 a1_0, .int .i64 a1_1, .int .i64 a1_2, .int .i64 a1_3] 29 (0, 0))) ∧ (w'.heap[gb371]? = some (.cells #[.int .i64 0, .int .i64 0, .int .i64 0, .int .i64 0] 29 (0, 0))) ∧ (w'.heap[s_]? = some (.cells #[.int .i64 0, .int .i64 0, .int .i64 0, .int .i64 0] 29 (0, 0))) ∧ (w.heap.size ≤ s_) ∧ (w.heap.size ≤ s_) ∧ (gb369 ≠ s_) ∧ (s_ ≠ gb369) ∧ (gb370 ≠ s_) ∧ (s_ ≠ gb370) ∧ (gb371 ≠ s_) ∧ (s_ ≠ gb371) ∧ (Below w.heap.size w w')) ?_ ?_
  rotate_left
  ·
   intro hCont
   refine two_ (i := 4) (j := 11) (Ni := some 11) (Nj := some 6) #[true, true, true, true, true, true, true, true, true, false, false, false, false] #[true, true, true, true, false, true, true, true, true, false, false, true, false] rfl rfl rfl rfl (two_of HT_.out (by kernel_rfl)) (by decide) (by decide) (fun K hK => ?_) (fun K hK => ?_)
   ·
    refine goes_ Try.func52 (by kernel_rfl) rfl #[.agg #[.int .i64 a0_0, .int .i64 a0_1], .agg #[.int .i64 a1_0, .int .i64 a1_1]] (by rfl) rfl rfl (by (try simp only [List.map_toArray, List.map_cons, List.map_nil]); first | done | rfl | (simp only [List.length_drop, List.length_take]; rfl)) ?_
    with_reducible refine (impl_greater.calls k a0_0 a0_1 a1_0 a1_1 t372 t373 _ A3.out).mono ?_
    rintro e w11 ⟨rfl, hb⟩
    refine ⟨_, rfl, ?_⟩
    have n0_ := Aside0.mk (zbb BK369 hb)
    have n1_ := Aside0.mk (zbb BK370 hb)
    have n2_ := Aside0.mk (zbb BK371 hb)
    have n3_ := Aside0.mk (below_step (z54_1 HB) hb)
    clear BK369 BK370 BK371 HB
    have BK369 := n0_; have BK370 := n1_; have BK371 := n2_; have HB := n3_
    clear n0_ n1_ n2_ n3_
    (try clear hb)
    (try clear hb2)
    (try clear hk)
    (try clear hi)
    refine hK.out _ _ ⟨zc BK369 0, zc BK369 1, zc BK369 2, zc BK369 3, zc BK370 0, zc BK370 1, zc BK370 2, zc BK370 3⟩ (fun hHeld => ?_)
    clear hK K
    refine norm_ (a' := ?_) ?_ ?_
    rotate_left
    ·
     show Act.put _ (some 11) _ = _
     simp only [Act.put, List.setIfInBounds_toArray, List.set_cons_zero, List.set_cons_succ, i64_w, i32_w]; rfl
    refine two_ (i := 9) (j := 11) (Ni := some 16) (Nj := some 6) #[true, true, true, true, true, true, true, true, true, true, false, false, false] #[true, true, true, true, true, true, true, true, true, false, false, true, false] rfl rfl rfl rfl (two_of HT_.out (by kernel_rfl)) (by decide) (by decide) (fun K hK => ?_) (fun K hK => ?_)
    ·
     refine goes_ Try.func51 (by kernel_rfl) rfl #[.agg #[.int .i64 a0_2, .int .i64 a0_3], .agg #[.int .i64 a1_2, .int .i64 a1_3]] (by rfl) rfl rfl (by (try simp only [List.map_toArray, List.map_cons, List.map_nil]); first | done | rfl | (simp only [List.length_drop, List.length_take]; rfl)) ?_
     with_reducible refine (impl_lesser.calls k a0_2 a0_3 a1_2 a1_3 t374 t375 _ A4.out).mono ?_
     rintro e w12 ⟨rfl, hb⟩
     refine ⟨_, rfl, ?_⟩
     have n0_ := Aside0.mk (zbb BK369 hb)
     have n1_ := Aside0.mk (zbb BK370 hb)
     have n2_ := Aside0.mk (zbb BK371 hb)
     have n3_ := Aside0.mk (below_step (z54_1 HB) hb)
     clear BK369 BK370 BK371 HB
     have BK369 := n0_; have BK370 := n1_; have BK371 := n2_; have HB := n3_
     clear n0_ n1_ n2_ n3_
     (try clear hb)
     (try clear hb2)
     (try clear hk)
     (try clear hi)
     refine hK.out _ _ ⟨zc BK369 0, zc BK369 1, zc BK369 2, zc BK369 3, zc BK370 0, zc BK370 1, zc BK370 2, zc BK370 3⟩ (fun hHeld => ?_)
     clear hK K
     refine norm_ (a' := ?_) ?_ ?_
     rotate_left
     ·
      show Act.put _ (some 16) _ = _
      simp only [Act.put, List.setIfInBounds_toArray, List.set_cons_zero, List.set_cons_succ, i64_w, i32_w]; rfl
     refine pure_ (i := 10) (N := some 17) (v := ?_) (a' := ?_) #[true, true, true, true, true, true, true, true, true, true, true, false, false] rfl rfl (any_of HT_.out (by kernel_rfl)) (fun _ _ _ h => h) (Or.inl ⟨by rfl, ?_⟩) ?_ ?_
     rotate_left
     ·
      intro w'
      go_simp
      with_reducible rfl
     rotate_left
     ·
      simp only [Act.put, List.setIfInBounds_toArray, List.set_cons_zero, List.set_cons_succ, i64_w, i32_w]
      rfl
     refine one_ (i := 11) (N := some 6) #[true, true, true, true, true, true, true, true, true, true, true, true, false] rfl rfl (one_of HT_.out (by kernel_rfl)) (by decide) (fun K hK => ?_)
     refine box_step ?hg (N := 6) ?hd (cs := #[.int .i64 0, .int .i64 0, .int .i64 0, .int .i64 0]) (t := 29) ?hr ?_; (case hd => rfl); (case hg => rfl); (case hr => first | (go_simp; done) | (go_simp; rfl))
     intro gb376 hg w13 hbox hb
     have n0_ := Aside0.mk (zbb BK369 hb)
     have n1_ := Aside0.mk (zbb BK370 hb)
     have n2_ := Aside0.mk (zbb BK371 hb)
     have n3_ := Aside0.mk (below_step (z54_1 HB) hb)
     have BK376 := Aside0.mk (hbox)
     have GW376 := Aside0.mk ((by rw [hg]; exact (below_size (z54_1 HB)) : w.heap.size ≤ gb376))
     have GE376 := Aside0.mk ((by rw [hg]; exact (below_size (z54_1 HB)) : w.heap.size ≤ gb376))
     have NB369_376 := Aside0.mk (zlt BK369 hg)
     have NB376_369 := Aside0.mk (zgt BK369 hg)
     have NB370_376 := Aside0.mk (zlt BK370 hg)
     have NB376_370 := Aside0.mk (zgt BK370 hg)
     have NB371_376 := Aside0.mk (zlt BK371 hg)
     have NB376_371 := Aside0.mk (zgt BK371 hg)
     clear BK369 BK370 BK371 HB
     have BK369 := n0_; have BK370 := n1_; have BK371 := n2_; have HB := n3_
     clear n0_ n1_ n2_ n3_ hb hbox hg
     refine hK.out _ _ ⟨zc BK369 0, zc BK369 1, zc BK369 2, zc BK369 3, zc BK370 0, zc BK370 1, zc BK370 2, zc BK370 3⟩ (fun hHeld => ?_)
     clear hK K
     refine norm_ (a' := ?_) ?_ ?_
     rotate_left
     ·
      show Act.put _ (some 6) _ = _
      simp only [Act.put, List.setIfInBounds_toArray, List.set_cons_zero, List.set_cons_succ, i64_w, i32_w]; rfl
     exact norm_ (by simp only [putAll, Act.put, List.setIfInBounds_toArray, List.set_cons_zero, List.set_cons_succ]) (hCont (gb376) _ ⟨hHeld, (zq1 BK369), (zq1 BK370), (zq1 BK371), (zq1 BK376), GW376.out, GE376.out, NB369_376.out, NB376_369.out, NB370_376.out, NB376_370.out, NB371_376.out, NB376_371.out, (z54_1 HB)⟩)
    ·
     refine box_step ?hg (N := 6) ?hd (cs := #[.int .i64 0, .int .i64 0, .int .i64 0, .int .i64 0]) (t := 29) ?hr ?_; (case hd => rfl); (case hg => rfl); (case hr => first | (go_simp; done) | (go_simp; rfl))
     intro gb376 hg w12 hbox hb
     have n0_ := Aside0.mk (zbb BK369 hb)
     have n1_ := Aside0.mk (zbb BK370 hb)
     have n2_ := Aside0.mk (zbb BK371 hb)
     have n3_ := Aside0.mk (below_step (z54_1 HB) hb)
     have BK376 := Aside0.mk (hbox)
     have GW376 := Aside0.mk ((by rw [hg]; exact (below_size (z54_1 HB)) : w.heap.size ≤ gb376))
     have GE376 := Aside0.mk ((by rw [hg]; exact (below_size (z54_1 HB)) : w.heap.size ≤ gb376))
     have NB369_376 := Aside0.mk (zlt BK369 hg)
     have NB376_369 := Aside0.mk (zgt BK369 hg)
     have NB370_376 := Aside0.mk (zlt BK370 hg)
     have NB376_370 := Aside0.mk (zgt BK370 hg)
     have NB371_376 := Aside0.mk (zlt BK371 hg)
     have NB376_371 := Aside0.mk (zgt BK371 hg)
     clear BK369 BK370 BK371 HB
     have BK369 := n0_; have BK370 := n1_; have BK371 := n2_; have HB := n3_
     clear n0_ n1_ n2_ n3_ hb hbox hg
     refine hK.out _ _ ⟨zc BK369 0, zc BK369 1, zc BK369 2, zc BK369 3, zc BK370 0, zc BK370 1, zc BK370 2, zc BK370 3⟩ (fun hHeld => ?_)
     clear hK K
     refine norm_ (a' := ?_) ?_ ?_
     rotate_left
     ·
      show Act.put _ (some 6) _ = _
      simp only [Act.put, List.setIfInBounds_toArray, List.set_cons_zero, List.set_cons_succ, i64_w, i32_w]; rfl
     refine one_ (i := 9) (N := some 16) #[true, true, true, true, true, true, true, true, true, true, false, true, false] rfl rfl (one_of HT_.out (by kernel_rfl)) (by decide) (fun K hK => ?_)
     refine goes_ Try.func51 (by kernel_rfl) rfl #[.agg #[.int .i64 a0_2, .int .i64 a0_3], .agg #[.int .i64 a1_2, .int .i64 a1_3]] (by rfl) rfl rfl (by (try simp only [List.map_toArray, List.map_cons, List.map_nil]); first | done | rfl | (simp only [List.length_drop, List.length_take]; rfl)) ?_
     with_reducible refine (impl_lesser.calls k a0_2 a0_3 a1_2 a1_3 t374 t375 _ A4.out).mono ?_
     rintro e w13 ⟨rfl, hb⟩
     refine ⟨_, rfl, ?_⟩
     have n0_ := Aside0.mk (zbb BK369 hb)
     have n1_ := Aside0.mk (zbb BK370 hb)
     have n2_ := Aside0.mk (zbb BK371 hb)
     have n3_ := Aside0.mk (zbb BK376 hb)
     have n4_ := Aside0.mk (below_step (z54_1 HB) hb)
     clear BK369 BK370 BK371 BK376 HB
     have BK369 := n0_; have BK370 := n1_; have BK371 := n2_; have BK376 := n3_; have HB := n4_
     clear n0_ n1_ n2_ n3_ n4_
     (try clear hb)
     (try clear hb2)
     (try clear hk)
     (try clear hi)
     refine hK.out _ _ ⟨zc BK369 0, zc BK369 1, zc BK369 2, zc BK369 3, zc BK370 0, zc BK370 1, zc BK370 2, zc BK370 3⟩ (fun hHeld => ?_)
     clear hK K
     refine norm_ (a' := ?_) ?_ ?_
     rotate_left
     ·
      show Act.put _ (some 16) _ = _
      simp only [Act.put, List.setIfInBounds_toArray, List.set_cons_zero, List.set_cons_succ, i64_w, i32_w]; rfl
     refine pure_ (i := 10) (N := some 17) (v := ?_) (a' := ?_) #[true, true, true, true, true, true, true, true, true, true, true, true, false] rfl rfl (any_of HT_.out (by kernel_rfl)) (fun _ _ _ h => h) (Or.inl ⟨by rfl, ?_⟩) ?_ ?_
     rotate_left
     ·
      intro w'
      go_simp
      with_reducible rfl
     rotate_left
     ·
      simp only [Act.put, List.setIfInBounds_toArray, List.set_cons_zero, List.set_cons_succ, i64_w, i32_w]
      rfl
     exact norm_ (by simp only [putAll, Act.put, List.setIfInBounds_toArray, List.set_cons_zero, List.set_cons_succ]) (hCont (gb376) _ ⟨hHeld, (zq1 BK369), (zq1 BK370), (zq1 BK371), (zq1 BK376), GW376.out, GE376.out, NB369_376.out, NB376_369.out, NB370_376.out, NB376_370.out, NB371_376.out, NB376_371.out, (z54_1 HB)⟩)
   ·
    refine box_step ?hg (N := 6) ?hd (cs := #[.int .i64 0, .int .i64 0, .int .i64 0, .int .i64 0]) (t := 29) ?hr ?_; (case hd => rfl); (case hg => rfl); (case hr => first | (go_simp; done) | (go_simp; rfl))
    intro gb376 hg w11 hbox hb
    have n0_ := Aside0.mk (zbb BK369 hb)
    have n1_ := Aside0.mk (zbb BK370 hb)
    have n2_ := Aside0.mk (zbb BK371 hb)
    have n3_ := Aside0.mk (below_step (z54_1 HB) hb)
    have BK376 := Aside0.mk (hbox)
    have GW376 := Aside0.mk ((by rw [hg]; exact (below_size (z54_1 HB)) : w.heap.size ≤ gb376))
    have GE376 := Aside0.mk ((by rw [hg]; exact (below_size (z54_1 HB)) : w.heap.size ≤ gb376))
    have NB369_376 := Aside0.mk (zlt BK369 hg)
    have NB376_369 := Aside0.mk (zgt BK369 hg)
    have NB370_376 := Aside0.mk (zlt BK370 hg)
    have NB376_370 := Aside0.mk (zgt BK370 hg)
    have NB371_376 := Aside0.mk (zlt BK371 hg)
    have NB376_371 := Aside0.mk (zgt BK371 hg)
    clear BK369 BK370 BK371 HB
    have BK369 := n0_; have BK370 := n1_; have BK371 := n2_; have HB := n3_
    clear n0_ n1_ n2_ n3_ hb hbox hg
    refine hK.out _ _ ⟨zc BK369 0, zc BK369 1, zc BK369 2, zc BK369 3, zc BK370 0, zc BK370 1, zc BK370 2, zc BK370 3⟩ (fun hHeld => ?_)
    clear hK K
    refine norm_ (a' := ?_) ?_ ?_
    rotate_left
    ·
     show Act.put _ (some 6) _ = _
     simp only [Act.put, List.setIfInBounds_toArray, List.set_cons_zero, List.set_cons_succ, i64_w, i32_w]; rfl
    refine one_ (i := 4) (N := some 11) #[true, true, true, true, true, true, true, true, true, false, false, true, false] rfl rfl (one_of HT_.out (by kernel_rfl)) (by decide) (fun K hK => ?_)
    refine goes_ Try.func52 (by kernel_rfl) rfl #[.agg #[.int .i64 a0_0, .int .i64 a0_1], .agg #[.int .i64 a1_0, .int .i64 a1_1]] (by rfl) rfl rfl (by (try simp only [List.map_toArray, List.map_cons, List.map_nil]); first | done | rfl | (simp only [List.length_drop, List.length_take]; rfl)) ?_
    with_reducible refine (impl_greater.calls k a0_0 a0_1 a1_0 a1_1 t372 t373 _ A3.out).mono ?_
    rintro e w12 ⟨rfl, hb⟩
    refine ⟨_, rfl, ?_⟩
    have n0_ := Aside0.mk (zbb BK369 hb)
    have n1_ := Aside0.mk (zbb BK370 hb)
    have n2_ := Aside0.mk (zbb BK371 hb)
    have n3_ := Aside0.mk (zbb BK376 hb)
    have n4_ := Aside0.mk (below_step (z54_1 HB) hb)
    clear BK369 BK370 BK371 BK376 HB
    have BK369 := n0_; have BK370 := n1_; have BK371 := n2_; have BK376 := n3_; have HB := n4_
    clear n0_ n1_ n2_ n3_ n4_
    (try clear hb)
    (try clear hb2)
    (try clear hk)
    (try clear hi)
    refine hK.out _ _ ⟨zc BK369 0, zc BK369 1, zc BK369 2, zc BK369 3, zc BK370 0, zc BK370 1, zc BK370 2, zc BK370 3⟩ (fun hHeld => ?_)
    clear hK K
    refine norm_ (a' := ?_) ?_ ?_
    rotate_left
    ·
     show Act.put _ (some 11) _ = _
     simp only [Act.put, List.setIfInBounds_toArray, List.set_cons_zero, List.set_cons_succ, i64_w, i32_w]; rfl
    refine one_ (i := 9) (N := some 16) #[true, true, true, true, true, true, true, true, true, true, false, true, false] rfl rfl (one_of HT_.out (by kernel_rfl)) (by decide) (fun K hK => ?_)
    refine goes_ Try.func51 (by kernel_rfl) rfl #[.agg #[.int .i64 a0_2, .int .i64 a0_3], .agg #[.int .i64 a1_2, .int .i64 a1_3]] (by rfl) rfl rfl (by (try simp only [List.map_toArray, List.map_cons, List.map_nil]); first | done | rfl | (simp only [List.length_drop, List.length_take]; rfl)) ?_
    with_reducible refine (impl_lesser.calls k a0_2 a0_3 a1_2 a1_3 t374 t375 _ A4.out).mono ?_
    rintro e w13 ⟨rfl, hb⟩
    refine ⟨_, rfl, ?_⟩
    have n0_ := Aside0.mk (zbb BK369 hb)
    have n1_ := Aside0.mk (zbb BK370 hb)
    have n2_ := Aside0.mk (zbb BK371 hb)
    have n3_ := Aside0.mk (zbb BK376 hb)
    have n4_ := Aside0.mk (below_step (z54_1 HB) hb)
    clear BK369 BK370 BK371 BK376 HB
    have BK369 := n0_; have BK370 := n1_; have BK371 := n2_; have BK376 := n3_; have HB := n4_
    clear n0_ n1_ n2_ n3_ n4_
    (try clear hb)
    (try clear hb2)
    (try clear hk)
    (try clear hi)
    refine hK.out _ _ ⟨zc BK369 0, zc BK369 1, zc BK369 2, zc BK369 3, zc BK370 0, zc BK370 1, zc BK370 2, zc BK370 3⟩ (fun hHeld => ?_)
    clear hK K
    refine norm_ (a' := ?_) ?_ ?_
    rotate_left
    ·
     show Act.put _ (some 16) _ = _
     simp only [Act.put, List.setIfInBounds_toArray, List.set_cons_zero, List.set_cons_succ, i64_w, i32_w]; rfl
    refine pure_ (i := 10) (N := some 17) (v := ?_) (a' := ?_) #[true, true, true, true, true, true, true, true, true, true, true, true, false] rfl rfl (any_of HT_.out (by kernel_rfl)) (fun _ _ _ h => h) (Or.inl ⟨by rfl, ?_⟩) ?_ ?_
    rotate_left
    ·
     intro w'
     go_simp
     with_reducible rfl
    rotate_left
    ·
     simp only [Act.put, List.setIfInBounds_toArray, List.set_cons_zero, List.set_cons_succ, i64_w, i32_w]
     rfl
    exact norm_ (by simp only [putAll, Act.put, List.setIfInBounds_toArray, List.set_cons_zero, List.set_cons_succ]) (hCont (gb376) _ ⟨hHeld, (zq1 BK369), (zq1 BK370), (zq1 BK371), (zq1 BK376), GW376.out, GE376.out, NB369_376.out, NB376_369.out, NB370_376.out, NB376_370.out, NB371_376.out, NB376_371.out, (z54_1 HB)⟩)
  rintro gb376 w14 ⟨hS_, h0_, h1_, h2_, h3_, h4_, h5_, h6_, h7_, h8_, h9_, h10_, h11_, h12_⟩
  have n0_ : Aside0 (w14.heap[gb369]? = some (.cells #[.int .i64 a0_0, .int .i64 a0_1, .int .i64 a0_2, .int .i64 a0_3] 29 (0, 0))) := ⟨h0_⟩
  have n1_ : Aside0 (w14.heap[gb370]? = some (.cells #[.int .i64 a1_0, .int .i64 a1_1, .int .i64 a1_2, .int .i64 a1_3] 29 (0, 0))) := ⟨h1_⟩
  have n2_ : Aside0 (w14.heap[gb371]? = some (.cells #[.int .i64 0, .int .i64 0, .int .i64 0, .int .i64 0] 29 (0, 0))) := ⟨h2_⟩
  have BK376 : Aside0 (w14.heap[gb376]? = some (.cells #[.int .i64 0, .int .i64 0, .int .i64 0, .int .i64 0] 29 (0, 0))) := ⟨h3_⟩
  have GW376 : Aside0 (w.heap.size ≤ gb376) := ⟨h4_⟩
  have GE376 : Aside0 (w.heap.size ≤ gb376) := ⟨h5_⟩
  have NB369_376 : Aside0 (gb369 ≠ gb376) := ⟨h6_⟩
  have NB376_369 : Aside0 (gb376 ≠ gb369) := ⟨h7_⟩
  have NB370_376 : Aside0 (gb370 ≠ gb376) := ⟨h8_⟩
  have NB376_370 : Aside0 (gb376 ≠ gb370) := ⟨h9_⟩
  have NB371_376 : Aside0 (gb371 ≠ gb376) := ⟨h10_⟩
  have NB376_371 : Aside0 (gb376 ≠ gb371) := ⟨h11_⟩
  have n12_ : Aside0 (Below w.heap.size w w14) := ⟨h12_⟩
  clear BK369 BK370 BK371 HB h0_ h1_ h2_ h3_ h4_ h5_ h6_ h7_ h8_ h9_ h10_ h11_ h12_
  have BK369 := n0_; have BK370 := n1_; have BK371 := n2_; have HB := n12_
  clear n0_ n1_ n2_ n12_
  have hHeld : w14.cell? ⟨gb369, 0, none⟩ = some (.int .i64 a0_0) ∧ w14.cell? ⟨gb369, 1, none⟩ = some (.int .i64 a0_1) ∧ w14.cell? ⟨gb369, 2, none⟩ = some (.int .i64 a0_2) ∧ w14.cell? ⟨gb369, 3, none⟩ = some (.int .i64 a0_3) ∧ w14.cell? ⟨gb370, 0, none⟩ = some (.int .i64 a1_0) ∧ w14.cell? ⟨gb370, 1, none⟩ = some (.int .i64 a1_1) ∧ w14.cell? ⟨gb370, 2, none⟩ = some (.int .i64 a1_2) ∧ w14.cell? ⟨gb370, 3, none⟩ = some (.int .i64 a1_3) := hS_
  refine norm_ (a' := ?_) ?_ ?_
  rotate_left
  ·
   simp only [putAll, Act.put, List.setIfInBounds_toArray, List.set_cons_zero, List.set_cons_succ]
   rfl
  refine one_ (i := 12) (N := none) #[true, true, true, true, true, true, true, true, true, true, true, true, true] rfl rfl (one_of HT_.out (by kernel_rfl)) (by decide) (fun K hK => ?_)
  have hs15 : w14.cell? ⟨gb376, 0, none⟩ = some (.int .i64 0) := zc BK376 0
  have hfs15 := blk_frozen BK376.out 0
  have hns15_0 := NB369_376.out
  have hns15_1 := NB370_376.out
  have hns15_2 := NB371_376.out
  have hms15_0 := NB376_369.out
  have hms15_1 := NB376_370.out
  have hms15_2 := NB376_371.out
  have hs16 : w14.cell? ⟨gb376, 1, none⟩ = some (.int .i64 0) := zc BK376 1
  have hfs16 := blk_frozen BK376.out 1
  have hns16_0 := NB369_376.out
  have hns16_1 := NB370_376.out
  have hns16_2 := NB371_376.out
  have hms16_0 := NB376_369.out
  have hms16_1 := NB376_370.out
  have hms16_2 := NB376_371.out
  have hs17 : w14.cell? ⟨gb376, 2, none⟩ = some (.int .i64 0) := zc BK376 2
  have hfs17 := blk_frozen BK376.out 2
  have hns17_0 := NB369_376.out
  have hns17_1 := NB370_376.out
  have hns17_2 := NB371_376.out
  have hms17_0 := NB376_369.out
  have hms17_1 := NB376_370.out
  have hms17_2 := NB376_371.out
  have hs18 : w14.cell? ⟨gb376, 3, none⟩ = some (.int .i64 0) := zc BK376 3
  have hfs18 := blk_frozen BK376.out 3
  have hns18_0 := NB369_376.out
  have hns18_1 := NB370_376.out
  have hns18_2 := NB371_376.out
  have hms18_0 := NB376_369.out
  have hms18_1 := NB376_370.out
  have hms18_2 := NB376_371.out
  refine skip_ (w1 := ?_) (by rfl) rfl ?_ ?_
  rotate_left
  ·
   go_simp
   rfl
  refine hK.out _ _ ⟨((cell_far (p := ⟨gb376, _, none⟩) NB369_376.out _).trans (((cell_far (p := ⟨gb376, _, none⟩) NB369_376.out _).trans (((cell_far (p := ⟨gb376, _, none⟩) NB369_376.out _).trans (((cell_far (p := ⟨gb376, _, none⟩) NB369_376.out _).trans (hHeld.1)))))))), ((cell_far (p := ⟨gb376, _, none⟩) NB369_376.out _).trans (((cell_far (p := ⟨gb376, _, none⟩) NB369_376.out _).trans (((cell_far (p := ⟨gb376, _, none⟩) NB369_376.out _).trans (((cell_far (p := ⟨gb376, _, none⟩) NB369_376.out _).trans (hHeld.2.1)))))))), ((cell_far (p := ⟨gb376, _, none⟩) NB369_376.out _).trans (((cell_far (p := ⟨gb376, _, none⟩) NB369_376.out _).trans (((cell_far (p := ⟨gb376, _, none⟩) NB369_376.out _).trans (((cell_far (p := ⟨gb376, _, none⟩) NB369_376.out _).trans (hHeld.2.2.1)))))))), ((cell_far (p := ⟨gb376, _, none⟩) NB369_376.out _).trans (((cell_far (p := ⟨gb376, _, none⟩) NB369_376.out _).trans (((cell_far (p := ⟨gb376, _, none⟩) NB369_376.out _).trans (((cell_far (p := ⟨gb376, _, none⟩) NB369_376.out _).trans (hHeld.2.2.2.1)))))))), ((cell_far (p := ⟨gb376, _, none⟩) NB370_376.out _).trans (((cell_far (p := ⟨gb376, _, none⟩) NB370_376.out _).trans (((cell_far (p := ⟨gb376, _, none⟩) NB370_376.out _).trans (((cell_far (p := ⟨gb376, _, none⟩) NB370_376.out _).trans (hHeld.2.2.2.2.1)))))))), ((cell_far (p := ⟨gb376, _, none⟩) NB370_376.out _).trans (((cell_far (p := ⟨gb376, _, none⟩) NB370_376.out _).trans (((cell_far (p := ⟨gb376, _, none⟩) NB370_376.out _).trans (((cell_far (p := ⟨gb376, _, none⟩) NB370_376.out _).trans (hHeld.2.2.2.2.2.1)))))))), ((cell_far (p := ⟨gb376, _, none⟩) NB370_376.out _).trans (((cell_far (p := ⟨gb376, _, none⟩) NB370_376.out _).trans (((cell_far (p := ⟨gb376, _, none⟩) NB370_376.out _).trans (((cell_far (p := ⟨gb376, _, none⟩) NB370_376.out _).trans (hHeld.2.2.2.2.2.2.1)))))))), ((cell_far (p := ⟨gb376, _, none⟩) NB370_376.out _).trans (((cell_far (p := ⟨gb376, _, none⟩) NB370_376.out _).trans (((cell_far (p := ⟨gb376, _, none⟩) NB370_376.out _).trans (((cell_far (p := ⟨gb376, _, none⟩) NB370_376.out _).trans (hHeld.2.2.2.2.2.2.2))))))))⟩ (fun hHeld => ?_)
  clear hK K
  refine done_ (done_of HT_.out (by kernel_rfl)) ?_
  have hnb19 := NB376_369.out
  have hnc19 := NB369_376.out
  have hnb20 := NB376_370.out
  have hnc20 := NB370_376.out
  have hnb21 := NB376_371.out
  have hnc21 := NB371_376.out
  have hcz22_0 : w14.cell? ⟨gb376, 0, none⟩ = some (.int .i64 0) := zc BK376 0
  have hcz22_1 : w14.cell? ⟨gb376, 1, none⟩ = some (.int .i64 0) := zc BK376 1
  have hcz22_2 : w14.cell? ⟨gb376, 2, none⟩ = some (.int .i64 0) := zc BK376 2
  have hcz22_3 : w14.cell? ⟨gb376, 3, none⟩ = some (.int .i64 0) := zc BK376 3
  have hfz22_0 := blk_frozen BK376.out 0
  have hfz22_1 := blk_frozen BK376.out 1
  have hfz22_2 := blk_frozen BK376.out 2
  have hfz22_3 := blk_frozen BK376.out 3
  try go_wp2_with (first | ((with_reducible refine gate_callee (f := 47) rfl ?_); refine goesL_ (some 22) rfl rfl Try.func47 (by kernel_rfl) rfl #[.agg #[.int .i64 t372, .int .i64 t373], .agg #[.int .i64 t374, .int .i64 t375]] rfl (by (try simp only [List.map_toArray, List.map_cons, List.map_nil]); first | done | rfl | (simp only [List.length_drop, List.length_take]; rfl)) ?_; (with_reducible refine (impl_compareD.calls k t372 t373 t374 t375 t377 _ A5.out).mono ?_); rintro e w23 ⟨rfl, hb⟩; refine ⟨_, rfl, ?_⟩; have n0_ := Aside0.mk (blk_below (g := gb369) (o := .cells #[.int .i64 a0_0, .int .i64 a0_1, .int .i64 a0_2, .int .i64 a0_3] 29 (0, 0)) (zq5 BK369) hb); have n1_ := Aside0.mk (blk_below (g := gb370) (o := .cells #[.int .i64 a1_0, .int .i64 a1_1, .int .i64 a1_2, .int .i64 a1_3] 29 (0, 0)) (zq5 BK370) hb); have n2_ := Aside0.mk (blk_below (g := gb371) (o := .cells #[.int .i64 0, .int .i64 0, .int .i64 0, .int .i64 0] 29 (0, 0)) (zq5 BK371) hb); have n3_ := Aside0.mk (blk_below (g := gb376) (o := .cells #[.int .i64 t372, .int .i64 t373, .int .i64 t374, .int .i64 t375] 29 (0, 0)) (by (with_reducible repeat (first | refine blk_drewN ?_ _ | refine blk_drew ?_ | refine blk_alloc ?_ _)); refine blk_put (cs := #[.int .i64 t372, .int .i64 t373, .int .i64 t374, .int .i64 0]) ?_ 3 _ rfl; (with_reducible repeat (first | refine blk_drewN ?_ _ | refine blk_drew ?_ | refine blk_alloc ?_ _)); refine blk_put (cs := #[.int .i64 t372, .int .i64 t373, .int .i64 0, .int .i64 0]) ?_ 2 _ rfl; (with_reducible repeat (first | refine blk_drewN ?_ _ | refine blk_drew ?_ | refine blk_alloc ?_ _)); refine blk_put (cs := #[.int .i64 t372, .int .i64 0, .int .i64 0, .int .i64 0]) ?_ 1 _ rfl; (with_reducible repeat (first | refine blk_drewN ?_ _ | refine blk_drew ?_ | refine blk_alloc ?_ _)); refine blk_put (cs := #[.int .i64 0, .int .i64 0, .int .i64 0, .int .i64 0]) ?_ 0 _ rfl; (with_reducible repeat (first | refine blk_drewN ?_ _ | refine blk_drew ?_ | refine blk_alloc ?_ _)); exact BK376.out) hb); have n4_ := Aside0.mk (below_step (z54_1 HB) hb); clear BK369; clear BK370; clear BK371; clear BK376; clear HB; have BK369 := n0_; have BK370 := n1_; have BK371 := n2_; have BK376 := n3_; have HB := n4_; clear n0_ n1_ n2_ n3_ n4_; (try clear hb); (try clear hb2); (try clear hk); (try clear hi); have hnb24 := NB371_369.out; have hnc24 := NB369_371.out; have hnb25 := NB371_370.out; have hnc25 := NB370_371.out; have hcz26_0 : w23.cell? ⟨gb371, 0, none⟩ = some (.int .i64 0) := zc BK371 0; have hcz26_1 : w23.cell? ⟨gb371, 1, none⟩ = some (.int .i64 0) := zc BK371 1; have hcz26_2 : w23.cell? ⟨gb371, 2, none⟩ = some (.int .i64 0) := zc BK371 2; have hcz26_3 : w23.cell? ⟨gb371, 3, none⟩ = some (.int .i64 0) := zc BK371 3; have hfz26_0 := blk_frozen BK371.out 0; have hfz26_1 := blk_frozen BK371.out 1; have hfz26_2 := blk_frozen BK371.out 2; have hfz26_3 := blk_frozen BK371.out 3))
  refine bodyPost_ret (results_ct rfl _ _ gb371 29 #[.int .i64 0, .int .i64 0, .int .i64 0, .int .i64 0] (0, 0) _ rfl (by (with_reducible repeat (first | refine blk_drewN ?_ _ | refine blk_drew ?_ | refine blk_alloc ?_ _)); refine blk_put (cs := #[.int .i64 0, .int .i64 0, .int .i64 0, .int .i64 0]) ?_ 3 _ rfl; (with_reducible repeat (first | refine blk_drewN ?_ _ | refine blk_drew ?_ | refine blk_alloc ?_ _)); refine blk_put (cs := #[.int .i64 0, .int .i64 0, .int .i64 0, .int .i64 0]) ?_ 2 _ rfl; (with_reducible repeat (first | refine blk_drewN ?_ _ | refine blk_drew ?_ | refine blk_alloc ?_ _)); refine blk_put (cs := #[.int .i64 0, .int .i64 0, .int .i64 0, .int .i64 0]) ?_ 1 _ rfl; (with_reducible repeat (first | refine blk_drewN ?_ _ | refine blk_drew ?_ | refine blk_alloc ?_ _)); refine blk_put (cs := #[.int .i64 0, .int .i64 0, .int .i64 0, .int .i64 0]) ?_ 0 _ rfl; (with_reducible repeat (first | refine blk_drewN ?_ _ | refine blk_drew ?_ | refine blk_alloc ?_ _)); exact BK371.out) Try.underlying29 rfl (by kernel_rfl)) rfl ?_
  exact ⟨by first | rfl | (simp [errW_none, errW_some] <;> rfl) | (simp [*, errW_none, errW_some] <;> rfl), (z54_1 HB)⟩
 ·
  rw [if_neg c6] at H
  have c6b0 : decide (0 < t377) = false := decide_eq_false c6
  clear c6
  simp only [Option.some.injEq, Prod.mk.injEq] at H
  obtain ⟨rfl, rfl, rfl, rfl, rfl⟩ := H
  go_enter Try.func54, Try.ntmps54
  try go_wp2_with (first | ((with_reducible refine gate_dst (N := 2) rfl ?_); refine box_event ?hg (N := 2) ?hd (cs := #[.int .i64 a0_0, .int .i64 a0_1, .int .i64 a0_2, .int .i64 a0_3]) (t := 29) ?hr ?_; (case hd => rfl); (case hg => rfl); (case hr => first | (go_simp; done) | (go_simp; rfl)); intro gb369 hg w27 hbox hb; have n0_ := Aside0.mk (below_step (z54_0 HB) hb); have n1_ := Aside0.mk (hbox); have n2_ := Aside0.mk ((by rw [hg]; exact (below_size (z54_0 HB)) : w.heap.size ≤ gb369)); have n3_ := Aside0.mk ((by rw [hg]; exact (below_size (z54_0 HB)) : w.heap.size ≤ gb369)); clear HB; have HB := n0_; have BK369 := n1_; have GW369 := n2_; have GE369 := n3_; clear n0_ n1_ n2_ n3_; clear hb hbox hg) | ((with_reducible refine gate_dst (N := 3) rfl ?_); refine box_event ?hg (N := 3) ?hd (cs := #[.int .i64 a1_0, .int .i64 a1_1, .int .i64 a1_2, .int .i64 a1_3]) (t := 29) ?hr ?_; (case hd => rfl); (case hg => rfl); (case hr => first | (go_simp; done) | (go_simp; rfl)); intro gb370 hg w28 hbox hb; have n0_ := Aside0.mk (zbb BK369 hb); have n1_ := Aside0.mk (below_step (z54_1 HB) hb); have n2_ := Aside0.mk (hbox); have n3_ := Aside0.mk ((by rw [hg]; exact (below_size (z54_1 HB)) : w.heap.size ≤ gb370)); have n4_ := Aside0.mk ((by rw [hg]; exact (below_size (z54_1 HB)) : w.heap.size ≤ gb370)); have n5_ := Aside0.mk (zlt BK369 hg); have n6_ := Aside0.mk (zgt BK369 hg); clear BK369; clear HB; have BK369 := n0_; have HB := n1_; have BK370 := n2_; have GW370 := n3_; have GE370 := n4_; have NB369_370 := n5_; have NB370_369 := n6_; clear n0_ n1_ n2_ n3_ n4_ n5_ n6_; clear hb hbox hg) | ((with_reducible refine gate_dst (N := 4) rfl ?_); refine box_event ?hg (N := 4) ?hd (cs := #[.int .i64 0, .int .i64 0, .int .i64 0, .int .i64 0]) (t := 29) ?hr ?_; (case hd => rfl); (case hg => rfl); (case hr => first | (go_simp; done) | (go_simp; rfl)); intro gb371 hg w29 hbox hb; have n0_ := Aside0.mk (zbb BK369 hb); have n1_ := Aside0.mk (zbb BK370 hb); have n2_ := Aside0.mk (below_step (z54_1 HB) hb); have n3_ := Aside0.mk (hbox); have n4_ := Aside0.mk ((by rw [hg]; exact (below_size (z54_1 HB)) : w.heap.size ≤ gb371)); have n5_ := Aside0.mk ((by rw [hg]; exact (below_size (z54_1 HB)) : w.heap.size ≤ gb371)); have n6_ := Aside0.mk (zlt BK369 hg); have n7_ := Aside0.mk (zgt BK369 hg); have n8_ := Aside0.mk (zlt BK370 hg); have n9_ := Aside0.mk (zgt BK370 hg); clear BK369; clear BK370; clear HB; have BK369 := n0_; have BK370 := n1_; have HB := n2_; have BK371 := n3_; have GW371 := n4_; have GE371 := n5_; have NB369_371 := n6_; have NB371_369 := n7_; have NB370_371 := n8_; have NB371_370 := n9_; clear n0_ n1_ n2_ n3_ n4_ n5_ n6_ n7_ n8_ n9_; clear hb hbox hg))
  have n0_ := Aside0.mk (blk_drew BK369.out)
  have n1_ := Aside0.mk (blk_drew BK370.out)
  have n2_ := Aside0.mk (blk_drew BK371.out)
  have n3_ := Aside0.mk (below_drew1 HB.out)
  clear BK369 BK370 BK371 HB
  have BK369 := n0_; have BK370 := n1_; have BK371 := n2_; have HB := n3_
  clear n0_ n1_ n2_ n3_
  refine start_ (n := 13) (S := fun w' => w'.cell? ⟨gb369, 0, none⟩ = some (.int .i64 a0_0) ∧ w'.cell? ⟨gb369, 1, none⟩ = some (.int .i64 a0_1) ∧ w'.cell? ⟨gb369, 2, none⟩ = some (.int .i64 a0_2) ∧ w'.cell? ⟨gb369, 3, none⟩ = some (.int .i64 a0_3) ∧ w'.cell? ⟨gb370, 0, none⟩ = some (.int .i64 a1_0) ∧ w'.cell? ⟨gb370, 1, none⟩ = some (.int .i64 a1_1) ∧ w'.cell? ⟨gb370, 2, none⟩ = some (.int .i64 a1_2) ∧ w'.cell? ⟨gb370, 3, none⟩ = some (.int .i64 a1_3)) (ds := []) #[false, false, false, false, false, false, false, false, false, false, false, false, false] (by kernel_rfl) rfl rfl ⟨zc BK369 0, zc BK369 1, zc BK369 2, zc BK369 3, zc BK370 0, zc BK370 1, zc BK370 2, zc BK370 3⟩ (fun hHeld => ?_); refine with_tabW impl_commonPart.tab1 impl_commonPart.bits1 (fun HT_ HW_ => ?_)
  generalize w29.drew = w30 at BK369 BK370 BK371 HB hHeld ⊢
  refine pure_ (i := 0) (N := some 7) (v := ?_) (a' := ?_) #[true, false, false, false, false, false, false, false, false, false, false, false, false] rfl rfl (any_of HT_.out (by kernel_rfl)) (fun _ _ _ h => h) (Or.inl ⟨by rfl, ?_⟩) ?_ ?_
  rotate_left
  ·
   intro w'
   go_simp
   with_reducible rfl
  rotate_left
  ·
   simp only [Act.put, List.setIfInBounds_toArray, List.set_cons_zero, List.set_cons_succ, i64_w, i32_w]
   rfl
  refine pure_ (i := 2) (N := some 9) (v := ?_) (a' := ?_) #[true, false, true, false, false, false, false, false, false, false, false, false, false] rfl rfl (any_of HT_.out (by kernel_rfl)) (fun _ _ _ h => h) (Or.inl ⟨by rfl, ?_⟩) ?_ ?_
  rotate_left
  ·
   intro w'
   go_simp
   with_reducible rfl
  rotate_left
  ·
   simp only [Act.put, List.setIfInBounds_toArray, List.set_cons_zero, List.set_cons_succ, i64_w, i32_w]
   rfl
  refine pure_ (i := 5) (N := some 12) (v := ?_) (a' := ?_) #[true, false, true, false, false, true, false, false, false, false, false, false, false] rfl rfl (any_of HT_.out (by kernel_rfl)) (fun _ _ _ h => h) (Or.inl ⟨by rfl, ?_⟩) ?_ ?_
  rotate_left
  ·
   intro w'
   go_simp
   with_reducible rfl
  rotate_left
  ·
   simp only [Act.put, List.setIfInBounds_toArray, List.set_cons_zero, List.set_cons_succ, i64_w, i32_w]
   rfl
  refine pure_ (i := 7) (N := some 14) (v := ?_) (a' := ?_) #[true, false, true, false, false, true, false, true, false, false, false, false, false] rfl rfl (any_of HT_.out (by kernel_rfl)) (fun _ _ _ h => h) (Or.inl ⟨by rfl, ?_⟩) ?_ ?_
  rotate_left
  ·
   intro w'
   go_simp
   with_reducible rfl
  rotate_left
  ·
   simp only [Act.put, List.setIfInBounds_toArray, List.set_cons_zero, List.set_cons_succ, i64_w, i32_w]
   rfl
  refine take_ (i := 1) (N := some 8) (v := ?_) (a' := ?_) #[true, true, true, false, false, true, false, true, false, false, false, false, false] rfl rfl (take_ofW HT_.out HW_.out (by kernel_rfl)) (fun _ _ _ h => h) (Or.inl ⟨by rfl, ?_⟩) hHeld ?_ ?_
  rotate_left
  ·
   rintro w' ⟨s0, s1, s2, s3, s4, s5, s6, s7⟩
   go_simp
   with_reducible rfl
  rotate_left
  ·
   simp only [Act.put, List.setIfInBounds_toArray, List.set_cons_zero, List.set_cons_succ, i64_w, i32_w]
   rfl
  refine take_ (i := 3) (N := some 10) (v := ?_) (a' := ?_) #[true, true, true, true, false, true, false, true, false, false, false, false, false] rfl rfl (take_ofW HT_.out HW_.out (by kernel_rfl)) (fun _ _ _ h => h) (Or.inl ⟨by rfl, ?_⟩) hHeld ?_ ?_
  rotate_left
  ·
   rintro w' ⟨s0, s1, s2, s3, s4, s5, s6, s7⟩
   go_simp
   with_reducible rfl
  rotate_left
  ·
   simp only [Act.put, List.setIfInBounds_toArray, List.set_cons_zero, List.set_cons_succ, i64_w, i32_w]
   rfl
  refine take_ (i := 6) (N := some 13) (v := ?_) (a' := ?_) #[true, true, true, true, false, true, true, true, false, false, false, false, false] rfl rfl (take_ofW HT_.out HW_.out (by kernel_rfl)) (fun _ _ _ h => h) (Or.inl ⟨by rfl, ?_⟩) hHeld ?_ ?_
  rotate_left
  ·
   rintro w' ⟨s0, s1, s2, s3, s4, s5, s6, s7⟩
   go_simp
   with_reducible rfl
  rotate_left
  ·
   simp only [Act.put, List.setIfInBounds_toArray, List.set_cons_zero, List.set_cons_succ, i64_w, i32_w]
   rfl
  refine take_ (i := 8) (N := some 15) (v := ?_) (a' := ?_) #[true, true, true, true, false, true, true, true, true, false, false, false, false] rfl rfl (take_ofW HT_.out HW_.out (by kernel_rfl)) (fun _ _ _ h => h) (Or.inl ⟨by rfl, ?_⟩) hHeld ?_ ?_
  rotate_left
  ·
   rintro w' ⟨s0, s1, s2, s3, s4, s5, s6, s7⟩
   go_simp
   with_reducible rfl
  rotate_left
  ·
   simp only [Act.put, List.setIfInBounds_toArray, List.set_cons_zero, List.set_cons_succ, i64_w, i32_w]
   rfl
  refine join_ (σ := Nat) 1 #[true, true, true, true, true, true, true, true, true, true, true, true, false] (fun s_ => [(11, .agg #[.int .i64 t372, .int .i64 t373]), (16, .agg #[.int .i64 t374, .int .i64 t375]), (6, .pointer (some ⟨s_, 0, none⟩)), (17, .agg #[.int .i64 t372, .int .i64 t373, .int .i64 t374, .int .i64 t375])]) (fun s_ w' => (w'.cell? ⟨gb369, 0, none⟩ = some (.int .i64 a0_0) ∧ w'.cell? ⟨gb369, 1, none⟩ = some (.int .i64 a0_1) ∧ w'.cell? ⟨gb369, 2, none⟩ = some (.int .i64 a0_2) ∧ w'.cell? ⟨gb369, 3, none⟩ = some (.int .i64 a0_3) ∧ w'.cell? ⟨gb370, 0, none⟩ = some (.int .i64 a1_0) ∧ w'.cell? ⟨gb370, 1, none⟩ = some (.int .i64 a1_1) ∧ w'.cell? ⟨gb370, 2, none⟩ = some (.int .i64 a1_2) ∧ w'.cell? ⟨gb370, 3, none⟩ = some (.int .i64 a1_3)) ∧ (w'.heap[gb369]? = some (.cells #[.int .i64 a0_0, .int .i64 a0_1, .int .i64 a0_2, .int .i64 a0_3] 29 (0, 0))) ∧ (w'.heap[gb370]? = some (.cells #[.int .i64 a1_0, .int .i64 a1_1, .int .i64 a1_2, .int .i64 a1_3] 29 (0, 0))) ∧ (w'.heap[gb371]? = some (.cells #[.int .i64 0, .int .i64 0, .int .i64 0, .int .i64 0] 29 (0, 0))) ∧ (w'.heap[s_]? = some (.cells #[.int .i64 0, .int .i64 0, .int .i64 0, .int .i64 0] 29 (0, 0))) ∧ (w.heap.size ≤ s_) ∧ (w.heap.size ≤ s_) ∧ (gb369 ≠ s_) ∧ (s_ ≠ gb369) ∧ (gb370 ≠ s_) ∧ (s_ ≠ gb370) ∧ (gb371 ≠ s_) ∧ (s_ ≠ gb371) ∧ (Below w.heap.size w w')) ?_ ?_
  rotate_left
  ·
   intro hCont
   refine two_ (i := 4) (j := 11) (Ni := some 11) (Nj := some 6) #[true, true, true, true, true, true, true, true, true, false, false, false, false] #[true, true, true, true, false, true, true, true, true, false, false, true, false] rfl rfl rfl rfl (two_of HT_.out (by kernel_rfl)) (by decide) (by decide) (fun K hK => ?_) (fun K hK => ?_)
   ·
    refine goes_ Try.func52 (by kernel_rfl) rfl #[.agg #[.int .i64 a0_0, .int .i64 a0_1], .agg #[.int .i64 a1_0, .int .i64 a1_1]] (by rfl) rfl rfl (by (try simp only [List.map_toArray, List.map_cons, List.map_nil]); first | done | rfl | (simp only [List.length_drop, List.length_take]; rfl)) ?_
    with_reducible refine (impl_greater.calls k a0_0 a0_1 a1_0 a1_1 t372 t373 _ A3.out).mono ?_
    rintro e w31 ⟨rfl, hb⟩
    refine ⟨_, rfl, ?_⟩
    have n0_ := Aside0.mk (zbb BK369 hb)
    have n1_ := Aside0.mk (zbb BK370 hb)
    have n2_ := Aside0.mk (zbb BK371 hb)
    have n3_ := Aside0.mk (below_step (z54_1 HB) hb)
    clear BK369 BK370 BK371 HB
    have BK369 := n0_; have BK370 := n1_; have BK371 := n2_; have HB := n3_
    clear n0_ n1_ n2_ n3_
    (try clear hb)
    (try clear hb2)
    (try clear hk)
    (try clear hi)
    refine hK.out _ _ ⟨zc BK369 0, zc BK369 1, zc BK369 2, zc BK369 3, zc BK370 0, zc BK370 1, zc BK370 2, zc BK370 3⟩ (fun hHeld => ?_)
    clear hK K
    refine norm_ (a' := ?_) ?_ ?_
    rotate_left
    ·
     show Act.put _ (some 11) _ = _
     simp only [Act.put, List.setIfInBounds_toArray, List.set_cons_zero, List.set_cons_succ, i64_w, i32_w]; rfl
    refine two_ (i := 9) (j := 11) (Ni := some 16) (Nj := some 6) #[true, true, true, true, true, true, true, true, true, true, false, false, false] #[true, true, true, true, true, true, true, true, true, false, false, true, false] rfl rfl rfl rfl (two_of HT_.out (by kernel_rfl)) (by decide) (by decide) (fun K hK => ?_) (fun K hK => ?_)
    ·
     refine goes_ Try.func51 (by kernel_rfl) rfl #[.agg #[.int .i64 a0_2, .int .i64 a0_3], .agg #[.int .i64 a1_2, .int .i64 a1_3]] (by rfl) rfl rfl (by (try simp only [List.map_toArray, List.map_cons, List.map_nil]); first | done | rfl | (simp only [List.length_drop, List.length_take]; rfl)) ?_
     with_reducible refine (impl_lesser.calls k a0_2 a0_3 a1_2 a1_3 t374 t375 _ A4.out).mono ?_
     rintro e w32 ⟨rfl, hb⟩
     refine ⟨_, rfl, ?_⟩
     have n0_ := Aside0.mk (zbb BK369 hb)
     have n1_ := Aside0.mk (zbb BK370 hb)
     have n2_ := Aside0.mk (zbb BK371 hb)
     have n3_ := Aside0.mk (below_step (z54_1 HB) hb)
     clear BK369 BK370 BK371 HB
     have BK369 := n0_; have BK370 := n1_; have BK371 := n2_; have HB := n3_
     clear n0_ n1_ n2_ n3_
     (try clear hb)
     (try clear hb2)
     (try clear hk)
     (try clear hi)
     refine hK.out _ _ ⟨zc BK369 0, zc BK369 1, zc BK369 2, zc BK369 3, zc BK370 0, zc BK370 1, zc BK370 2, zc BK370 3⟩ (fun hHeld => ?_)
     clear hK K
     refine norm_ (a' := ?_) ?_ ?_
     rotate_left
     ·
      show Act.put _ (some 16) _ = _
      simp only [Act.put, List.setIfInBounds_toArray, List.set_cons_zero, List.set_cons_succ, i64_w, i32_w]; rfl
     refine pure_ (i := 10) (N := some 17) (v := ?_) (a' := ?_) #[true, true, true, true, true, true, true, true, true, true, true, false, false] rfl rfl (any_of HT_.out (by kernel_rfl)) (fun _ _ _ h => h) (Or.inl ⟨by rfl, ?_⟩) ?_ ?_
     rotate_left
     ·
      intro w'
      go_simp
      with_reducible rfl
     rotate_left
     ·
      simp only [Act.put, List.setIfInBounds_toArray, List.set_cons_zero, List.set_cons_succ, i64_w, i32_w]
      rfl
     refine one_ (i := 11) (N := some 6) #[true, true, true, true, true, true, true, true, true, true, true, true, false] rfl rfl (one_of HT_.out (by kernel_rfl)) (by decide) (fun K hK => ?_)
     refine box_step ?hg (N := 6) ?hd (cs := #[.int .i64 0, .int .i64 0, .int .i64 0, .int .i64 0]) (t := 29) ?hr ?_; (case hd => rfl); (case hg => rfl); (case hr => first | (go_simp; done) | (go_simp; rfl))
     intro gb376 hg w33 hbox hb
     have n0_ := Aside0.mk (zbb BK369 hb)
     have n1_ := Aside0.mk (zbb BK370 hb)
     have n2_ := Aside0.mk (zbb BK371 hb)
     have n3_ := Aside0.mk (below_step (z54_1 HB) hb)
     have BK376 := Aside0.mk (hbox)
     have GW376 := Aside0.mk ((by rw [hg]; exact (below_size (z54_1 HB)) : w.heap.size ≤ gb376))
     have GE376 := Aside0.mk ((by rw [hg]; exact (below_size (z54_1 HB)) : w.heap.size ≤ gb376))
     have NB369_376 := Aside0.mk (zlt BK369 hg)
     have NB376_369 := Aside0.mk (zgt BK369 hg)
     have NB370_376 := Aside0.mk (zlt BK370 hg)
     have NB376_370 := Aside0.mk (zgt BK370 hg)
     have NB371_376 := Aside0.mk (zlt BK371 hg)
     have NB376_371 := Aside0.mk (zgt BK371 hg)
     clear BK369 BK370 BK371 HB
     have BK369 := n0_; have BK370 := n1_; have BK371 := n2_; have HB := n3_
     clear n0_ n1_ n2_ n3_ hb hbox hg
     refine hK.out _ _ ⟨zc BK369 0, zc BK369 1, zc BK369 2, zc BK369 3, zc BK370 0, zc BK370 1, zc BK370 2, zc BK370 3⟩ (fun hHeld => ?_)
     clear hK K
     refine norm_ (a' := ?_) ?_ ?_
     rotate_left
     ·
      show Act.put _ (some 6) _ = _
      simp only [Act.put, List.setIfInBounds_toArray, List.set_cons_zero, List.set_cons_succ, i64_w, i32_w]; rfl
     exact norm_ (by simp only [putAll, Act.put, List.setIfInBounds_toArray, List.set_cons_zero, List.set_cons_succ]) (hCont (gb376) _ ⟨hHeld, (zq1 BK369), (zq1 BK370), (zq1 BK371), (zq1 BK376), GW376.out, GE376.out, NB369_376.out, NB376_369.out, NB370_376.out, NB376_370.out, NB371_376.out, NB376_371.out, (z54_1 HB)⟩)
    ·
     refine box_step ?hg (N := 6) ?hd (cs := #[.int .i64 0, .int .i64 0, .int .i64 0, .int .i64 0]) (t := 29) ?hr ?_; (case hd => rfl); (case hg => rfl); (case hr => first | (go_simp; done) | (go_simp; rfl))
     intro gb376 hg w32 hbox hb
     have n0_ := Aside0.mk (zbb BK369 hb)
     have n1_ := Aside0.mk (zbb BK370 hb)
     have n2_ := Aside0.mk (zbb BK371 hb)
     have n3_ := Aside0.mk (below_step (z54_1 HB) hb)
     have BK376 := Aside0.mk (hbox)
     have GW376 := Aside0.mk ((by rw [hg]; exact (below_size (z54_1 HB)) : w.heap.size ≤ gb376))
     have GE376 := Aside0.mk ((by rw [hg]; exact (below_size (z54_1 HB)) : w.heap.size ≤ gb376))
     have NB369_376 := Aside0.mk (zlt BK369 hg)
     have NB376_369 := Aside0.mk (zgt BK369 hg)
     have NB370_376 := Aside0.mk (zlt BK370 hg)
     have NB376_370 := Aside0.mk (zgt BK370 hg)
     have NB371_376 := Aside0.mk (zlt BK371 hg)
     have NB376_371 := Aside0.mk (zgt BK371 hg)
     clear BK369 BK370 BK371 HB
     have BK369 := n0_; have BK370 := n1_; have BK371 := n2_; have HB := n3_
     clear n0_ n1_ n2_ n3_ hb hbox hg
     refine hK.out _ _ ⟨zc BK369 0, zc BK369 1, zc BK369 2, zc BK369 3, zc BK370 0, zc BK370 1, zc BK370 2, zc BK370 3⟩ (fun hHeld => ?_)
     clear hK K
     refine norm_ (a' := ?_) ?_ ?_
     rotate_left
     ·
      show Act.put _ (some 6) _ = _
      simp only [Act.put, List.setIfInBounds_toArray, List.set_cons_zero, List.set_cons_succ, i64_w, i32_w]; rfl
     refine one_ (i := 9) (N := some 16) #[true, true, true, true, true, true, true, true, true, true, false, true, false] rfl rfl (one_of HT_.out (by kernel_rfl)) (by decide) (fun K hK => ?_)
     refine goes_ Try.func51 (by kernel_rfl) rfl #[.agg #[.int .i64 a0_2, .int .i64 a0_3], .agg #[.int .i64 a1_2, .int .i64 a1_3]] (by rfl) rfl rfl (by (try simp only [List.map_toArray, List.map_cons, List.map_nil]); first | done | rfl | (simp only [List.length_drop, List.length_take]; rfl)) ?_
     with_reducible refine (impl_lesser.calls k a0_2 a0_3 a1_2 a1_3 t374 t375 _ A4.out).mono ?_
     rintro e w33 ⟨rfl, hb⟩
     refine ⟨_, rfl, ?_⟩
     have n0_ := Aside0.mk (zbb BK369 hb)
     have n1_ := Aside0.mk (zbb BK370 hb)
     have n2_ := Aside0.mk (zbb BK371 hb)
     have n3_ := Aside0.mk (zbb BK376 hb)
     have n4_ := Aside0.mk (below_step (z54_1 HB) hb)
     clear BK369 BK370 BK371 BK376 HB
     have BK369 := n0_; have BK370 := n1_; have BK371 := n2_; have BK376 := n3_; have HB := n4_
     clear n0_ n1_ n2_ n3_ n4_
     (try clear hb)
     (try clear hb2)
     (try clear hk)
     (try clear hi)
     refine hK.out _ _ ⟨zc BK369 0, zc BK369 1, zc BK369 2, zc BK369 3, zc BK370 0, zc BK370 1, zc BK370 2, zc BK370 3⟩ (fun hHeld => ?_)
     clear hK K
     refine norm_ (a' := ?_) ?_ ?_
     rotate_left
     ·
      show Act.put _ (some 16) _ = _
      simp only [Act.put, List.setIfInBounds_toArray, List.set_cons_zero, List.set_cons_succ, i64_w, i32_w]; rfl
     refine pure_ (i := 10) (N := some 17) (v := ?_) (a' := ?_) #[true, true, true, true, true, true, true, true, true, true, true, true, false] rfl rfl (any_of HT_.out (by kernel_rfl)) (fun _ _ _ h => h) (Or.inl ⟨by rfl, ?_⟩) ?_ ?_
     rotate_left
     ·
      intro w'
      go_simp
      with_reducible rfl
     rotate_left
     ·
      simp only [Act.put, List.setIfInBounds_toArray, List.set_cons_zero, List.set_cons_succ, i64_w, i32_w]
      rfl
     exact norm_ (by simp only [putAll, Act.put, List.setIfInBounds_toArray, List.set_cons_zero, List.set_cons_succ]) (hCont (gb376) _ ⟨hHeld, (zq1 BK369), (zq1 BK370), (zq1 BK371), (zq1 BK376), GW376.out, GE376.out, NB369_376.out, NB376_369.out, NB370_376.out, NB376_370.out, NB371_376.out, NB376_371.out, (z54_1 HB)⟩)
   ·
    refine box_step ?hg (N := 6) ?hd (cs := #[.int .i64 0, .int .i64 0, .int .i64 0, .int .i64 0]) (t := 29) ?hr ?_; (case hd => rfl); (case hg => rfl); (case hr => first | (go_simp; done) | (go_simp; rfl))
    intro gb376 hg w31 hbox hb
    have n0_ := Aside0.mk (zbb BK369 hb)
    have n1_ := Aside0.mk (zbb BK370 hb)
    have n2_ := Aside0.mk (zbb BK371 hb)
    have n3_ := Aside0.mk (below_step (z54_1 HB) hb)
    have BK376 := Aside0.mk (hbox)
    have GW376 := Aside0.mk ((by rw [hg]; exact (below_size (z54_1 HB)) : w.heap.size ≤ gb376))
    have GE376 := Aside0.mk ((by rw [hg]; exact (below_size (z54_1 HB)) : w.heap.size ≤ gb376))
    have NB369_376 := Aside0.mk (zlt BK369 hg)
    have NB376_369 := Aside0.mk (zgt BK369 hg)
    have NB370_376 := Aside0.mk (zlt BK370 hg)
    have NB376_370 := Aside0.mk (zgt BK370 hg)
    have NB371_376 := Aside0.mk (zlt BK371 hg)
    have NB376_371 := Aside0.mk (zgt BK371 hg)
    clear BK369 BK370 BK371 HB
    have BK369 := n0_; have BK370 := n1_; have BK371 := n2_; have HB := n3_
    clear n0_ n1_ n2_ n3_ hb hbox hg
    refine hK.out _ _ ⟨zc BK369 0, zc BK369 1, zc BK369 2, zc BK369 3, zc BK370 0, zc BK370 1, zc BK370 2, zc BK370 3⟩ (fun hHeld => ?_)
    clear hK K
    refine norm_ (a' := ?_) ?_ ?_
    rotate_left
    ·
     show Act.put _ (some 6) _ = _
     simp only [Act.put, List.setIfInBounds_toArray, List.set_cons_zero, List.set_cons_succ, i64_w, i32_w]; rfl
    refine one_ (i := 4) (N := some 11) #[true, true, true, true, true, true, true, true, true, false, false, true, false] rfl rfl (one_of HT_.out (by kernel_rfl)) (by decide) (fun K hK => ?_)
    refine goes_ Try.func52 (by kernel_rfl) rfl #[.agg #[.int .i64 a0_0, .int .i64 a0_1], .agg #[.int .i64 a1_0, .int .i64 a1_1]] (by rfl) rfl rfl (by (try simp only [List.map_toArray, List.map_cons, List.map_nil]); first | done | rfl | (simp only [List.length_drop, List.length_take]; rfl)) ?_
    with_reducible refine (impl_greater.calls k a0_0 a0_1 a1_0 a1_1 t372 t373 _ A3.out).mono ?_
    rintro e w32 ⟨rfl, hb⟩
    refine ⟨_, rfl, ?_⟩
    have n0_ := Aside0.mk (zbb BK369 hb)
    have n1_ := Aside0.mk (zbb BK370 hb)
    have n2_ := Aside0.mk (zbb BK371 hb)
    have n3_ := Aside0.mk (zbb BK376 hb)
    have n4_ := Aside0.mk (below_step (z54_1 HB) hb)
    clear BK369 BK370 BK371 BK376 HB
    have BK369 := n0_; have BK370 := n1_; have BK371 := n2_; have BK376 := n3_; have HB := n4_
    clear n0_ n1_ n2_ n3_ n4_
    (try clear hb)
    (try clear hb2)
    (try clear hk)
    (try clear hi)
    refine hK.out _ _ ⟨zc BK369 0, zc BK369 1, zc BK369 2, zc BK369 3, zc BK370 0, zc BK370 1, zc BK370 2, zc BK370 3⟩ (fun hHeld => ?_)
    clear hK K
    refine norm_ (a' := ?_) ?_ ?_
    rotate_left
    ·
     show Act.put _ (some 11) _ = _
     simp only [Act.put, List.setIfInBounds_toArray, List.set_cons_zero, List.set_cons_succ, i64_w, i32_w]; rfl
    refine one_ (i := 9) (N := some 16) #[true, true, true, true, true, true, true, true, true, true, false, true, false] rfl rfl (one_of HT_.out (by kernel_rfl)) (by decide) (fun K hK => ?_)
    refine goes_ Try.func51 (by kernel_rfl) rfl #[.agg #[.int .i64 a0_2, .int .i64 a0_3], .agg #[.int .i64 a1_2, .int .i64 a1_3]] (by rfl) rfl rfl (by (try simp only [List.map_toArray, List.map_cons, List.map_nil]); first | done | rfl | (simp only [List.length_drop, List.length_take]; rfl)) ?_
    with_reducible refine (impl_lesser.calls k a0_2 a0_3 a1_2 a1_3 t374 t375 _ A4.out).mono ?_
    rintro e w33 ⟨rfl, hb⟩
    refine ⟨_, rfl, ?_⟩
    have n0_ := Aside0.mk (zbb BK369 hb)
    have n1_ := Aside0.mk (zbb BK370 hb)
    have n2_ := Aside0.mk (zbb BK371 hb)
    have n3_ := Aside0.mk (zbb BK376 hb)
    have n4_ := Aside0.mk (below_step (z54_1 HB) hb)
    clear BK369 BK370 BK371 BK376 HB
    have BK369 := n0_; have BK370 := n1_; have BK371 := n2_; have BK376 := n3_; have HB := n4_
    clear n0_ n1_ n2_ n3_ n4_
    (try clear hb)
    (try clear hb2)
    (try clear hk)
    (try clear hi)
    refine hK.out _ _ ⟨zc BK369 0, zc BK369 1, zc BK369 2, zc BK369 3, zc BK370 0, zc BK370 1, zc BK370 2, zc BK370 3⟩ (fun hHeld => ?_)
    clear hK K
    refine norm_ (a' := ?_) ?_ ?_
    rotate_left
    ·
     show Act.put _ (some 16) _ = _
     simp only [Act.put, List.setIfInBounds_toArray, List.set_cons_zero, List.set_cons_succ, i64_w, i32_w]; rfl
    refine pure_ (i := 10) (N := some 17) (v := ?_) (a' := ?_) #[true, true, true, true, true, true, true, true, true, true, true, true, false] rfl rfl (any_of HT_.out (by kernel_rfl)) (fun _ _ _ h => h) (Or.inl ⟨by rfl, ?_⟩) ?_ ?_
    rotate_left
    ·
     intro w'
     go_simp
     with_reducible rfl
    rotate_left
    ·
     simp only [Act.put, List.setIfInBounds_toArray, List.set_cons_zero, List.set_cons_succ, i64_w, i32_w]
     rfl
    exact norm_ (by simp only [putAll, Act.put, List.setIfInBounds_toArray, List.set_cons_zero, List.set_cons_succ]) (hCont (gb376) _ ⟨hHeld, (zq1 BK369), (zq1 BK370), (zq1 BK371), (zq1 BK376), GW376.out, GE376.out, NB369_376.out, NB376_369.out, NB370_376.out, NB376_370.out, NB371_376.out, NB376_371.out, (z54_1 HB)⟩)
  rintro gb376 w34 ⟨hS_, h0_, h1_, h2_, h3_, h4_, h5_, h6_, h7_, h8_, h9_, h10_, h11_, h12_⟩
  have n0_ : Aside0 (w34.heap[gb369]? = some (.cells #[.int .i64 a0_0, .int .i64 a0_1, .int .i64 a0_2, .int .i64 a0_3] 29 (0, 0))) := ⟨h0_⟩
  have n1_ : Aside0 (w34.heap[gb370]? = some (.cells #[.int .i64 a1_0, .int .i64 a1_1, .int .i64 a1_2, .int .i64 a1_3] 29 (0, 0))) := ⟨h1_⟩
  have n2_ : Aside0 (w34.heap[gb371]? = some (.cells #[.int .i64 0, .int .i64 0, .int .i64 0, .int .i64 0] 29 (0, 0))) := ⟨h2_⟩
  have BK376 : Aside0 (w34.heap[gb376]? = some (.cells #[.int .i64 0, .int .i64 0, .int .i64 0, .int .i64 0] 29 (0, 0))) := ⟨h3_⟩
  have GW376 : Aside0 (w.heap.size ≤ gb376) := ⟨h4_⟩
  have GE376 : Aside0 (w.heap.size ≤ gb376) := ⟨h5_⟩
  have NB369_376 : Aside0 (gb369 ≠ gb376) := ⟨h6_⟩
  have NB376_369 : Aside0 (gb376 ≠ gb369) := ⟨h7_⟩
  have NB370_376 : Aside0 (gb370 ≠ gb376) := ⟨h8_⟩
  have NB376_370 : Aside0 (gb376 ≠ gb370) := ⟨h9_⟩
  have NB371_376 : Aside0 (gb371 ≠ gb376) := ⟨h10_⟩
  have NB376_371 : Aside0 (gb376 ≠ gb371) := ⟨h11_⟩
  have n12_ : Aside0 (Below w.heap.size w w34) := ⟨h12_⟩
  clear BK369 BK370 BK371 HB h0_ h1_ h2_ h3_ h4_ h5_ h6_ h7_ h8_ h9_ h10_ h11_ h12_
  have BK369 := n0_; have BK370 := n1_; have BK371 := n2_; have HB := n12_
  clear n0_ n1_ n2_ n12_
  have hHeld : w34.cell? ⟨gb369, 0, none⟩ = some (.int .i64 a0_0) ∧ w34.cell? ⟨gb369, 1, none⟩ = some (.int .i64 a0_1) ∧ w34.cell? ⟨gb369, 2, none⟩ = some (.int .i64 a0_2) ∧ w34.cell? ⟨gb369, 3, none⟩ = some (.int .i64 a0_3) ∧ w34.cell? ⟨gb370, 0, none⟩ = some (.int .i64 a1_0) ∧ w34.cell? ⟨gb370, 1, none⟩ = some (.int .i64 a1_1) ∧ w34.cell? ⟨gb370, 2, none⟩ = some (.int .i64 a1_2) ∧ w34.cell? ⟨gb370, 3, none⟩ = some (.int .i64 a1_3) := hS_
  refine norm_ (a' := ?_) ?_ ?_
  rotate_left
  ·
   simp only [putAll, Act.put, List.setIfInBounds_toArray, List.set_cons_zero, List.set_cons_succ]
   rfl
  refine one_ (i := 12) (N := none) #[true, true, true, true, true, true, true, true, true, true, true, true, true] rfl rfl (one_of HT_.out (by kernel_rfl)) (by decide) (fun K hK => ?_)
  have hs35 : w34.cell? ⟨gb376, 0, none⟩ = some (.int .i64 0) := zc BK376 0
  have hfs35 := blk_frozen BK376.out 0
  have hns35_0 := NB369_376.out
  have hns35_1 := NB370_376.out
  have hns35_2 := NB371_376.out
  have hms35_0 := NB376_369.out
  have hms35_1 := NB376_370.out
  have hms35_2 := NB376_371.out
  have hs36 : w34.cell? ⟨gb376, 1, none⟩ = some (.int .i64 0) := zc BK376 1
  have hfs36 := blk_frozen BK376.out 1
  have hns36_0 := NB369_376.out
  have hns36_1 := NB370_376.out
  have hns36_2 := NB371_376.out
  have hms36_0 := NB376_369.out
  have hms36_1 := NB376_370.out
  have hms36_2 := NB376_371.out
  have hs37 : w34.cell? ⟨gb376, 2, none⟩ = some (.int .i64 0) := zc BK376 2
  have hfs37 := blk_frozen BK376.out 2
  have hns37_0 := NB369_376.out
  have hns37_1 := NB370_376.out
  have hns37_2 := NB371_376.out
  have hms37_0 := NB376_369.out
  have hms37_1 := NB376_370.out
  have hms37_2 := NB376_371.out
  have hs38 : w34.cell? ⟨gb376, 3, none⟩ = some (.int .i64 0) := zc BK376 3
  have hfs38 := blk_frozen BK376.out 3
  have hns38_0 := NB369_376.out
  have hns38_1 := NB370_376.out
  have hns38_2 := NB371_376.out
  have hms38_0 := NB376_369.out
  have hms38_1 := NB376_370.out
  have hms38_2 := NB376_371.out
  refine skip_ (w1 := ?_) (by rfl) rfl ?_ ?_
  rotate_left
  ·
   go_simp
   rfl
  refine hK.out _ _ ⟨((cell_far (p := ⟨gb376, _, none⟩) NB369_376.out _).trans (((cell_far (p := ⟨gb376, _, none⟩) NB369_376.out _).trans (((cell_far (p := ⟨gb376, _, none⟩) NB369_376.out _).trans (((cell_far (p := ⟨gb376, _, none⟩) NB369_376.out _).trans (hHeld.1)))))))), ((cell_far (p := ⟨gb376, _, none⟩) NB369_376.out _).trans (((cell_far (p := ⟨gb376, _, none⟩) NB369_376.out _).trans (((cell_far (p := ⟨gb376, _, none⟩) NB369_376.out _).trans (((cell_far (p := ⟨gb376, _, none⟩) NB369_376.out _).trans (hHeld.2.1)))))))), ((cell_far (p := ⟨gb376, _, none⟩) NB369_376.out _).trans (((cell_far (p := ⟨gb376, _, none⟩) NB369_376.out _).trans (((cell_far (p := ⟨gb376, _, none⟩) NB369_376.out _).trans (((cell_far (p := ⟨gb376, _, none⟩) NB369_376.out _).trans (hHeld.2.2.1)))))))), ((cell_far (p := ⟨gb376, _, none⟩) NB369_376.out _).trans (((cell_far (p := ⟨gb376, _, none⟩) NB369_376.out _).trans (((cell_far (p := ⟨gb376, _, none⟩) NB369_376.out _).trans (((cell_far (p := ⟨gb376, _, none⟩) NB369_376.out _).trans (hHeld.2.2.2.1)))))))), ((cell_far (p := ⟨gb376, _, none⟩) NB370_376.out _).trans (((cell_far (p := ⟨gb376, _, none⟩) NB370_376.out _).trans (((cell_far (p := ⟨gb376, _, none⟩) NB370_376.out _).trans (((cell_far (p := ⟨gb376, _, none⟩) NB370_376.out _).trans (hHeld.2.2.2.2.1)))))))), ((cell_far (p := ⟨gb376, _, none⟩) NB370_376.out _).trans (((cell_far (p := ⟨gb376, _, none⟩) NB370_376.out _).trans (((cell_far (p := ⟨gb376, _, none⟩) NB370_376.out _).trans (((cell_far (p := ⟨gb376, _, none⟩) NB370_376.out _).trans (hHeld.2.2.2.2.2.1)))))))), ((cell_far (p := ⟨gb376, _, none⟩) NB370_376.out _).trans (((cell_far (p := ⟨gb376, _, none⟩) NB370_376.out _).trans (((cell_far (p := ⟨gb376, _, none⟩) NB370_376.out _).trans (((cell_far (p := ⟨gb376, _, none⟩) NB370_376.out _).trans (hHeld.2.2.2.2.2.2.1)))))))), ((cell_far (p := ⟨gb376, _, none⟩) NB370_376.out _).trans (((cell_far (p := ⟨gb376, _, none⟩) NB370_376.out _).trans (((cell_far (p := ⟨gb376, _, none⟩) NB370_376.out _).trans (((cell_far (p := ⟨gb376, _, none⟩) NB370_376.out _).trans (hHeld.2.2.2.2.2.2.2))))))))⟩ (fun hHeld => ?_)
  clear hK K
  refine done_ (done_of HT_.out (by kernel_rfl)) ?_
  have hnb39 := NB376_369.out
  have hnc39 := NB369_376.out
  have hnb40 := NB376_370.out
  have hnc40 := NB370_376.out
  have hnb41 := NB376_371.out
  have hnc41 := NB371_376.out
  have hcz42_0 : w34.cell? ⟨gb376, 0, none⟩ = some (.int .i64 0) := zc BK376 0
  have hcz42_1 : w34.cell? ⟨gb376, 1, none⟩ = some (.int .i64 0) := zc BK376 1
  have hcz42_2 : w34.cell? ⟨gb376, 2, none⟩ = some (.int .i64 0) := zc BK376 2
  have hcz42_3 : w34.cell? ⟨gb376, 3, none⟩ = some (.int .i64 0) := zc BK376 3
  have hfz42_0 := blk_frozen BK376.out 0
  have hfz42_1 := blk_frozen BK376.out 1
  have hfz42_2 := blk_frozen BK376.out 2
  have hfz42_3 := blk_frozen BK376.out 3
  try go_wp2_with (first | ((with_reducible refine gate_callee (f := 47) rfl ?_); refine goesL_ (some 22) rfl rfl Try.func47 (by kernel_rfl) rfl #[.agg #[.int .i64 t372, .int .i64 t373], .agg #[.int .i64 t374, .int .i64 t375]] rfl (by (try simp only [List.map_toArray, List.map_cons, List.map_nil]); first | done | rfl | (simp only [List.length_drop, List.length_take]; rfl)) ?_; (with_reducible refine (impl_compareD.calls k t372 t373 t374 t375 t377 _ A5.out).mono ?_); rintro e w43 ⟨rfl, hb⟩; refine ⟨_, rfl, ?_⟩; have n0_ := Aside0.mk (blk_below (g := gb369) (o := .cells #[.int .i64 a0_0, .int .i64 a0_1, .int .i64 a0_2, .int .i64 a0_3] 29 (0, 0)) (zq5 BK369) hb); have n1_ := Aside0.mk (blk_below (g := gb370) (o := .cells #[.int .i64 a1_0, .int .i64 a1_1, .int .i64 a1_2, .int .i64 a1_3] 29 (0, 0)) (zq5 BK370) hb); have n2_ := Aside0.mk (blk_below (g := gb371) (o := .cells #[.int .i64 0, .int .i64 0, .int .i64 0, .int .i64 0] 29 (0, 0)) (zq5 BK371) hb); have n3_ := Aside0.mk (blk_below (g := gb376) (o := .cells #[.int .i64 t372, .int .i64 t373, .int .i64 t374, .int .i64 t375] 29 (0, 0)) (by (with_reducible repeat (first | refine blk_drewN ?_ _ | refine blk_drew ?_ | refine blk_alloc ?_ _)); refine blk_put (cs := #[.int .i64 t372, .int .i64 t373, .int .i64 t374, .int .i64 0]) ?_ 3 _ rfl; (with_reducible repeat (first | refine blk_drewN ?_ _ | refine blk_drew ?_ | refine blk_alloc ?_ _)); refine blk_put (cs := #[.int .i64 t372, .int .i64 t373, .int .i64 0, .int .i64 0]) ?_ 2 _ rfl; (with_reducible repeat (first | refine blk_drewN ?_ _ | refine blk_drew ?_ | refine blk_alloc ?_ _)); refine blk_put (cs := #[.int .i64 t372, .int .i64 0, .int .i64 0, .int .i64 0]) ?_ 1 _ rfl; (with_reducible repeat (first | refine blk_drewN ?_ _ | refine blk_drew ?_ | refine blk_alloc ?_ _)); refine blk_put (cs := #[.int .i64 0, .int .i64 0, .int .i64 0, .int .i64 0]) ?_ 0 _ rfl; (with_reducible repeat (first | refine blk_drewN ?_ _ | refine blk_drew ?_ | refine blk_alloc ?_ _)); exact BK376.out) hb); have n4_ := Aside0.mk (below_step (z54_1 HB) hb); clear BK369; clear BK370; clear BK371; clear BK376; clear HB; have BK369 := n0_; have BK370 := n1_; have BK371 := n2_; have BK376 := n3_; have HB := n4_; clear n0_ n1_ n2_ n3_ n4_; (try clear hb); (try clear hb2); (try clear hk); (try clear hi); have hcz44_0 : w43.cell? ⟨gb376, 0, none⟩ = some (.int .i64 t372) := zc BK376 0; have hcz44_1 : w43.cell? ⟨gb376, 1, none⟩ = some (.int .i64 t373) := zc BK376 1; have hcz44_2 : w43.cell? ⟨gb376, 2, none⟩ = some (.int .i64 t374) := zc BK376 2; have hcz44_3 : w43.cell? ⟨gb376, 3, none⟩ = some (.int .i64 t375) := zc BK376 3; have hfz44_0 := blk_frozen BK376.out 0; have hfz44_1 := blk_frozen BK376.out 1; have hfz44_2 := blk_frozen BK376.out 2; have hfz44_3 := blk_frozen BK376.out 3; have hnb45 := NB371_369.out; have hnc45 := NB369_371.out; have hnb46 := NB371_370.out; have hnc46 := NB370_371.out; have hcz47_0 : w43.cell? ⟨gb371, 0, none⟩ = some (.int .i64 0) := zc BK371 0; have hcz47_1 : w43.cell? ⟨gb371, 1, none⟩ = some (.int .i64 0) := zc BK371 1; have hcz47_2 : w43.cell? ⟨gb371, 2, none⟩ = some (.int .i64 0) := zc BK371 2; have hcz47_3 : w43.cell? ⟨gb371, 3, none⟩ = some (.int .i64 0) := zc BK371 3; have hfz47_0 := blk_frozen BK371.out 0; have hfz47_1 := blk_frozen BK371.out 1; have hfz47_2 := blk_frozen BK371.out 2; have hfz47_3 := blk_frozen BK371.out 3))
  refine bodyPost_ret (results_ct rfl _ _ gb371 29 #[.int .i64 t372, .int .i64 t373, .int .i64 t374, .int .i64 t375] (0, 0) _ rfl (by (with_reducible repeat (first | refine blk_drewN ?_ _ | refine blk_drew ?_ | refine blk_alloc ?_ _)); refine blk_put (cs := #[.int .i64 t372, .int .i64 t373, .int .i64 t374, .int .i64 0]) ?_ 3 _ rfl; (with_reducible repeat (first | refine blk_drewN ?_ _ | refine blk_drew ?_ | refine blk_alloc ?_ _)); refine blk_put (cs := #[.int .i64 t372, .int .i64 t373, .int .i64 0, .int .i64 0]) ?_ 2 _ rfl; (with_reducible repeat (first | refine blk_drewN ?_ _ | refine blk_drew ?_ | refine blk_alloc ?_ _)); refine blk_put (cs := #[.int .i64 t372, .int .i64 0, .int .i64 0, .int .i64 0]) ?_ 1 _ rfl; (with_reducible repeat (first | refine blk_drewN ?_ _ | refine blk_drew ?_ | refine blk_alloc ?_ _)); refine blk_put (cs := #[.int .i64 0, .int .i64 0, .int .i64 0, .int .i64 0]) ?_ 0 _ rfl; (with_reducible repeat (first | refine blk_drewN ?_ _ | refine blk_drew ?_ | refine blk_alloc ?_ _)); exact BK371.out) Try.underlying29 rfl (by kernel_rfl)) rfl ?_
  exact ⟨by first | rfl | (simp [errW_none, errW_some] <;> rfl) | (simp [*, errW_none, errW_some] <;> rfl), (z54_1 HB)⟩
end Go.Proofs.Ytinpcalgdiigiaa.PD
