-- Written by a program of this session (wip/mk/drv.py) out of the seat's translation; Lean checks it.
import Derived.Test.YtinpcalgdiigiaaQHullOfPDx0
import Derived.Test.YtinpcalgdiigiaaQHullOfPDx1
import Derived.Test.YtinpcalgdiigiaaQHullOfPDx2
import Derived.Test.YtinpcalgdiigiaaQHullOfPDx26
import Derived.Test.YtinpcalgdiigiaaQHullOfPDx29
import Derived.Test.YtinpcalgdiigiaaQHullOfPDx30
namespace Go.Proofs.Ytinpcalgdiigiaa.PD
open Go.RowKit Go.Proofs.YtinpcalgdiigiaaW.PrintWords Go.Proofs.YtinpcalgdiigiaaW.PrintLast Go.Proofs.YtinpcalgdiigiaaW.PrintMore
attribute [local go_sem] max2_int min2_int max_two min_two max_three min_three max_four min_four   -- for this text's walks alone
set_option linter.unusedVariables false
set_option linter.unusedSimpArgs false
/-! ### laws_FnExactHullOf: function 6 -/
theorem z6_0 {w W0 W1 : World} {B : Nat} (h : Aside0 (Below B w W0)) (f : Below B w W0 → Below B w W1 := by intro h_; repeat (first | (with_reducible first | exact h_ | apply below_alloc | apply pw_below_drewN | apply below_drew1) | exact h_)) : Below B w W1 := f h.out
theorem z6_1 {w W0 W1 : World} {B : Nat} (h : Aside0 (Below B w W0)) (f : Below B w W0 → Below B w W1 := by intro h_; repeat (first | (with_reducible first | exact h_ | apply below_alloc | apply pw_below_drewN | apply below_drew1 | refine below_set ?_ (Aside0.out (by assumption))) | exact h_)) : Below B w W1 := f h.out
def laws_FnExactHullOf.T1 : Bool × List (List Nat × List Nat) := (true, [([], []), ([0], [0]), ([], []), ([2, 1], [2]), ([1, 3, 3], [1, 3]), ([4], [4]), ([5], [5]), ([5], [5]), ([], []), ([8, 6, 4, 0, 1, 2, 3, 4, 5, 6, 8], [6, 8]), ([7, 9, 0, 1, 2, 3, 4, 5, 6, 7, 8, 9], [7])])
def laws_FnExactHullOf.B1 : List Nat := [0, 1, 0, 7, 15, 31, 63, 63, 0, 383, 1023]
theorem laws_FnExactHullOf.tab1 : rtab .any (opsOf Try.f6 1) = laws_FnExactHullOf.T1 := by kernel_rfl
theorem laws_FnExactHullOf.bits1 : waitsOk laws_FnExactHullOf.T1.2 laws_FnExactHullOf.B1 = true := by kernel_rfl
def laws_FnExactHullOf.T2 : Bool × List (List Nat × List Nat) := (true, [([], []), ([0], [0]), ([], []), ([2, 1], [2]), ([1, 3, 3], [1, 3]), ([4], [4]), ([5], [5]), ([5], [5]), ([], []), ([8, 6, 4, 0, 1, 2, 3, 4, 5, 6, 8], [6, 8]), ([7, 9, 0, 1, 2, 3, 4, 5, 6, 7, 8, 9], [7])])
def laws_FnExactHullOf.B2 : List Nat := [0, 1, 0, 7, 15, 31, 63, 63, 0, 383, 1023]
theorem laws_FnExactHullOf.tab2 : rtab .any (opsOf Try.f6 2) = laws_FnExactHullOf.T2 := by kernel_rfl
theorem laws_FnExactHullOf.bits2 : waitsOk laws_FnExactHullOf.T2.2 laws_FnExactHullOf.B2 = true := by kernel_rfl
set_option maxHeartbeats 8000000 in
set_option maxRecDepth 100000 in
theorem laws_FnExactHullOf.calls (k : Nat) (a0_0 : Int) (a0_1 : Int) (a0_2 : Int) (a0_3 : Int) (a1_0 : Int) (a1_1 : Int) (a1_2 : Int) (a1_3 : Int) (r : Bool) (w : World) (h : laws_FnExactHullOf.f k a0_0 a0_1 a0_2 a0_3 a1_0 a1_1 a1_2 a1_3 = some r) :
  Calls Try.prog 6 #[.agg #[.int .i64 a0_0, .int .i64 a0_1, .int .i64 a0_2, .int .i64 a0_3], .agg #[.int .i64 a1_0, .int .i64 a1_1, .int .i64 a1_2, .int .i64 a1_3]] w fun e w' => e = .returned (.bool r) ∧ Below w.heap.size w w' := by
 have hu25 := Try.underlying25
 have hu29 := Try.underlying29
 have HB := Aside0.mk (Below.refl w.heap.size w)
 have H : ((laws_toInterval.f a0_0 a0_1 a0_2 a0_3).bind fun bt312 => ((laws_toInterval.f a1_0 a1_1 a1_2 a1_3).bind fun bt316 => ((spec_HullOf.f k bt312.1 bt312.2.1 bt312.2.2.1 bt312.2.2.2 bt316.1 bt316.2.1 bt316.2.2.1 bt316.2.2.2).bind fun bt320 => ((laws_toInterval.f a0_0 a0_1 a0_2 a0_3).bind fun bt326 => ((laws_toInterval.f a1_0 a1_1 a1_2 a1_3).bind fun bt330 => ((impl_HullOf.f k bt326.1 bt326.2.1 bt326.2.2.1 bt326.2.2.2 bt330.1 bt330.2.1 bt330.2.2.1 bt330.2.2.2).bind fun bt334 => ((laws_eqInterval.f bt334.1 bt334.2.1 bt334.2.2.1 bt334.2.2.2.1 bt320.1 bt320.2.1 bt320.2.2.1 bt320.2.2.2.1).bind fun t340 => (if t340 = true then (if (bt334.2.2.2.2 != bt320.2.2.2.2) = true then (none) else (some true)) else (none))))))))) = some r := h
 clear h
 replace H := Option.bind_eq_some_iff.mp H
 obtain ⟨⟨t312, t313, t314, t315⟩, A30, H⟩ := H
 replace H : ((laws_toInterval.f a1_0 a1_1 a1_2 a1_3).bind fun bt316 => ((spec_HullOf.f k t312 t313 t314 t315 bt316.1 bt316.2.1 bt316.2.2.1 bt316.2.2.2).bind fun bt320 => ((laws_toInterval.f a0_0 a0_1 a0_2 a0_3).bind fun bt326 => ((laws_toInterval.f a1_0 a1_1 a1_2 a1_3).bind fun bt330 => ((impl_HullOf.f k bt326.1 bt326.2.1 bt326.2.2.1 bt326.2.2.2 bt330.1 bt330.2.1 bt330.2.2.1 bt330.2.2.2).bind fun bt334 => ((laws_eqInterval.f bt334.1 bt334.2.1 bt334.2.2.1 bt334.2.2.2.1 bt320.1 bt320.2.1 bt320.2.2.1 bt320.2.2.2.1).bind fun t340 => (if t340 = true then (if (bt334.2.2.2.2 != bt320.2.2.2.2) = true then (none) else (some true)) else (none)))))))) = some r := H
 have A3 := Aside0.mk A30
 clear A30
 replace H := Option.bind_eq_some_iff.mp H
 obtain ⟨⟨t316, t317, t318, t319⟩, A40, H⟩ := H
 replace H : ((spec_HullOf.f k t312 t313 t314 t315 t316 t317 t318 t319).bind fun bt320 => ((laws_toInterval.f a0_0 a0_1 a0_2 a0_3).bind fun bt326 => ((laws_toInterval.f a1_0 a1_1 a1_2 a1_3).bind fun bt330 => ((impl_HullOf.f k bt326.1 bt326.2.1 bt326.2.2.1 bt326.2.2.2 bt330.1 bt330.2.1 bt330.2.2.1 bt330.2.2.2).bind fun bt334 => ((laws_eqInterval.f bt334.1 bt334.2.1 bt334.2.2.1 bt334.2.2.2.1 bt320.1 bt320.2.1 bt320.2.2.1 bt320.2.2.2.1).bind fun t340 => (if t340 = true then (if (bt334.2.2.2.2 != bt320.2.2.2.2) = true then (none) else (some true)) else (none))))))) = some r := H
 have A4 := Aside0.mk A40
 clear A40
 replace H := Option.bind_eq_some_iff.mp H
 obtain ⟨⟨t320, t321, t322, t323, t324⟩, A50, H⟩ := H
 replace H : ((laws_toInterval.f a0_0 a0_1 a0_2 a0_3).bind fun bt326 => ((laws_toInterval.f a1_0 a1_1 a1_2 a1_3).bind fun bt330 => ((impl_HullOf.f k bt326.1 bt326.2.1 bt326.2.2.1 bt326.2.2.2 bt330.1 bt330.2.1 bt330.2.2.1 bt330.2.2.2).bind fun bt334 => ((laws_eqInterval.f bt334.1 bt334.2.1 bt334.2.2.1 bt334.2.2.2.1 t320 t321 t322 t323).bind fun t340 => (if t340 = true then (if (bt334.2.2.2.2 != t324) = true then (none) else (some true)) else (none)))))) = some r := H
 have A5 := Aside0.mk A50
 clear A50
 replace H := Option.bind_eq_some_iff.mp H
 obtain ⟨⟨t326, t327, t328, t329⟩, A60, H⟩ := H
 replace H : ((laws_toInterval.f a1_0 a1_1 a1_2 a1_3).bind fun bt330 => ((impl_HullOf.f k t326 t327 t328 t329 bt330.1 bt330.2.1 bt330.2.2.1 bt330.2.2.2).bind fun bt334 => ((laws_eqInterval.f bt334.1 bt334.2.1 bt334.2.2.1 bt334.2.2.2.1 t320 t321 t322 t323).bind fun t340 => (if t340 = true then (if (bt334.2.2.2.2 != t324) = true then (none) else (some true)) else (none))))) = some r := H
 have A6 := Aside0.mk A60
 clear A60
 replace H := Option.bind_eq_some_iff.mp H
 obtain ⟨⟨t330, t331, t332, t333⟩, A70, H⟩ := H
 replace H : ((impl_HullOf.f k t326 t327 t328 t329 t330 t331 t332 t333).bind fun bt334 => ((laws_eqInterval.f bt334.1 bt334.2.1 bt334.2.2.1 bt334.2.2.2.1 t320 t321 t322 t323).bind fun t340 => (if t340 = true then (if (bt334.2.2.2.2 != t324) = true then (none) else (some true)) else (none)))) = some r := H
 have A7 := Aside0.mk A70
 clear A70
 replace H := Option.bind_eq_some_iff.mp H
 obtain ⟨⟨t334, t335, t336, t337, t338⟩, A80, H⟩ := H
 replace H : ((laws_eqInterval.f t334 t335 t336 t337 t320 t321 t322 t323).bind fun t340 => (if t340 = true then (if (t338 != t324) = true then (none) else (some true)) else (none))) = some r := H
 have A8 := Aside0.mk A80
 clear A80
 replace H := Option.bind_eq_some_iff.mp H
 obtain ⟨t340, A90, H⟩ := H
 replace H : (if t340 = true then (if (t338 != t324) = true then (none) else (some true)) else (none)) = some r := H
 have A9 := Aside0.mk A90
 clear A90
 by_cases c10 : t340 = true
 ·
  subst c10
  have H1 : (if (t338 != t324) = true then (none) else (some true)) = some r := by rw [if_pos rfl] at H; exact H
  clear H
  have H := H1
  clear H1
  by_cases c11 : (t338 != t324) = true
  ·
   rw [if_pos c11] at H
   exact absurd H (by simp)
  ·
   rw [if_neg c11] at H
   have c11b0 : (t338 != t324) = false := by simpa using c11
   (try (have c11b1 : decide (t338 = t324) = true := by simpa using c11))
   (try (have c11b2 : (t338 == t324) = true := by simpa using c11))
   clear c11
   obtain rfl := Option.some.inj H
   go_enter Try.func6, Try.ntmps6
   try go_wp2_with (first | ((with_reducible refine gate_dst (N := 2) rfl ?_); refine box_event ?hg (N := 2) ?hd (cs := #[.int .i64 a0_0, .int .i64 a0_1, .int .i64 a0_2, .int .i64 a0_3]) (t := 25) ?hr ?_; (case hd => rfl); (case hg => rfl); (case hr => first | (go_simp; done) | (go_simp; rfl)); intro gb310 hg w12 hbox hb; have n0_ := Aside0.mk (below_step (z6_0 HB) hb); have n1_ := Aside0.mk (hbox); have n2_ := Aside0.mk ((by rw [hg]; exact (below_size (z6_0 HB)) : w.heap.size ≤ gb310)); have n3_ := Aside0.mk ((by rw [hg]; exact (below_size (z6_0 HB)) : w.heap.size ≤ gb310)); clear HB; have HB := n0_; have BK310 := n1_; have GW310 := n2_; have GE310 := n3_; clear n0_ n1_ n2_ n3_; clear hb hbox hg) | ((with_reducible refine gate_dst (N := 3) rfl ?_); refine box_event ?hg (N := 3) ?hd (cs := #[.int .i64 a1_0, .int .i64 a1_1, .int .i64 a1_2, .int .i64 a1_3]) (t := 25) ?hr ?_; (case hd => rfl); (case hg => rfl); (case hr => first | (go_simp; done) | (go_simp; rfl)); intro gb311 hg w13 hbox hb; have n0_ := Aside0.mk (zbb BK310 hb); have n1_ := Aside0.mk (below_step (z6_1 HB) hb); have n2_ := Aside0.mk (hbox); have n3_ := Aside0.mk ((by rw [hg]; exact (below_size (z6_1 HB)) : w.heap.size ≤ gb311)); have n4_ := Aside0.mk ((by rw [hg]; exact (below_size (z6_1 HB)) : w.heap.size ≤ gb311)); have n5_ := Aside0.mk (zlt BK310 hg); have n6_ := Aside0.mk (zgt BK310 hg); clear BK310; clear HB; have BK310 := n0_; have HB := n1_; have BK311 := n2_; have GW311 := n3_; have GE311 := n4_; have NB310_311 := n5_; have NB311_310 := n6_; clear n0_ n1_ n2_ n3_ n4_ n5_ n6_; clear hb hbox hg))
   have n0_ := Aside0.mk (blk_drew BK310.out)
   have n1_ := Aside0.mk (blk_drew BK311.out)
   have n2_ := Aside0.mk (below_drew1 HB.out)
   clear BK310 BK311 HB
   have BK310 := n0_; have BK311 := n1_; have HB := n2_
   clear n0_ n1_ n2_
   refine start_ (n := 11) (S := fun w' => w'.cell? ⟨gb310, 0, none⟩ = some (.int .i64 a0_0) ∧ w'.cell? ⟨gb310, 1, none⟩ = some (.int .i64 a0_1) ∧ w'.cell? ⟨gb310, 2, none⟩ = some (.int .i64 a0_2) ∧ w'.cell? ⟨gb310, 3, none⟩ = some (.int .i64 a0_3) ∧ w'.cell? ⟨gb311, 0, none⟩ = some (.int .i64 a1_0) ∧ w'.cell? ⟨gb311, 1, none⟩ = some (.int .i64 a1_1) ∧ w'.cell? ⟨gb311, 2, none⟩ = some (.int .i64 a1_2) ∧ w'.cell? ⟨gb311, 3, none⟩ = some (.int .i64 a1_3)) (ds := []) #[false, false, false, false, false, false, false, false, false, false, false] (by kernel_rfl) rfl rfl ⟨zc BK310 0, zc BK310 1, zc BK310 2, zc BK310 3, zc BK311 0, zc BK311 1, zc BK311 2, zc BK311 3⟩ (fun hHeld => ?_); refine with_tabW laws_FnExactHullOf.tab1 laws_FnExactHullOf.bits1 (fun HT_ HW_ => ?_)
   generalize w13.drew = w14 at BK310 BK311 HB hHeld ⊢
   refine take_ (i := 0) (N := some 10) (v := ?_) (a' := ?_) #[true, false, false, false, false, false, false, false, false, false, false] rfl rfl (take_ofW HT_.out HW_.out (by kernel_rfl)) (fun _ _ _ h => h) (Or.inl ⟨by rfl, ?_⟩) hHeld ?_ ?_
   rotate_left
   ·
    rintro w' ⟨s0, s1, s2, s3, s4, s5, s6, s7⟩
    go_simp
    with_reducible rfl
   rotate_left
   ·
    simp only [Act.put, List.setIfInBounds_toArray, List.set_cons_zero, List.set_cons_succ, i64_w, i32_w]
    rfl
   refine take_ (i := 2) (N := some 12) (v := ?_) (a' := ?_) #[true, false, true, false, false, false, false, false, false, false, false] rfl rfl (take_ofW HT_.out HW_.out (by kernel_rfl)) (fun _ _ _ h => h) (Or.inl ⟨by rfl, ?_⟩) hHeld ?_ ?_
   rotate_left
   ·
    rintro w' ⟨s0, s1, s2, s3, s4, s5, s6, s7⟩
    go_simp
    with_reducible rfl
   rotate_left
   ·
    simp only [Act.put, List.setIfInBounds_toArray, List.set_cons_zero, List.set_cons_succ, i64_w, i32_w]
    rfl
   refine join_ (σ := Nat) 2 #[true, true, true, true, true, true, true, true, true, false, false] (fun s_ => [(11, .agg #[.int .i64 t312, .int .i64 t313, .int .i64 t314, .int .i64 t315]), (13, .agg #[.int .i64 t316, .int .i64 t317, .int .i64 t318, .int .i64 t319]), (14, .tuple #[.agg #[.int .i64 t320, .int .i64 t321, .int .i64 t322, .int .i64 t323], .bool t324]), (5, .pointer (some ⟨s_, 0, none⟩)), (9, .tuple #[.agg #[.int .i64 t320, .int .i64 t321, .int .i64 t322, .int .i64 t323], .bool t324]), (15, .agg #[.int .i64 t320, .int .i64 t321, .int .i64 t322, .int .i64 t323]), (16, .bool t324)]) (fun s_ w' => (w'.cell? ⟨gb310, 0, none⟩ = some (.int .i64 a0_0) ∧ w'.cell? ⟨gb310, 1, none⟩ = some (.int .i64 a0_1) ∧ w'.cell? ⟨gb310, 2, none⟩ = some (.int .i64 a0_2) ∧ w'.cell? ⟨gb310, 3, none⟩ = some (.int .i64 a0_3) ∧ w'.cell? ⟨gb311, 0, none⟩ = some (.int .i64 a1_0) ∧ w'.cell? ⟨gb311, 1, none⟩ = some (.int .i64 a1_1) ∧ w'.cell? ⟨gb311, 2, none⟩ = some (.int .i64 a1_2) ∧ w'.cell? ⟨gb311, 3, none⟩ = some (.int .i64 a1_3)) ∧ (w'.heap[gb310]? = some (.cells #[.int .i64 a0_0, .int .i64 a0_1, .int .i64 a0_2, .int .i64 a0_3] 25 (0, 0))) ∧ (w'.heap[gb311]? = some (.cells #[.int .i64 a1_0, .int .i64 a1_1, .int .i64 a1_2, .int .i64 a1_3] 25 (0, 0))) ∧ (w'.heap[s_]? = some (.cells #[.int .i64 0, .int .i64 0, .int .i64 0, .int .i64 0] 29 (0, 0))) ∧ (w.heap.size ≤ s_) ∧ (w.heap.size ≤ s_) ∧ (gb310 ≠ s_) ∧ (s_ ≠ gb310) ∧ (gb311 ≠ s_) ∧ (s_ ≠ gb311) ∧ (Below w.heap.size w w')) ?_ ?_
   rotate_left
   ·
    intro hCont
    refine two_ (i := 1) (j := 8) (Ni := some 11) (Nj := some 5) #[true, true, true, false, false, false, false, false, false, false, false] #[true, false, true, false, false, false, false, false, true, false, false] rfl rfl rfl rfl (two_of HT_.out (by kernel_rfl)) (by decide) (by decide) (fun K hK => ?_) (fun K hK => ?_)
    ·
     refine goes_ Try.func16 (by kernel_rfl) rfl #[.agg #[.int .i64 a0_0, .int .i64 a0_1, .int .i64 a0_2, .int .i64 a0_3]] (by rfl) rfl rfl (by (try simp only [List.map_toArray, List.map_cons, List.map_nil]); first | done | rfl | (simp only [List.length_drop, List.length_take]; rfl)) ?_
     with_reducible refine (laws_toInterval.calls a0_0 a0_1 a0_2 a0_3 t312 t313 t314 t315 _ A3.out).mono ?_
     rintro e w15 ⟨rfl, hb⟩
     refine ⟨_, rfl, ?_⟩
     have n0_ := Aside0.mk (zbb BK310 hb)
     have n1_ := Aside0.mk (zbb BK311 hb)
     have n2_ := Aside0.mk (below_step (z6_1 HB) hb)
     clear BK310 BK311 HB
     have BK310 := n0_; have BK311 := n1_; have HB := n2_
     clear n0_ n1_ n2_
     (try clear hb)
     (try clear hb2)
     (try clear hk)
     (try clear hi)
     refine hK.out _ _ ⟨zc BK310 0, zc BK310 1, zc BK310 2, zc BK310 3, zc BK311 0, zc BK311 1, zc BK311 2, zc BK311 3⟩ (fun hHeld => ?_)
     clear hK K
     refine norm_ (a' := ?_) ?_ ?_
     rotate_left
     ·
      show Act.put _ (some 11) _ = _
      simp only [Act.put, List.setIfInBounds_toArray, List.set_cons_zero, List.set_cons_succ, i64_w, i32_w]; rfl
     refine two_ (i := 3) (j := 8) (Ni := some 13) (Nj := some 5) #[true, true, true, true, false, false, false, false, false, false, false] #[true, true, true, false, false, false, false, false, true, false, false] rfl rfl rfl rfl (two_of HT_.out (by kernel_rfl)) (by decide) (by decide) (fun K hK => ?_) (fun K hK => ?_)
     ·
      refine goes_ Try.func16 (by kernel_rfl) rfl #[.agg #[.int .i64 a1_0, .int .i64 a1_1, .int .i64 a1_2, .int .i64 a1_3]] (by rfl) rfl rfl (by (try simp only [List.map_toArray, List.map_cons, List.map_nil]); first | done | rfl | (simp only [List.length_drop, List.length_take]; rfl)) ?_
      with_reducible refine (laws_toInterval.calls a1_0 a1_1 a1_2 a1_3 t316 t317 t318 t319 _ A4.out).mono ?_
      rintro e w16 ⟨rfl, hb⟩
      refine ⟨_, rfl, ?_⟩
      have n0_ := Aside0.mk (zbb BK310 hb)
      have n1_ := Aside0.mk (zbb BK311 hb)
      have n2_ := Aside0.mk (below_step (z6_1 HB) hb)
      clear BK310 BK311 HB
      have BK310 := n0_; have BK311 := n1_; have HB := n2_
      clear n0_ n1_ n2_
      (try clear hb)
      (try clear hb2)
      (try clear hk)
      (try clear hi)
      refine hK.out _ _ ⟨zc BK310 0, zc BK310 1, zc BK310 2, zc BK310 3, zc BK311 0, zc BK311 1, zc BK311 2, zc BK311 3⟩ (fun hHeld => ?_)
      clear hK K
      refine norm_ (a' := ?_) ?_ ?_
      rotate_left
      ·
       show Act.put _ (some 13) _ = _
       simp only [Act.put, List.setIfInBounds_toArray, List.set_cons_zero, List.set_cons_succ, i64_w, i32_w]; rfl
      refine two_ (i := 4) (j := 8) (Ni := some 14) (Nj := some 5) #[true, true, true, true, true, false, false, false, false, false, false] #[true, true, true, true, false, false, false, false, true, false, false] rfl rfl rfl rfl (two_of HT_.out (by kernel_rfl)) (by decide) (by decide) (fun K hK => ?_) (fun K hK => ?_)
      ·
       refine goes_ Try.func22 (by kernel_rfl) rfl #[.agg #[.int .i64 t312, .int .i64 t313, .int .i64 t314, .int .i64 t315], .agg #[.int .i64 t316, .int .i64 t317, .int .i64 t318, .int .i64 t319]] (by rfl) rfl rfl (by (try simp only [List.map_toArray, List.map_cons, List.map_nil]); first | done | rfl | (simp only [List.length_drop, List.length_take]; rfl)) ?_
       with_reducible refine (spec_HullOf.calls k t312 t313 t314 t315 t316 t317 t318 t319 t320 t321 t322 t323 t324 _ A5.out).mono ?_
       rintro e w17 ⟨rfl, hb⟩
       refine ⟨_, rfl, ?_⟩
       have n0_ := Aside0.mk (zbb BK310 hb)
       have n1_ := Aside0.mk (zbb BK311 hb)
       have n2_ := Aside0.mk (below_step (z6_1 HB) hb)
       clear BK310 BK311 HB
       have BK310 := n0_; have BK311 := n1_; have HB := n2_
       clear n0_ n1_ n2_
       (try clear hb)
       (try clear hb2)
       (try clear hk)
       (try clear hi)
       refine hK.out _ _ ⟨zc BK310 0, zc BK310 1, zc BK310 2, zc BK310 3, zc BK311 0, zc BK311 1, zc BK311 2, zc BK311 3⟩ (fun hHeld => ?_)
       clear hK K
       refine norm_ (a' := ?_) ?_ ?_
       rotate_left
       ·
        show Act.put _ (some 14) _ = _
        simp only [Act.put, List.setIfInBounds_toArray, List.set_cons_zero, List.set_cons_succ, i64_w, i32_w]; rfl
       refine pure_ (i := 5) (N := some 9) (v := ?_) (a' := ?_) #[true, true, true, true, true, true, false, false, false, false, false] rfl rfl (any_of HT_.out (by kernel_rfl)) (fun _ _ _ h => h) (Or.inl ⟨by rfl, ?_⟩) ?_ ?_
       rotate_left
       ·
        intro w'
        go_simp
        with_reducible rfl
       rotate_left
       ·
        simp only [Act.put, List.setIfInBounds_toArray, List.set_cons_zero, List.set_cons_succ, i64_w, i32_w]
        rfl
       refine pure_ (i := 6) (N := some 15) (v := ?_) (a' := ?_) #[true, true, true, true, true, true, true, false, false, false, false] rfl rfl (any_of HT_.out (by kernel_rfl)) (fun _ _ _ h => h) (Or.inl ⟨by rfl, ?_⟩) ?_ ?_
       rotate_left
       ·
        intro w'
        go_simp
        with_reducible rfl
       rotate_left
       ·
        simp only [Act.put, List.setIfInBounds_toArray, List.set_cons_zero, List.set_cons_succ, i64_w, i32_w]
        rfl
       refine pure_ (i := 7) (N := some 16) (v := ?_) (a' := ?_) #[true, true, true, true, true, true, true, true, false, false, false] rfl rfl (any_of HT_.out (by kernel_rfl)) (fun _ _ _ h => h) (Or.inl ⟨by rfl, ?_⟩) ?_ ?_
       rotate_left
       ·
        intro w'
        go_simp
        with_reducible rfl
       rotate_left
       ·
        simp only [Act.put, List.setIfInBounds_toArray, List.set_cons_zero, List.set_cons_succ, i64_w, i32_w]
        rfl
       refine one_ (i := 8) (N := some 5) #[true, true, true, true, true, true, true, true, true, false, false] rfl rfl (one_of HT_.out (by kernel_rfl)) (by decide) (fun K hK => ?_)
       refine box_step ?hg (N := 5) ?hd (cs := #[.int .i64 0, .int .i64 0, .int .i64 0, .int .i64 0]) (t := 29) ?hr ?_; (case hd => rfl); (case hg => rfl); (case hr => first | (go_simp; done) | (go_simp; rfl))
       intro gb325 hg w18 hbox hb
       have n0_ := Aside0.mk (zbb BK310 hb)
       have n1_ := Aside0.mk (zbb BK311 hb)
       have n2_ := Aside0.mk (below_step (z6_1 HB) hb)
       have BK325 := Aside0.mk (hbox)
       have GW325 := Aside0.mk ((by rw [hg]; exact (below_size (z6_1 HB)) : w.heap.size ≤ gb325))
       have GE325 := Aside0.mk ((by rw [hg]; exact (below_size (z6_1 HB)) : w.heap.size ≤ gb325))
       have NB310_325 := Aside0.mk (zlt BK310 hg)
       have NB325_310 := Aside0.mk (zgt BK310 hg)
       have NB311_325 := Aside0.mk (zlt BK311 hg)
       have NB325_311 := Aside0.mk (zgt BK311 hg)
       clear BK310 BK311 HB
       have BK310 := n0_; have BK311 := n1_; have HB := n2_
       clear n0_ n1_ n2_ hb hbox hg
       refine hK.out _ _ ⟨zc BK310 0, zc BK310 1, zc BK310 2, zc BK310 3, zc BK311 0, zc BK311 1, zc BK311 2, zc BK311 3⟩ (fun hHeld => ?_)
       clear hK K
       refine norm_ (a' := ?_) ?_ ?_
       rotate_left
       ·
        show Act.put _ (some 5) _ = _
        simp only [Act.put, List.setIfInBounds_toArray, List.set_cons_zero, List.set_cons_succ, i64_w, i32_w]; rfl
       exact norm_ (by simp only [putAll, Act.put, List.setIfInBounds_toArray, List.set_cons_zero, List.set_cons_succ]) (hCont (gb325) _ ⟨hHeld, (zq1 BK310), (zq1 BK311), (zq1 BK325), GW325.out, GE325.out, NB310_325.out, NB325_310.out, NB311_325.out, NB325_311.out, (z6_1 HB)⟩)
      ·
       refine box_step ?hg (N := 5) ?hd (cs := #[.int .i64 0, .int .i64 0, .int .i64 0, .int .i64 0]) (t := 29) ?hr ?_; (case hd => rfl); (case hg => rfl); (case hr => first | (go_simp; done) | (go_simp; rfl))
       intro gb325 hg w17 hbox hb
       have n0_ := Aside0.mk (zbb BK310 hb)
       have n1_ := Aside0.mk (zbb BK311 hb)
       have n2_ := Aside0.mk (below_step (z6_1 HB) hb)
       have BK325 := Aside0.mk (hbox)
       have GW325 := Aside0.mk ((by rw [hg]; exact (below_size (z6_1 HB)) : w.heap.size ≤ gb325))
       have GE325 := Aside0.mk ((by rw [hg]; exact (below_size (z6_1 HB)) : w.heap.size ≤ gb325))
       have NB310_325 := Aside0.mk (zlt BK310 hg)
       have NB325_310 := Aside0.mk (zgt BK310 hg)
       have NB311_325 := Aside0.mk (zlt BK311 hg)
       have NB325_311 := Aside0.mk (zgt BK311 hg)
       clear BK310 BK311 HB
       have BK310 := n0_; have BK311 := n1_; have HB := n2_
       clear n0_ n1_ n2_ hb hbox hg
       refine hK.out _ _ ⟨zc BK310 0, zc BK310 1, zc BK310 2, zc BK310 3, zc BK311 0, zc BK311 1, zc BK311 2, zc BK311 3⟩ (fun hHeld => ?_)
       clear hK K
       refine norm_ (a' := ?_) ?_ ?_
       rotate_left
       ·
        show Act.put _ (some 5) _ = _
        simp only [Act.put, List.setIfInBounds_toArray, List.set_cons_zero, List.set_cons_succ, i64_w, i32_w]; rfl
       refine one_ (i := 4) (N := some 14) #[true, true, true, true, true, false, false, false, true, false, false] rfl rfl (one_of HT_.out (by kernel_rfl)) (by decide) (fun K hK => ?_)
       refine goes_ Try.func22 (by kernel_rfl) rfl #[.agg #[.int .i64 t312, .int .i64 t313, .int .i64 t314, .int .i64 t315], .agg #[.int .i64 t316, .int .i64 t317, .int .i64 t318, .int .i64 t319]] (by rfl) rfl rfl (by (try simp only [List.map_toArray, List.map_cons, List.map_nil]); first | done | rfl | (simp only [List.length_drop, List.length_take]; rfl)) ?_
       with_reducible refine (spec_HullOf.calls k t312 t313 t314 t315 t316 t317 t318 t319 t320 t321 t322 t323 t324 _ A5.out).mono ?_
       rintro e w18 ⟨rfl, hb⟩
       refine ⟨_, rfl, ?_⟩
       have n0_ := Aside0.mk (zbb BK310 hb)
       have n1_ := Aside0.mk (zbb BK311 hb)
       have n2_ := Aside0.mk (zbb BK325 hb)
       have n3_ := Aside0.mk (below_step (z6_1 HB) hb)
       clear BK310 BK311 BK325 HB
       have BK310 := n0_; have BK311 := n1_; have BK325 := n2_; have HB := n3_
       clear n0_ n1_ n2_ n3_
       (try clear hb)
       (try clear hb2)
       (try clear hk)
       (try clear hi)
       refine hK.out _ _ ⟨zc BK310 0, zc BK310 1, zc BK310 2, zc BK310 3, zc BK311 0, zc BK311 1, zc BK311 2, zc BK311 3⟩ (fun hHeld => ?_)
       clear hK K
       refine norm_ (a' := ?_) ?_ ?_
       rotate_left
       ·
        show Act.put _ (some 14) _ = _
        simp only [Act.put, List.setIfInBounds_toArray, List.set_cons_zero, List.set_cons_succ, i64_w, i32_w]; rfl
       refine pure_ (i := 5) (N := some 9) (v := ?_) (a' := ?_) #[true, true, true, true, true, true, false, false, true, false, false] rfl rfl (any_of HT_.out (by kernel_rfl)) (fun _ _ _ h => h) (Or.inl ⟨by rfl, ?_⟩) ?_ ?_
       rotate_left
       ·
        intro w'
        go_simp
        with_reducible rfl
       rotate_left
       ·
        simp only [Act.put, List.setIfInBounds_toArray, List.set_cons_zero, List.set_cons_succ, i64_w, i32_w]
        rfl
       refine pure_ (i := 6) (N := some 15) (v := ?_) (a' := ?_) #[true, true, true, true, true, true, true, false, true, false, false] rfl rfl (any_of HT_.out (by kernel_rfl)) (fun _ _ _ h => h) (Or.inl ⟨by rfl, ?_⟩) ?_ ?_
       rotate_left
       ·
        intro w'
        go_simp
        with_reducible rfl
       rotate_left
       ·
        simp only [Act.put, List.setIfInBounds_toArray, List.set_cons_zero, List.set_cons_succ, i64_w, i32_w]
        rfl
       refine pure_ (i := 7) (N := some 16) (v := ?_) (a' := ?_) #[true, true, true, true, true, true, true, true, true, false, false] rfl rfl (any_of HT_.out (by kernel_rfl)) (fun _ _ _ h => h) (Or.inl ⟨by rfl, ?_⟩) ?_ ?_
       rotate_left
       ·
        intro w'
        go_simp
        with_reducible rfl
       rotate_left
       ·
        simp only [Act.put, List.setIfInBounds_toArray, List.set_cons_zero, List.set_cons_succ, i64_w, i32_w]
        rfl
       exact norm_ (by simp only [putAll, Act.put, List.setIfInBounds_toArray, List.set_cons_zero, List.set_cons_succ]) (hCont (gb325) _ ⟨hHeld, (zq1 BK310), (zq1 BK311), (zq1 BK325), GW325.out, GE325.out, NB310_325.out, NB325_310.out, NB311_325.out, NB325_311.out, (z6_1 HB)⟩)
     ·
      refine box_step ?hg (N := 5) ?hd (cs := #[.int .i64 0, .int .i64 0, .int .i64 0, .int .i64 0]) (t := 29) ?hr ?_; (case hd => rfl); (case hg => rfl); (case hr => first | (go_simp; done) | (go_simp; rfl))
      intro gb325 hg w16 hbox hb
      have n0_ := Aside0.mk (zbb BK310 hb)
      have n1_ := Aside0.mk (zbb BK311 hb)
      have n2_ := Aside0.mk (below_step (z6_1 HB) hb)
      have BK325 := Aside0.mk (hbox)
      have GW325 := Aside0.mk ((by rw [hg]; exact (below_size (z6_1 HB)) : w.heap.size ≤ gb325))
      have GE325 := Aside0.mk ((by rw [hg]; exact (below_size (z6_1 HB)) : w.heap.size ≤ gb325))
      have NB310_325 := Aside0.mk (zlt BK310 hg)
      have NB325_310 := Aside0.mk (zgt BK310 hg)
      have NB311_325 := Aside0.mk (zlt BK311 hg)
      have NB325_311 := Aside0.mk (zgt BK311 hg)
      clear BK310 BK311 HB
      have BK310 := n0_; have BK311 := n1_; have HB := n2_
      clear n0_ n1_ n2_ hb hbox hg
      refine hK.out _ _ ⟨zc BK310 0, zc BK310 1, zc BK310 2, zc BK310 3, zc BK311 0, zc BK311 1, zc BK311 2, zc BK311 3⟩ (fun hHeld => ?_)
      clear hK K
      refine norm_ (a' := ?_) ?_ ?_
      rotate_left
      ·
       show Act.put _ (some 5) _ = _
       simp only [Act.put, List.setIfInBounds_toArray, List.set_cons_zero, List.set_cons_succ, i64_w, i32_w]; rfl
      refine one_ (i := 3) (N := some 13) #[true, true, true, true, false, false, false, false, true, false, false] rfl rfl (one_of HT_.out (by kernel_rfl)) (by decide) (fun K hK => ?_)
      refine goes_ Try.func16 (by kernel_rfl) rfl #[.agg #[.int .i64 a1_0, .int .i64 a1_1, .int .i64 a1_2, .int .i64 a1_3]] (by rfl) rfl rfl (by (try simp only [List.map_toArray, List.map_cons, List.map_nil]); first | done | rfl | (simp only [List.length_drop, List.length_take]; rfl)) ?_
      with_reducible refine (laws_toInterval.calls a1_0 a1_1 a1_2 a1_3 t316 t317 t318 t319 _ A4.out).mono ?_
      rintro e w17 ⟨rfl, hb⟩
      refine ⟨_, rfl, ?_⟩
      have n0_ := Aside0.mk (zbb BK310 hb)
      have n1_ := Aside0.mk (zbb BK311 hb)
      have n2_ := Aside0.mk (zbb BK325 hb)
      have n3_ := Aside0.mk (below_step (z6_1 HB) hb)
      clear BK310 BK311 BK325 HB
      have BK310 := n0_; have BK311 := n1_; have BK325 := n2_; have HB := n3_
      clear n0_ n1_ n2_ n3_
      (try clear hb)
      (try clear hb2)
      (try clear hk)
      (try clear hi)
      refine hK.out _ _ ⟨zc BK310 0, zc BK310 1, zc BK310 2, zc BK310 3, zc BK311 0, zc BK311 1, zc BK311 2, zc BK311 3⟩ (fun hHeld => ?_)
      clear hK K
      refine norm_ (a' := ?_) ?_ ?_
      rotate_left
      ·
       show Act.put _ (some 13) _ = _
       simp only [Act.put, List.setIfInBounds_toArray, List.set_cons_zero, List.set_cons_succ, i64_w, i32_w]; rfl
      refine one_ (i := 4) (N := some 14) #[true, true, true, true, true, false, false, false, true, false, false] rfl rfl (one_of HT_.out (by kernel_rfl)) (by decide) (fun K hK => ?_)
      refine goes_ Try.func22 (by kernel_rfl) rfl #[.agg #[.int .i64 t312, .int .i64 t313, .int .i64 t314, .int .i64 t315], .agg #[.int .i64 t316, .int .i64 t317, .int .i64 t318, .int .i64 t319]] (by rfl) rfl rfl (by (try simp only [List.map_toArray, List.map_cons, List.map_nil]); first | done | rfl | (simp only [List.length_drop, List.length_take]; rfl)) ?_
      with_reducible refine (spec_HullOf.calls k t312 t313 t314 t315 t316 t317 t318 t319 t320 t321 t322 t323 t324 _ A5.out).mono ?_
      rintro e w18 ⟨rfl, hb⟩
      refine ⟨_, rfl, ?_⟩
      have n0_ := Aside0.mk (zbb BK310 hb)
      have n1_ := Aside0.mk (zbb BK311 hb)
      have n2_ := Aside0.mk (zbb BK325 hb)
      have n3_ := Aside0.mk (below_step (z6_1 HB) hb)
      clear BK310 BK311 BK325 HB
      have BK310 := n0_; have BK311 := n1_; have BK325 := n2_; have HB := n3_
      clear n0_ n1_ n2_ n3_
      (try clear hb)
      (try clear hb2)
      (try clear hk)
      (try clear hi)
      refine hK.out _ _ ⟨zc BK310 0, zc BK310 1, zc BK310 2, zc BK310 3, zc BK311 0, zc BK311 1, zc BK311 2, zc BK311 3⟩ (fun hHeld => ?_)
      clear hK K
      refine norm_ (a' := ?_) ?_ ?_
      rotate_left
      ·
       show Act.put _ (some 14) _ = _
       simp only [Act.put, List.setIfInBounds_toArray, List.set_cons_zero, List.set_cons_succ, i64_w, i32_w]; rfl
      refine pure_ (i := 5) (N := some 9) (v := ?_) (a' := ?_) #[true, true, true, true, true, true, false, false, true, false, false] rfl rfl (any_of HT_.out (by kernel_rfl)) (fun _ _ _ h => h) (Or.inl ⟨by rfl, ?_⟩) ?_ ?_
      rotate_left
      ·
       intro w'
       go_simp
       with_reducible rfl
      rotate_left
      ·
       simp only [Act.put, List.setIfInBounds_toArray, List.set_cons_zero, List.set_cons_succ, i64_w, i32_w]
       rfl
      refine pure_ (i := 6) (N := some 15) (v := ?_) (a' := ?_) #[true, true, true, true, true, true, true, false, true, false, false] rfl rfl (any_of HT_.out (by kernel_rfl)) (fun _ _ _ h => h) (Or.inl ⟨by rfl, ?_⟩) ?_ ?_
      rotate_left
      ·
       intro w'
       go_simp
       with_reducible rfl
      rotate_left
      ·
       simp only [Act.put, List.setIfInBounds_toArray, List.set_cons_zero, List.set_cons_succ, i64_w, i32_w]
       rfl
      refine pure_ (i := 7) (N := some 16) (v := ?_) (a' := ?_) #[true, true, true, true, true, true, true, true, true, false, false] rfl rfl (any_of HT_.out (by kernel_rfl)) (fun _ _ _ h => h) (Or.inl ⟨by rfl, ?_⟩) ?_ ?_
      rotate_left
      ·
       intro w'
       go_simp
       with_reducible rfl
      rotate_left
      ·
       simp only [Act.put, List.setIfInBounds_toArray, List.set_cons_zero, List.set_cons_succ, i64_w, i32_w]
       rfl
      exact norm_ (by simp only [putAll, Act.put, List.setIfInBounds_toArray, List.set_cons_zero, List.set_cons_succ]) (hCont (gb325) _ ⟨hHeld, (zq1 BK310), (zq1 BK311), (zq1 BK325), GW325.out, GE325.out, NB310_325.out, NB325_310.out, NB311_325.out, NB325_311.out, (z6_1 HB)⟩)
    ·
     refine box_step ?hg (N := 5) ?hd (cs := #[.int .i64 0, .int .i64 0, .int .i64 0, .int .i64 0]) (t := 29) ?hr ?_; (case hd => rfl); (case hg => rfl); (case hr => first | (go_simp; done) | (go_simp; rfl))
     intro gb325 hg w15 hbox hb
     have n0_ := Aside0.mk (zbb BK310 hb)
     have n1_ := Aside0.mk (zbb BK311 hb)
     have n2_ := Aside0.mk (below_step (z6_1 HB) hb)
     have BK325 := Aside0.mk (hbox)
     have GW325 := Aside0.mk ((by rw [hg]; exact (below_size (z6_1 HB)) : w.heap.size ≤ gb325))
     have GE325 := Aside0.mk ((by rw [hg]; exact (below_size (z6_1 HB)) : w.heap.size ≤ gb325))
     have NB310_325 := Aside0.mk (zlt BK310 hg)
     have NB325_310 := Aside0.mk (zgt BK310 hg)
     have NB311_325 := Aside0.mk (zlt BK311 hg)
     have NB325_311 := Aside0.mk (zgt BK311 hg)
     clear BK310 BK311 HB
     have BK310 := n0_; have BK311 := n1_; have HB := n2_
     clear n0_ n1_ n2_ hb hbox hg
     refine hK.out _ _ ⟨zc BK310 0, zc BK310 1, zc BK310 2, zc BK310 3, zc BK311 0, zc BK311 1, zc BK311 2, zc BK311 3⟩ (fun hHeld => ?_)
     clear hK K
     refine norm_ (a' := ?_) ?_ ?_
     rotate_left
     ·
      show Act.put _ (some 5) _ = _
      simp only [Act.put, List.setIfInBounds_toArray, List.set_cons_zero, List.set_cons_succ, i64_w, i32_w]; rfl
     refine one_ (i := 1) (N := some 11) #[true, true, true, false, false, false, false, false, true, false, false] rfl rfl (one_of HT_.out (by kernel_rfl)) (by decide) (fun K hK => ?_)
     refine goes_ Try.func16 (by kernel_rfl) rfl #[.agg #[.int .i64 a0_0, .int .i64 a0_1, .int .i64 a0_2, .int .i64 a0_3]] (by rfl) rfl rfl (by (try simp only [List.map_toArray, List.map_cons, List.map_nil]); first | done | rfl | (simp only [List.length_drop, List.length_take]; rfl)) ?_
     with_reducible refine (laws_toInterval.calls a0_0 a0_1 a0_2 a0_3 t312 t313 t314 t315 _ A3.out).mono ?_
     rintro e w16 ⟨rfl, hb⟩
     refine ⟨_, rfl, ?_⟩
     have n0_ := Aside0.mk (zbb BK310 hb)
     have n1_ := Aside0.mk (zbb BK311 hb)
     have n2_ := Aside0.mk (zbb BK325 hb)
     have n3_ := Aside0.mk (below_step (z6_1 HB) hb)
     clear BK310 BK311 BK325 HB
     have BK310 := n0_; have BK311 := n1_; have BK325 := n2_; have HB := n3_
     clear n0_ n1_ n2_ n3_
     (try clear hb)
     (try clear hb2)
     (try clear hk)
     (try clear hi)
     refine hK.out _ _ ⟨zc BK310 0, zc BK310 1, zc BK310 2, zc BK310 3, zc BK311 0, zc BK311 1, zc BK311 2, zc BK311 3⟩ (fun hHeld => ?_)
     clear hK K
     refine norm_ (a' := ?_) ?_ ?_
     rotate_left
     ·
      show Act.put _ (some 11) _ = _
      simp only [Act.put, List.setIfInBounds_toArray, List.set_cons_zero, List.set_cons_succ, i64_w, i32_w]; rfl
     refine one_ (i := 3) (N := some 13) #[true, true, true, true, false, false, false, false, true, false, false] rfl rfl (one_of HT_.out (by kernel_rfl)) (by decide) (fun K hK => ?_)
     refine goes_ Try.func16 (by kernel_rfl) rfl #[.agg #[.int .i64 a1_0, .int .i64 a1_1, .int .i64 a1_2, .int .i64 a1_3]] (by rfl) rfl rfl (by (try simp only [List.map_toArray, List.map_cons, List.map_nil]); first | done | rfl | (simp only [List.length_drop, List.length_take]; rfl)) ?_
     with_reducible refine (laws_toInterval.calls a1_0 a1_1 a1_2 a1_3 t316 t317 t318 t319 _ A4.out).mono ?_
     rintro e w17 ⟨rfl, hb⟩
     refine ⟨_, rfl, ?_⟩
     have n0_ := Aside0.mk (zbb BK310 hb)
     have n1_ := Aside0.mk (zbb BK311 hb)
     have n2_ := Aside0.mk (zbb BK325 hb)
     have n3_ := Aside0.mk (below_step (z6_1 HB) hb)
     clear BK310 BK311 BK325 HB
     have BK310 := n0_; have BK311 := n1_; have BK325 := n2_; have HB := n3_
     clear n0_ n1_ n2_ n3_
     (try clear hb)
     (try clear hb2)
     (try clear hk)
     (try clear hi)
     refine hK.out _ _ ⟨zc BK310 0, zc BK310 1, zc BK310 2, zc BK310 3, zc BK311 0, zc BK311 1, zc BK311 2, zc BK311 3⟩ (fun hHeld => ?_)
     clear hK K
     refine norm_ (a' := ?_) ?_ ?_
     rotate_left
     ·
      show Act.put _ (some 13) _ = _
      simp only [Act.put, List.setIfInBounds_toArray, List.set_cons_zero, List.set_cons_succ, i64_w, i32_w]; rfl
     refine one_ (i := 4) (N := some 14) #[true, true, true, true, true, false, false, false, true, false, false] rfl rfl (one_of HT_.out (by kernel_rfl)) (by decide) (fun K hK => ?_)
     refine goes_ Try.func22 (by kernel_rfl) rfl #[.agg #[.int .i64 t312, .int .i64 t313, .int .i64 t314, .int .i64 t315], .agg #[.int .i64 t316, .int .i64 t317, .int .i64 t318, .int .i64 t319]] (by rfl) rfl rfl (by (try simp only [List.map_toArray, List.map_cons, List.map_nil]); first | done | rfl | (simp only [List.length_drop, List.length_take]; rfl)) ?_
     with_reducible refine (spec_HullOf.calls k t312 t313 t314 t315 t316 t317 t318 t319 t320 t321 t322 t323 t324 _ A5.out).mono ?_
     rintro e w18 ⟨rfl, hb⟩
     refine ⟨_, rfl, ?_⟩
     have n0_ := Aside0.mk (zbb BK310 hb)
     have n1_ := Aside0.mk (zbb BK311 hb)
     have n2_ := Aside0.mk (zbb BK325 hb)
     have n3_ := Aside0.mk (below_step (z6_1 HB) hb)
     clear BK310 BK311 BK325 HB
     have BK310 := n0_; have BK311 := n1_; have BK325 := n2_; have HB := n3_
     clear n0_ n1_ n2_ n3_
     (try clear hb)
     (try clear hb2)
     (try clear hk)
     (try clear hi)
     refine hK.out _ _ ⟨zc BK310 0, zc BK310 1, zc BK310 2, zc BK310 3, zc BK311 0, zc BK311 1, zc BK311 2, zc BK311 3⟩ (fun hHeld => ?_)
     clear hK K
     refine norm_ (a' := ?_) ?_ ?_
     rotate_left
     ·
      show Act.put _ (some 14) _ = _
      simp only [Act.put, List.setIfInBounds_toArray, List.set_cons_zero, List.set_cons_succ, i64_w, i32_w]; rfl
     refine pure_ (i := 5) (N := some 9) (v := ?_) (a' := ?_) #[true, true, true, true, true, true, false, false, true, false, false] rfl rfl (any_of HT_.out (by kernel_rfl)) (fun _ _ _ h => h) (Or.inl ⟨by rfl, ?_⟩) ?_ ?_
     rotate_left
     ·
      intro w'
      go_simp
      with_reducible rfl
     rotate_left
     ·
      simp only [Act.put, List.setIfInBounds_toArray, List.set_cons_zero, List.set_cons_succ, i64_w, i32_w]
      rfl
     refine pure_ (i := 6) (N := some 15) (v := ?_) (a' := ?_) #[true, true, true, true, true, true, true, false, true, false, false] rfl rfl (any_of HT_.out (by kernel_rfl)) (fun _ _ _ h => h) (Or.inl ⟨by rfl, ?_⟩) ?_ ?_
     rotate_left
     ·
      intro w'
      go_simp
      with_reducible rfl
     rotate_left
     ·
      simp only [Act.put, List.setIfInBounds_toArray, List.set_cons_zero, List.set_cons_succ, i64_w, i32_w]
      rfl
     refine pure_ (i := 7) (N := some 16) (v := ?_) (a' := ?_) #[true, true, true, true, true, true, true, true, true, false, false] rfl rfl (any_of HT_.out (by kernel_rfl)) (fun _ _ _ h => h) (Or.inl ⟨by rfl, ?_⟩) ?_ ?_
     rotate_left
     ·
      intro w'
      go_simp
      with_reducible rfl
     rotate_left
     ·
      simp only [Act.put, List.setIfInBounds_toArray, List.set_cons_zero, List.set_cons_succ, i64_w, i32_w]
      rfl
     exact norm_ (by simp only [putAll, Act.put, List.setIfInBounds_toArray, List.set_cons_zero, List.set_cons_succ]) (hCont (gb325) _ ⟨hHeld, (zq1 BK310), (zq1 BK311), (zq1 BK325), GW325.out, GE325.out, NB310_325.out, NB325_310.out, NB311_325.out, NB325_311.out, (z6_1 HB)⟩)
   rintro gb325 w19 ⟨hS_, h0_, h1_, h2_, h3_, h4_, h5_, h6_, h7_, h8_, h9_⟩
   have n0_ : Aside0 (w19.heap[gb310]? = some (.cells #[.int .i64 a0_0, .int .i64 a0_1, .int .i64 a0_2, .int .i64 a0_3] 25 (0, 0))) := ⟨h0_⟩
   have n1_ : Aside0 (w19.heap[gb311]? = some (.cells #[.int .i64 a1_0, .int .i64 a1_1, .int .i64 a1_2, .int .i64 a1_3] 25 (0, 0))) := ⟨h1_⟩
   have BK325 : Aside0 (w19.heap[gb325]? = some (.cells #[.int .i64 0, .int .i64 0, .int .i64 0, .int .i64 0] 29 (0, 0))) := ⟨h2_⟩
   have GW325 : Aside0 (w.heap.size ≤ gb325) := ⟨h3_⟩
   have GE325 : Aside0 (w.heap.size ≤ gb325) := ⟨h4_⟩
   have NB310_325 : Aside0 (gb310 ≠ gb325) := ⟨h5_⟩
   have NB325_310 : Aside0 (gb325 ≠ gb310) := ⟨h6_⟩
   have NB311_325 : Aside0 (gb311 ≠ gb325) := ⟨h7_⟩
   have NB325_311 : Aside0 (gb325 ≠ gb311) := ⟨h8_⟩
   have n9_ : Aside0 (Below w.heap.size w w19) := ⟨h9_⟩
   clear BK310 BK311 HB h0_ h1_ h2_ h3_ h4_ h5_ h6_ h7_ h8_ h9_
   have BK310 := n0_; have BK311 := n1_; have HB := n9_
   clear n0_ n1_ n9_
   have hHeld : w19.cell? ⟨gb310, 0, none⟩ = some (.int .i64 a0_0) ∧ w19.cell? ⟨gb310, 1, none⟩ = some (.int .i64 a0_1) ∧ w19.cell? ⟨gb310, 2, none⟩ = some (.int .i64 a0_2) ∧ w19.cell? ⟨gb310, 3, none⟩ = some (.int .i64 a0_3) ∧ w19.cell? ⟨gb311, 0, none⟩ = some (.int .i64 a1_0) ∧ w19.cell? ⟨gb311, 1, none⟩ = some (.int .i64 a1_1) ∧ w19.cell? ⟨gb311, 2, none⟩ = some (.int .i64 a1_2) ∧ w19.cell? ⟨gb311, 3, none⟩ = some (.int .i64 a1_3) := hS_
   refine norm_ (a' := ?_) ?_ ?_
   rotate_left
   ·
    simp only [putAll, Act.put, List.setIfInBounds_toArray, List.set_cons_zero, List.set_cons_succ]
    rfl
   refine one_ (i := 9) (N := none) #[true, true, true, true, true, true, true, true, true, true, false] rfl rfl (one_of HT_.out (by kernel_rfl)) (by decide) (fun K hK => ?_)
   have hs20 : w19.cell? ⟨gb325, 0, none⟩ = some (.int .i64 0) := zc BK325 0
   have hfs20 := blk_frozen BK325.out 0
   have hns20_0 := NB310_325.out
   have hns20_1 := NB311_325.out
   have hms20_0 := NB325_310.out
   have hms20_1 := NB325_311.out
   have hs21 : w19.cell? ⟨gb325, 1, none⟩ = some (.int .i64 0) := zc BK325 1
   have hfs21 := blk_frozen BK325.out 1
   have hns21_0 := NB310_325.out
   have hns21_1 := NB311_325.out
   have hms21_0 := NB325_310.out
   have hms21_1 := NB325_311.out
   have hs22 : w19.cell? ⟨gb325, 2, none⟩ = some (.int .i64 0) := zc BK325 2
   have hfs22 := blk_frozen BK325.out 2
   have hns22_0 := NB310_325.out
   have hns22_1 := NB311_325.out
   have hms22_0 := NB325_310.out
   have hms22_1 := NB325_311.out
   have hs23 : w19.cell? ⟨gb325, 3, none⟩ = some (.int .i64 0) := zc BK325 3
   have hfs23 := blk_frozen BK325.out 3
   have hns23_0 := NB310_325.out
   have hns23_1 := NB311_325.out
   have hms23_0 := NB325_310.out
   have hms23_1 := NB325_311.out
   refine skip_ (w1 := ?_) (by rfl) rfl ?_ ?_
   rotate_left
   ·
    go_simp
    rfl
   refine hK.out _ _ ⟨((cell_far (p := ⟨gb325, _, none⟩) NB310_325.out _).trans (((cell_far (p := ⟨gb325, _, none⟩) NB310_325.out _).trans (((cell_far (p := ⟨gb325, _, none⟩) NB310_325.out _).trans (((cell_far (p := ⟨gb325, _, none⟩) NB310_325.out _).trans (hHeld.1)))))))), ((cell_far (p := ⟨gb325, _, none⟩) NB310_325.out _).trans (((cell_far (p := ⟨gb325, _, none⟩) NB310_325.out _).trans (((cell_far (p := ⟨gb325, _, none⟩) NB310_325.out _).trans (((cell_far (p := ⟨gb325, _, none⟩) NB310_325.out _).trans (hHeld.2.1)))))))), ((cell_far (p := ⟨gb325, _, none⟩) NB310_325.out _).trans (((cell_far (p := ⟨gb325, _, none⟩) NB310_325.out _).trans (((cell_far (p := ⟨gb325, _, none⟩) NB310_325.out _).trans (((cell_far (p := ⟨gb325, _, none⟩) NB310_325.out _).trans (hHeld.2.2.1)))))))), ((cell_far (p := ⟨gb325, _, none⟩) NB310_325.out _).trans (((cell_far (p := ⟨gb325, _, none⟩) NB310_325.out _).trans (((cell_far (p := ⟨gb325, _, none⟩) NB310_325.out _).trans (((cell_far (p := ⟨gb325, _, none⟩) NB310_325.out _).trans (hHeld.2.2.2.1)))))))), ((cell_far (p := ⟨gb325, _, none⟩) NB311_325.out _).trans (((cell_far (p := ⟨gb325, _, none⟩) NB311_325.out _).trans (((cell_far (p := ⟨gb325, _, none⟩) NB311_325.out _).trans (((cell_far (p := ⟨gb325, _, none⟩) NB311_325.out _).trans (hHeld.2.2.2.2.1)))))))), ((cell_far (p := ⟨gb325, _, none⟩) NB311_325.out _).trans (((cell_far (p := ⟨gb325, _, none⟩) NB311_325.out _).trans (((cell_far (p := ⟨gb325, _, none⟩) NB311_325.out _).trans (((cell_far (p := ⟨gb325, _, none⟩) NB311_325.out _).trans (hHeld.2.2.2.2.2.1)))))))), ((cell_far (p := ⟨gb325, _, none⟩) NB311_325.out _).trans (((cell_far (p := ⟨gb325, _, none⟩) NB311_325.out _).trans (((cell_far (p := ⟨gb325, _, none⟩) NB311_325.out _).trans (((cell_far (p := ⟨gb325, _, none⟩) NB311_325.out _).trans (hHeld.2.2.2.2.2.2.1)))))))), ((cell_far (p := ⟨gb325, _, none⟩) NB311_325.out _).trans (((cell_far (p := ⟨gb325, _, none⟩) NB311_325.out _).trans (((cell_far (p := ⟨gb325, _, none⟩) NB311_325.out _).trans (((cell_far (p := ⟨gb325, _, none⟩) NB311_325.out _).trans (hHeld.2.2.2.2.2.2.2))))))))⟩ (fun hHeld => ?_)
   clear hK K
   refine pure_ (i := 10) (N := some 6) (v := ?_) (a' := ?_) #[true, true, true, true, true, true, true, true, true, true, true] rfl rfl (any_of HT_.out (by kernel_rfl)) (fun _ _ _ h => h) (Or.inl ⟨by rfl, ?_⟩) ?_ ?_
   rotate_left
   ·
    intro w'
    go_simp
    with_reducible rfl
   rotate_left
   ·
    simp only [Act.put, List.setIfInBounds_toArray, List.set_cons_zero, List.set_cons_succ, i64_w, i32_w]
    rfl
   refine done_ (done_of HT_.out (by kernel_rfl)) ?_
   try go_wp2
   have n0_ : Aside0 (((((w19.setCell ⟨gb325, 0, none⟩ (.int .i64 t320)).setCell ⟨gb325, 1, none⟩ (.int .i64 t321)).setCell ⟨gb325, 2, none⟩ (.int .i64 t322)).setCell ⟨gb325, 3, none⟩ (.int .i64 t323)).heap[gb310]? = some (.cells #[.int .i64 a0_0, .int .i64 a0_1, .int .i64 a0_2, .int .i64 a0_3] 25 (0, 0))) := ⟨zq5 BK310⟩
   have n1_ : Aside0 (((((w19.setCell ⟨gb325, 0, none⟩ (.int .i64 t320)).setCell ⟨gb325, 1, none⟩ (.int .i64 t321)).setCell ⟨gb325, 2, none⟩ (.int .i64 t322)).setCell ⟨gb325, 3, none⟩ (.int .i64 t323)).heap[gb311]? = some (.cells #[.int .i64 a1_0, .int .i64 a1_1, .int .i64 a1_2, .int .i64 a1_3] 25 (0, 0))) := ⟨zq5 BK311⟩
   have n2_ : Aside0 (((((w19.setCell ⟨gb325, 0, none⟩ (.int .i64 t320)).setCell ⟨gb325, 1, none⟩ (.int .i64 t321)).setCell ⟨gb325, 2, none⟩ (.int .i64 t322)).setCell ⟨gb325, 3, none⟩ (.int .i64 t323)).heap[gb325]? = some (.cells #[.int .i64 t320, .int .i64 t321, .int .i64 t322, .int .i64 t323] 29 (0, 0))) := ⟨by (with_reducible repeat (first | refine blk_drewN ?_ _ | refine blk_drew ?_ | refine blk_alloc ?_ _)); refine blk_put (cs := #[.int .i64 t320, .int .i64 t321, .int .i64 t322, .int .i64 0]) ?_ 3 _ rfl; (with_reducible repeat (first | refine blk_drewN ?_ _ | refine blk_drew ?_ | refine blk_alloc ?_ _)); refine blk_put (cs := #[.int .i64 t320, .int .i64 t321, .int .i64 0, .int .i64 0]) ?_ 2 _ rfl; (with_reducible repeat (first | refine blk_drewN ?_ _ | refine blk_drew ?_ | refine blk_alloc ?_ _)); refine blk_put (cs := #[.int .i64 t320, .int .i64 0, .int .i64 0, .int .i64 0]) ?_ 1 _ rfl; (with_reducible repeat (first | refine blk_drewN ?_ _ | refine blk_drew ?_ | refine blk_alloc ?_ _)); refine blk_put (cs := #[.int .i64 0, .int .i64 0, .int .i64 0, .int .i64 0]) ?_ 0 _ rfl; (with_reducible repeat (first | refine blk_drewN ?_ _ | refine blk_drew ?_ | refine blk_alloc ?_ _)); exact BK325.out⟩
   have n3_ : Aside0 (Below w.heap.size w ((((w19.setCell ⟨gb325, 0, none⟩ (.int .i64 t320)).setCell ⟨gb325, 1, none⟩ (.int .i64 t321)).setCell ⟨gb325, 2, none⟩ (.int .i64 t322)).setCell ⟨gb325, 3, none⟩ (.int .i64 t323))) := ⟨(z6_1 HB)⟩
   (try clear BK310)
   (try clear BK311)
   (try clear BK325)
   (try clear HB)
   generalize ((((w19.setCell ⟨gb325, 0, none⟩ (.int .i64 t320)).setCell ⟨gb325, 1, none⟩ (.int .i64 t321)).setCell ⟨gb325, 2, none⟩ (.int .i64 t322)).setCell ⟨gb325, 3, none⟩ (.int .i64 t323)) = w24 at n0_ n1_ n2_ n3_ ⊢
   have BK310 := n0_; have BK311 := n1_; have BK325 := n2_; have HB := n3_
   clear n0_ n1_ n2_ n3_
   have n0_ := Aside0.mk (blk_drew BK310.out)
   have n1_ := Aside0.mk (blk_drew BK311.out)
   have n2_ := Aside0.mk (blk_drew BK325.out)
   have n3_ := Aside0.mk (below_drew1 HB.out)
   clear BK310 BK311 BK325 HB
   have BK310 := n0_; have BK311 := n1_; have BK325 := n2_; have HB := n3_
   clear n0_ n1_ n2_ n3_
   refine start_ (n := 11) (S := fun w' => w'.cell? ⟨gb310, 0, none⟩ = some (.int .i64 a0_0) ∧ w'.cell? ⟨gb310, 1, none⟩ = some (.int .i64 a0_1) ∧ w'.cell? ⟨gb310, 2, none⟩ = some (.int .i64 a0_2) ∧ w'.cell? ⟨gb310, 3, none⟩ = some (.int .i64 a0_3) ∧ w'.cell? ⟨gb311, 0, none⟩ = some (.int .i64 a1_0) ∧ w'.cell? ⟨gb311, 1, none⟩ = some (.int .i64 a1_1) ∧ w'.cell? ⟨gb311, 2, none⟩ = some (.int .i64 a1_2) ∧ w'.cell? ⟨gb311, 3, none⟩ = some (.int .i64 a1_3)) (ds := []) #[false, false, false, false, false, false, false, false, false, false, false] (by kernel_rfl) rfl rfl ⟨zc BK310 0, zc BK310 1, zc BK310 2, zc BK310 3, zc BK311 0, zc BK311 1, zc BK311 2, zc BK311 3⟩ (fun hHeld => ?_); refine with_tabW laws_FnExactHullOf.tab2 laws_FnExactHullOf.bits2 (fun HT_ HW_ => ?_)
   generalize w24.drew = w25 at BK310 BK311 BK325 HB hHeld ⊢
   refine take_ (i := 0) (N := some 18) (v := ?_) (a' := ?_) #[true, false, false, false, false, false, false, false, false, false, false] rfl rfl (take_ofW HT_.out HW_.out (by kernel_rfl)) (fun _ _ _ h => h) (Or.inl ⟨by rfl, ?_⟩) hHeld ?_ ?_
   rotate_left
   ·
    rintro w' ⟨s0, s1, s2, s3, s4, s5, s6, s7⟩
    go_simp
    with_reducible rfl
   rotate_left
   ·
    simp only [Act.put, List.setIfInBounds_toArray, List.set_cons_zero, List.set_cons_succ, i64_w, i32_w]
    rfl
   refine take_ (i := 2) (N := some 20) (v := ?_) (a' := ?_) #[true, false, true, false, false, false, false, false, false, false, false] rfl rfl (take_ofW HT_.out HW_.out (by kernel_rfl)) (fun _ _ _ h => h) (Or.inl ⟨by rfl, ?_⟩) hHeld ?_ ?_
   rotate_left
   ·
    rintro w' ⟨s0, s1, s2, s3, s4, s5, s6, s7⟩
    go_simp
    with_reducible rfl
   rotate_left
   ·
    simp only [Act.put, List.setIfInBounds_toArray, List.set_cons_zero, List.set_cons_succ, i64_w, i32_w]
    rfl
   refine join_ (σ := Nat) 2 #[true, true, true, true, true, true, true, true, true, false, false] (fun s_ => [(19, .agg #[.int .i64 t326, .int .i64 t327, .int .i64 t328, .int .i64 t329]), (21, .agg #[.int .i64 t330, .int .i64 t331, .int .i64 t332, .int .i64 t333]), (22, .tuple #[.agg #[.int .i64 t334, .int .i64 t335, .int .i64 t336, .int .i64 t337], .bool t338]), (7, .pointer (some ⟨s_, 0, none⟩)), (17, .tuple #[.agg #[.int .i64 t334, .int .i64 t335, .int .i64 t336, .int .i64 t337], .bool t338]), (23, .agg #[.int .i64 t334, .int .i64 t335, .int .i64 t336, .int .i64 t337]), (24, .bool t338)]) (fun s_ w' => (w'.cell? ⟨gb310, 0, none⟩ = some (.int .i64 a0_0) ∧ w'.cell? ⟨gb310, 1, none⟩ = some (.int .i64 a0_1) ∧ w'.cell? ⟨gb310, 2, none⟩ = some (.int .i64 a0_2) ∧ w'.cell? ⟨gb310, 3, none⟩ = some (.int .i64 a0_3) ∧ w'.cell? ⟨gb311, 0, none⟩ = some (.int .i64 a1_0) ∧ w'.cell? ⟨gb311, 1, none⟩ = some (.int .i64 a1_1) ∧ w'.cell? ⟨gb311, 2, none⟩ = some (.int .i64 a1_2) ∧ w'.cell? ⟨gb311, 3, none⟩ = some (.int .i64 a1_3)) ∧ (w'.heap[gb310]? = some (.cells #[.int .i64 a0_0, .int .i64 a0_1, .int .i64 a0_2, .int .i64 a0_3] 25 (0, 0))) ∧ (w'.heap[gb311]? = some (.cells #[.int .i64 a1_0, .int .i64 a1_1, .int .i64 a1_2, .int .i64 a1_3] 25 (0, 0))) ∧ (w'.heap[gb325]? = some (.cells #[.int .i64 t320, .int .i64 t321, .int .i64 t322, .int .i64 t323] 29 (0, 0))) ∧ (w'.heap[s_]? = some (.cells #[.int .i64 0, .int .i64 0, .int .i64 0, .int .i64 0] 29 (0, 0))) ∧ (w.heap.size ≤ s_) ∧ (w.heap.size ≤ s_) ∧ (gb310 ≠ s_) ∧ (s_ ≠ gb310) ∧ (gb311 ≠ s_) ∧ (s_ ≠ gb311) ∧ (gb325 ≠ s_) ∧ (s_ ≠ gb325) ∧ (Below w.heap.size w w')) ?_ ?_
   rotate_left
   ·
    intro hCont
    refine two_ (i := 1) (j := 8) (Ni := some 19) (Nj := some 7) #[true, true, true, false, false, false, false, false, false, false, false] #[true, false, true, false, false, false, false, false, true, false, false] rfl rfl rfl rfl (two_of HT_.out (by kernel_rfl)) (by decide) (by decide) (fun K hK => ?_) (fun K hK => ?_)
    ·
     refine goes_ Try.func16 (by kernel_rfl) rfl #[.agg #[.int .i64 a0_0, .int .i64 a0_1, .int .i64 a0_2, .int .i64 a0_3]] (by rfl) rfl rfl (by (try simp only [List.map_toArray, List.map_cons, List.map_nil]); first | done | rfl | (simp only [List.length_drop, List.length_take]; rfl)) ?_
     with_reducible refine (laws_toInterval.calls a0_0 a0_1 a0_2 a0_3 t326 t327 t328 t329 _ A6.out).mono ?_
     rintro e w26 ⟨rfl, hb⟩
     refine ⟨_, rfl, ?_⟩
     have n0_ := Aside0.mk (zbb BK310 hb)
     have n1_ := Aside0.mk (zbb BK311 hb)
     have n2_ := Aside0.mk (zbb BK325 hb)
     have n3_ := Aside0.mk (below_step (z6_1 HB) hb)
     clear BK310 BK311 BK325 HB
     have BK310 := n0_; have BK311 := n1_; have BK325 := n2_; have HB := n3_
     clear n0_ n1_ n2_ n3_
     (try clear hb)
     (try clear hb2)
     (try clear hk)
     (try clear hi)
     refine hK.out _ _ ⟨zc BK310 0, zc BK310 1, zc BK310 2, zc BK310 3, zc BK311 0, zc BK311 1, zc BK311 2, zc BK311 3⟩ (fun hHeld => ?_)
     clear hK K
     refine norm_ (a' := ?_) ?_ ?_
     rotate_left
     ·
      show Act.put _ (some 19) _ = _
      simp only [Act.put, List.setIfInBounds_toArray, List.set_cons_zero, List.set_cons_succ, i64_w, i32_w]; rfl
     refine two_ (i := 3) (j := 8) (Ni := some 21) (Nj := some 7) #[true, true, true, true, false, false, false, false, false, false, false] #[true, true, true, false, false, false, false, false, true, false, false] rfl rfl rfl rfl (two_of HT_.out (by kernel_rfl)) (by decide) (by decide) (fun K hK => ?_) (fun K hK => ?_)
     ·
      refine goes_ Try.func16 (by kernel_rfl) rfl #[.agg #[.int .i64 a1_0, .int .i64 a1_1, .int .i64 a1_2, .int .i64 a1_3]] (by rfl) rfl rfl (by (try simp only [List.map_toArray, List.map_cons, List.map_nil]); first | done | rfl | (simp only [List.length_drop, List.length_take]; rfl)) ?_
      with_reducible refine (laws_toInterval.calls a1_0 a1_1 a1_2 a1_3 t330 t331 t332 t333 _ A7.out).mono ?_
      rintro e w27 ⟨rfl, hb⟩
      refine ⟨_, rfl, ?_⟩
      have n0_ := Aside0.mk (zbb BK310 hb)
      have n1_ := Aside0.mk (zbb BK311 hb)
      have n2_ := Aside0.mk (zbb BK325 hb)
      have n3_ := Aside0.mk (below_step (z6_1 HB) hb)
      clear BK310 BK311 BK325 HB
      have BK310 := n0_; have BK311 := n1_; have BK325 := n2_; have HB := n3_
      clear n0_ n1_ n2_ n3_
      (try clear hb)
      (try clear hb2)
      (try clear hk)
      (try clear hi)
      refine hK.out _ _ ⟨zc BK310 0, zc BK310 1, zc BK310 2, zc BK310 3, zc BK311 0, zc BK311 1, zc BK311 2, zc BK311 3⟩ (fun hHeld => ?_)
      clear hK K
      refine norm_ (a' := ?_) ?_ ?_
      rotate_left
      ·
       show Act.put _ (some 21) _ = _
       simp only [Act.put, List.setIfInBounds_toArray, List.set_cons_zero, List.set_cons_succ, i64_w, i32_w]; rfl
      refine two_ (i := 4) (j := 8) (Ni := some 22) (Nj := some 7) #[true, true, true, true, true, false, false, false, false, false, false] #[true, true, true, true, false, false, false, false, true, false, false] rfl rfl rfl rfl (two_of HT_.out (by kernel_rfl)) (by decide) (by decide) (fun K hK => ?_) (fun K hK => ?_)
      ·
       refine goes_ Try.func23 (by kernel_rfl) rfl #[.agg #[.int .i64 t326, .int .i64 t327, .int .i64 t328, .int .i64 t329], .agg #[.int .i64 t330, .int .i64 t331, .int .i64 t332, .int .i64 t333]] (by rfl) rfl rfl (by (try simp only [List.map_toArray, List.map_cons, List.map_nil]); first | done | rfl | (simp only [List.length_drop, List.length_take]; rfl)) ?_
       with_reducible refine (impl_HullOf.calls k t326 t327 t328 t329 t330 t331 t332 t333 t334 t335 t336 t337 t338 _ A8.out).mono ?_
       rintro e w28 ⟨rfl, hb⟩
       refine ⟨_, rfl, ?_⟩
       have n0_ := Aside0.mk (zbb BK310 hb)
       have n1_ := Aside0.mk (zbb BK311 hb)
       have n2_ := Aside0.mk (zbb BK325 hb)
       have n3_ := Aside0.mk (below_step (z6_1 HB) hb)
       clear BK310 BK311 BK325 HB
       have BK310 := n0_; have BK311 := n1_; have BK325 := n2_; have HB := n3_
       clear n0_ n1_ n2_ n3_
       (try clear hb)
       (try clear hb2)
       (try clear hk)
       (try clear hi)
       refine hK.out _ _ ⟨zc BK310 0, zc BK310 1, zc BK310 2, zc BK310 3, zc BK311 0, zc BK311 1, zc BK311 2, zc BK311 3⟩ (fun hHeld => ?_)
       clear hK K
       refine norm_ (a' := ?_) ?_ ?_
       rotate_left
       ·
        show Act.put _ (some 22) _ = _
        simp only [Act.put, List.setIfInBounds_toArray, List.set_cons_zero, List.set_cons_succ, i64_w, i32_w]; rfl
       refine pure_ (i := 5) (N := some 17) (v := ?_) (a' := ?_) #[true, true, true, true, true, true, false, false, false, false, false] rfl rfl (any_of HT_.out (by kernel_rfl)) (fun _ _ _ h => h) (Or.inl ⟨by rfl, ?_⟩) ?_ ?_
       rotate_left
       ·
        intro w'
        go_simp
        with_reducible rfl
       rotate_left
       ·
        simp only [Act.put, List.setIfInBounds_toArray, List.set_cons_zero, List.set_cons_succ, i64_w, i32_w]
        rfl
       refine pure_ (i := 6) (N := some 23) (v := ?_) (a' := ?_) #[true, true, true, true, true, true, true, false, false, false, false] rfl rfl (any_of HT_.out (by kernel_rfl)) (fun _ _ _ h => h) (Or.inl ⟨by rfl, ?_⟩) ?_ ?_
       rotate_left
       ·
        intro w'
        go_simp
        with_reducible rfl
       rotate_left
       ·
        simp only [Act.put, List.setIfInBounds_toArray, List.set_cons_zero, List.set_cons_succ, i64_w, i32_w]
        rfl
       refine pure_ (i := 7) (N := some 24) (v := ?_) (a' := ?_) #[true, true, true, true, true, true, true, true, false, false, false] rfl rfl (any_of HT_.out (by kernel_rfl)) (fun _ _ _ h => h) (Or.inl ⟨by rfl, ?_⟩) ?_ ?_
       rotate_left
       ·
        intro w'
        go_simp
        with_reducible rfl
       rotate_left
       ·
        simp only [Act.put, List.setIfInBounds_toArray, List.set_cons_zero, List.set_cons_succ, i64_w, i32_w]
        rfl
       refine one_ (i := 8) (N := some 7) #[true, true, true, true, true, true, true, true, true, false, false] rfl rfl (one_of HT_.out (by kernel_rfl)) (by decide) (fun K hK => ?_)
       refine box_step ?hg (N := 7) ?hd (cs := #[.int .i64 0, .int .i64 0, .int .i64 0, .int .i64 0]) (t := 29) ?hr ?_; (case hd => rfl); (case hg => rfl); (case hr => first | (go_simp; done) | (go_simp; rfl))
       intro gb339 hg w29 hbox hb
       have n0_ := Aside0.mk (zbb BK310 hb)
       have n1_ := Aside0.mk (zbb BK311 hb)
       have n2_ := Aside0.mk (zbb BK325 hb)
       have n3_ := Aside0.mk (below_step (z6_1 HB) hb)
       have BK339 := Aside0.mk (hbox)
       have GW339 := Aside0.mk ((by rw [hg]; exact (below_size (z6_1 HB)) : w.heap.size ≤ gb339))
       have GE339 := Aside0.mk ((by rw [hg]; exact (below_size (z6_1 HB)) : w.heap.size ≤ gb339))
       have NB310_339 := Aside0.mk (zlt BK310 hg)
       have NB339_310 := Aside0.mk (zgt BK310 hg)
       have NB311_339 := Aside0.mk (zlt BK311 hg)
       have NB339_311 := Aside0.mk (zgt BK311 hg)
       have NB325_339 := Aside0.mk (zlt BK325 hg)
       have NB339_325 := Aside0.mk (zgt BK325 hg)
       clear BK310 BK311 BK325 HB
       have BK310 := n0_; have BK311 := n1_; have BK325 := n2_; have HB := n3_
       clear n0_ n1_ n2_ n3_ hb hbox hg
       refine hK.out _ _ ⟨zc BK310 0, zc BK310 1, zc BK310 2, zc BK310 3, zc BK311 0, zc BK311 1, zc BK311 2, zc BK311 3⟩ (fun hHeld => ?_)
       clear hK K
       refine norm_ (a' := ?_) ?_ ?_
       rotate_left
       ·
        show Act.put _ (some 7) _ = _
        simp only [Act.put, List.setIfInBounds_toArray, List.set_cons_zero, List.set_cons_succ, i64_w, i32_w]; rfl
       exact norm_ (by simp only [putAll, Act.put, List.setIfInBounds_toArray, List.set_cons_zero, List.set_cons_succ]) (hCont (gb339) _ ⟨hHeld, (zq1 BK310), (zq1 BK311), (zq1 BK325), (zq1 BK339), GW339.out, GE339.out, NB310_339.out, NB339_310.out, NB311_339.out, NB339_311.out, NB325_339.out, NB339_325.out, (z6_1 HB)⟩)
      ·
       refine box_step ?hg (N := 7) ?hd (cs := #[.int .i64 0, .int .i64 0, .int .i64 0, .int .i64 0]) (t := 29) ?hr ?_; (case hd => rfl); (case hg => rfl); (case hr => first | (go_simp; done) | (go_simp; rfl))
       intro gb339 hg w28 hbox hb
       have n0_ := Aside0.mk (zbb BK310 hb)
       have n1_ := Aside0.mk (zbb BK311 hb)
       have n2_ := Aside0.mk (zbb BK325 hb)
       have n3_ := Aside0.mk (below_step (z6_1 HB) hb)
       have BK339 := Aside0.mk (hbox)
       have GW339 := Aside0.mk ((by rw [hg]; exact (below_size (z6_1 HB)) : w.heap.size ≤ gb339))
       have GE339 := Aside0.mk ((by rw [hg]; exact (below_size (z6_1 HB)) : w.heap.size ≤ gb339))
       have NB310_339 := Aside0.mk (zlt BK310 hg)
       have NB339_310 := Aside0.mk (zgt BK310 hg)
       have NB311_339 := Aside0.mk (zlt BK311 hg)
       have NB339_311 := Aside0.mk (zgt BK311 hg)
       have NB325_339 := Aside0.mk (zlt BK325 hg)
       have NB339_325 := Aside0.mk (zgt BK325 hg)
       clear BK310 BK311 BK325 HB
       have BK310 := n0_; have BK311 := n1_; have BK325 := n2_; have HB := n3_
       clear n0_ n1_ n2_ n3_ hb hbox hg
       refine hK.out _ _ ⟨zc BK310 0, zc BK310 1, zc BK310 2, zc BK310 3, zc BK311 0, zc BK311 1, zc BK311 2, zc BK311 3⟩ (fun hHeld => ?_)
       clear hK K
       refine norm_ (a' := ?_) ?_ ?_
       rotate_left
       ·
        show Act.put _ (some 7) _ = _
        simp only [Act.put, List.setIfInBounds_toArray, List.set_cons_zero, List.set_cons_succ, i64_w, i32_w]; rfl
       refine one_ (i := 4) (N := some 22) #[true, true, true, true, true, false, false, false, true, false, false] rfl rfl (one_of HT_.out (by kernel_rfl)) (by decide) (fun K hK => ?_)
       refine goes_ Try.func23 (by kernel_rfl) rfl #[.agg #[.int .i64 t326, .int .i64 t327, .int .i64 t328, .int .i64 t329], .agg #[.int .i64 t330, .int .i64 t331, .int .i64 t332, .int .i64 t333]] (by rfl) rfl rfl (by (try simp only [List.map_toArray, List.map_cons, List.map_nil]); first | done | rfl | (simp only [List.length_drop, List.length_take]; rfl)) ?_
       with_reducible refine (impl_HullOf.calls k t326 t327 t328 t329 t330 t331 t332 t333 t334 t335 t336 t337 t338 _ A8.out).mono ?_
       rintro e w29 ⟨rfl, hb⟩
       refine ⟨_, rfl, ?_⟩
       have n0_ := Aside0.mk (zbb BK310 hb)
       have n1_ := Aside0.mk (zbb BK311 hb)
       have n2_ := Aside0.mk (zbb BK325 hb)
       have n3_ := Aside0.mk (zbb BK339 hb)
       have n4_ := Aside0.mk (below_step (z6_1 HB) hb)
       clear BK310 BK311 BK325 BK339 HB
       have BK310 := n0_; have BK311 := n1_; have BK325 := n2_; have BK339 := n3_; have HB := n4_
       clear n0_ n1_ n2_ n3_ n4_
       (try clear hb)
       (try clear hb2)
       (try clear hk)
       (try clear hi)
       refine hK.out _ _ ⟨zc BK310 0, zc BK310 1, zc BK310 2, zc BK310 3, zc BK311 0, zc BK311 1, zc BK311 2, zc BK311 3⟩ (fun hHeld => ?_)
       clear hK K
       refine norm_ (a' := ?_) ?_ ?_
       rotate_left
       ·
        show Act.put _ (some 22) _ = _
        simp only [Act.put, List.setIfInBounds_toArray, List.set_cons_zero, List.set_cons_succ, i64_w, i32_w]; rfl
       refine pure_ (i := 5) (N := some 17) (v := ?_) (a' := ?_) #[true, true, true, true, true, true, false, false, true, false, false] rfl rfl (any_of HT_.out (by kernel_rfl)) (fun _ _ _ h => h) (Or.inl ⟨by rfl, ?_⟩) ?_ ?_
       rotate_left
       ·
        intro w'
        go_simp
        with_reducible rfl
       rotate_left
       ·
        simp only [Act.put, List.setIfInBounds_toArray, List.set_cons_zero, List.set_cons_succ, i64_w, i32_w]
        rfl
       refine pure_ (i := 6) (N := some 23) (v := ?_) (a' := ?_) #[true, true, true, true, true, true, true, false, true, false, false] rfl rfl (any_of HT_.out (by kernel_rfl)) (fun _ _ _ h => h) (Or.inl ⟨by rfl, ?_⟩) ?_ ?_
       rotate_left
       ·
        intro w'
        go_simp
        with_reducible rfl
       rotate_left
       ·
        simp only [Act.put, List.setIfInBounds_toArray, List.set_cons_zero, List.set_cons_succ, i64_w, i32_w]
        rfl
       refine pure_ (i := 7) (N := some 24) (v := ?_) (a' := ?_) #[true, true, true, true, true, true, true, true, true, false, false] rfl rfl (any_of HT_.out (by kernel_rfl)) (fun _ _ _ h => h) (Or.inl ⟨by rfl, ?_⟩) ?_ ?_
       rotate_left
       ·
        intro w'
        go_simp
        with_reducible rfl
       rotate_left
       ·
        simp only [Act.put, List.setIfInBounds_toArray, List.set_cons_zero, List.set_cons_succ, i64_w, i32_w]
        rfl
       exact norm_ (by simp only [putAll, Act.put, List.setIfInBounds_toArray, List.set_cons_zero, List.set_cons_succ]) (hCont (gb339) _ ⟨hHeld, (zq1 BK310), (zq1 BK311), (zq1 BK325), (zq1 BK339), GW339.out, GE339.out, NB310_339.out, NB339_310.out, NB311_339.out, NB339_311.out, NB325_339.out, NB339_325.out, (z6_1 HB)⟩)
     ·
      refine box_step ?hg (N := 7) ?hd (cs := #[.int .i64 0, .int .i64 0, .int .i64 0, .int .i64 0]) (t := 29) ?hr ?_; (case hd => rfl); (case hg => rfl); (case hr => first | (go_simp; done) | (go_simp; rfl))
      intro gb339 hg w27 hbox hb
      have n0_ := Aside0.mk (zbb BK310 hb)
      have n1_ := Aside0.mk (zbb BK311 hb)
      have n2_ := Aside0.mk (zbb BK325 hb)
      have n3_ := Aside0.mk (below_step (z6_1 HB) hb)
      have BK339 := Aside0.mk (hbox)
      have GW339 := Aside0.mk ((by rw [hg]; exact (below_size (z6_1 HB)) : w.heap.size ≤ gb339))
      have GE339 := Aside0.mk ((by rw [hg]; exact (below_size (z6_1 HB)) : w.heap.size ≤ gb339))
      have NB310_339 := Aside0.mk (zlt BK310 hg)
      have NB339_310 := Aside0.mk (zgt BK310 hg)
      have NB311_339 := Aside0.mk (zlt BK311 hg)
      have NB339_311 := Aside0.mk (zgt BK311 hg)
      have NB325_339 := Aside0.mk (zlt BK325 hg)
      have NB339_325 := Aside0.mk (zgt BK325 hg)
      clear BK310 BK311 BK325 HB
      have BK310 := n0_; have BK311 := n1_; have BK325 := n2_; have HB := n3_
      clear n0_ n1_ n2_ n3_ hb hbox hg
      refine hK.out _ _ ⟨zc BK310 0, zc BK310 1, zc BK310 2, zc BK310 3, zc BK311 0, zc BK311 1, zc BK311 2, zc BK311 3⟩ (fun hHeld => ?_)
      clear hK K
      refine norm_ (a' := ?_) ?_ ?_
      rotate_left
      ·
       show Act.put _ (some 7) _ = _
       simp only [Act.put, List.setIfInBounds_toArray, List.set_cons_zero, List.set_cons_succ, i64_w, i32_w]; rfl
      refine one_ (i := 3) (N := some 21) #[true, true, true, true, false, false, false, false, true, false, false] rfl rfl (one_of HT_.out (by kernel_rfl)) (by decide) (fun K hK => ?_)
      refine goes_ Try.func16 (by kernel_rfl) rfl #[.agg #[.int .i64 a1_0, .int .i64 a1_1, .int .i64 a1_2, .int .i64 a1_3]] (by rfl) rfl rfl (by (try simp only [List.map_toArray, List.map_cons, List.map_nil]); first | done | rfl | (simp only [List.length_drop, List.length_take]; rfl)) ?_
      with_reducible refine (laws_toInterval.calls a1_0 a1_1 a1_2 a1_3 t330 t331 t332 t333 _ A7.out).mono ?_
      rintro e w28 ⟨rfl, hb⟩
      refine ⟨_, rfl, ?_⟩
      have n0_ := Aside0.mk (zbb BK310 hb)
      have n1_ := Aside0.mk (zbb BK311 hb)
      have n2_ := Aside0.mk (zbb BK325 hb)
      have n3_ := Aside0.mk (zbb BK339 hb)
      have n4_ := Aside0.mk (below_step (z6_1 HB) hb)
      clear BK310 BK311 BK325 BK339 HB
      have BK310 := n0_; have BK311 := n1_; have BK325 := n2_; have BK339 := n3_; have HB := n4_
      clear n0_ n1_ n2_ n3_ n4_
      (try clear hb)
      (try clear hb2)
      (try clear hk)
      (try clear hi)
      refine hK.out _ _ ⟨zc BK310 0, zc BK310 1, zc BK310 2, zc BK310 3, zc BK311 0, zc BK311 1, zc BK311 2, zc BK311 3⟩ (fun hHeld => ?_)
      clear hK K
      refine norm_ (a' := ?_) ?_ ?_
      rotate_left
      ·
       show Act.put _ (some 21) _ = _
       simp only [Act.put, List.setIfInBounds_toArray, List.set_cons_zero, List.set_cons_succ, i64_w, i32_w]; rfl
      refine one_ (i := 4) (N := some 22) #[true, true, true, true, true, false, false, false, true, false, false] rfl rfl (one_of HT_.out (by kernel_rfl)) (by decide) (fun K hK => ?_)
      refine goes_ Try.func23 (by kernel_rfl) rfl #[.agg #[.int .i64 t326, .int .i64 t327, .int .i64 t328, .int .i64 t329], .agg #[.int .i64 t330, .int .i64 t331, .int .i64 t332, .int .i64 t333]] (by rfl) rfl rfl (by (try simp only [List.map_toArray, List.map_cons, List.map_nil]); first | done | rfl | (simp only [List.length_drop, List.length_take]; rfl)) ?_
      with_reducible refine (impl_HullOf.calls k t326 t327 t328 t329 t330 t331 t332 t333 t334 t335 t336 t337 t338 _ A8.out).mono ?_
      rintro e w29 ⟨rfl, hb⟩
      refine ⟨_, rfl, ?_⟩
      have n0_ := Aside0.mk (zbb BK310 hb)
      have n1_ := Aside0.mk (zbb BK311 hb)
      have n2_ := Aside0.mk (zbb BK325 hb)
      have n3_ := Aside0.mk (zbb BK339 hb)
      have n4_ := Aside0.mk (below_step (z6_1 HB) hb)
      clear BK310 BK311 BK325 BK339 HB
      have BK310 := n0_; have BK311 := n1_; have BK325 := n2_; have BK339 := n3_; have HB := n4_
      clear n0_ n1_ n2_ n3_ n4_
      (try clear hb)
      (try clear hb2)
      (try clear hk)
      (try clear hi)
      refine hK.out _ _ ⟨zc BK310 0, zc BK310 1, zc BK310 2, zc BK310 3, zc BK311 0, zc BK311 1, zc BK311 2, zc BK311 3⟩ (fun hHeld => ?_)
      clear hK K
      refine norm_ (a' := ?_) ?_ ?_
      rotate_left
      ·
       show Act.put _ (some 22) _ = _
       simp only [Act.put, List.setIfInBounds_toArray, List.set_cons_zero, List.set_cons_succ, i64_w, i32_w]; rfl
      refine pure_ (i := 5) (N := some 17) (v := ?_) (a' := ?_) #[true, true, true, true, true, true, false, false, true, false, false] rfl rfl (any_of HT_.out (by kernel_rfl)) (fun _ _ _ h => h) (Or.inl ⟨by rfl, ?_⟩) ?_ ?_
      rotate_left
      ·
       intro w'
       go_simp
       with_reducible rfl
      rotate_left
      ·
       simp only [Act.put, List.setIfInBounds_toArray, List.set_cons_zero, List.set_cons_succ, i64_w, i32_w]
       rfl
      refine pure_ (i := 6) (N := some 23) (v := ?_) (a' := ?_) #[true, true, true, true, true, true, true, false, true, false, false] rfl rfl (any_of HT_.out (by kernel_rfl)) (fun _ _ _ h => h) (Or.inl ⟨by rfl, ?_⟩) ?_ ?_
      rotate_left
      ·
       intro w'
       go_simp
       with_reducible rfl
      rotate_left
      ·
       simp only [Act.put, List.setIfInBounds_toArray, List.set_cons_zero, List.set_cons_succ, i64_w, i32_w]
       rfl
      refine pure_ (i := 7) (N := some 24) (v := ?_) (a' := ?_) #[true, true, true, true, true, true, true, true, true, false, false] rfl rfl (any_of HT_.out (by kernel_rfl)) (fun _ _ _ h => h) (Or.inl ⟨by rfl, ?_⟩) ?_ ?_
      rotate_left
      ·
       intro w'
       go_simp
       with_reducible rfl
      rotate_left
      ·
       simp only [Act.put, List.setIfInBounds_toArray, List.set_cons_zero, List.set_cons_succ, i64_w, i32_w]
       rfl
      exact norm_ (by simp only [putAll, Act.put, List.setIfInBounds_toArray, List.set_cons_zero, List.set_cons_succ]) (hCont (gb339) _ ⟨hHeld, (zq1 BK310), (zq1 BK311), (zq1 BK325), (zq1 BK339), GW339.out, GE339.out, NB310_339.out, NB339_310.out, NB311_339.out, NB339_311.out, NB325_339.out, NB339_325.out, (z6_1 HB)⟩)
    ·
     refine box_step ?hg (N := 7) ?hd (cs := #[.int .i64 0, .int .i64 0, .int .i64 0, .int .i64 0]) (t := 29) ?hr ?_; (case hd => rfl); (case hg => rfl); (case hr => first | (go_simp; done) | (go_simp; rfl))
     intro gb339 hg w26 hbox hb
     have n0_ := Aside0.mk (zbb BK310 hb)
     have n1_ := Aside0.mk (zbb BK311 hb)
     have n2_ := Aside0.mk (zbb BK325 hb)
     have n3_ := Aside0.mk (below_step (z6_1 HB) hb)
     have BK339 := Aside0.mk (hbox)
     have GW339 := Aside0.mk ((by rw [hg]; exact (below_size (z6_1 HB)) : w.heap.size ≤ gb339))
     have GE339 := Aside0.mk ((by rw [hg]; exact (below_size (z6_1 HB)) : w.heap.size ≤ gb339))
     have NB310_339 := Aside0.mk (zlt BK310 hg)
     have NB339_310 := Aside0.mk (zgt BK310 hg)
     have NB311_339 := Aside0.mk (zlt BK311 hg)
     have NB339_311 := Aside0.mk (zgt BK311 hg)
     have NB325_339 := Aside0.mk (zlt BK325 hg)
     have NB339_325 := Aside0.mk (zgt BK325 hg)
     clear BK310 BK311 BK325 HB
     have BK310 := n0_; have BK311 := n1_; have BK325 := n2_; have HB := n3_
     clear n0_ n1_ n2_ n3_ hb hbox hg
     refine hK.out _ _ ⟨zc BK310 0, zc BK310 1, zc BK310 2, zc BK310 3, zc BK311 0, zc BK311 1, zc BK311 2, zc BK311 3⟩ (fun hHeld => ?_)
     clear hK K
     refine norm_ (a' := ?_) ?_ ?_
     rotate_left
     ·
      show Act.put _ (some 7) _ = _
      simp only [Act.put, List.setIfInBounds_toArray, List.set_cons_zero, List.set_cons_succ, i64_w, i32_w]; rfl
     refine one_ (i := 1) (N := some 19) #[true, true, true, false, false, false, false, false, true, false, false] rfl rfl (one_of HT_.out (by kernel_rfl)) (by decide) (fun K hK => ?_)
     refine goes_ Try.func16 (by kernel_rfl) rfl #[.agg #[.int .i64 a0_0, .int .i64 a0_1, .int .i64 a0_2, .int .i64 a0_3]] (by rfl) rfl rfl (by (try simp only [List.map_toArray, List.map_cons, List.map_nil]); first | done | rfl | (simp only [List.length_drop, List.length_take]; rfl)) ?_
     with_reducible refine (laws_toInterval.calls a0_0 a0_1 a0_2 a0_3 t326 t327 t328 t329 _ A6.out).mono ?_
     rintro e w27 ⟨rfl, hb⟩
     refine ⟨_, rfl, ?_⟩
     have n0_ := Aside0.mk (zbb BK310 hb)
     have n1_ := Aside0.mk (zbb BK311 hb)
     have n2_ := Aside0.mk (zbb BK325 hb)
     have n3_ := Aside0.mk (zbb BK339 hb)
     have n4_ := Aside0.mk (below_step (z6_1 HB) hb)
     clear BK310 BK311 BK325 BK339 HB
     have BK310 := n0_; have BK311 := n1_; have BK325 := n2_; have BK339 := n3_; have HB := n4_
     clear n0_ n1_ n2_ n3_ n4_
     (try clear hb)
     (try clear hb2)
     (try clear hk)
     (try clear hi)
     refine hK.out _ _ ⟨zc BK310 0, zc BK310 1, zc BK310 2, zc BK310 3, zc BK311 0, zc BK311 1, zc BK311 2, zc BK311 3⟩ (fun hHeld => ?_)
     clear hK K
     refine norm_ (a' := ?_) ?_ ?_
     rotate_left
     ·
      show Act.put _ (some 19) _ = _
      simp only [Act.put, List.setIfInBounds_toArray, List.set_cons_zero, List.set_cons_succ, i64_w, i32_w]; rfl
     refine one_ (i := 3) (N := some 21) #[true, true, true, true, false, false, false, false, true, false, false] rfl rfl (one_of HT_.out (by kernel_rfl)) (by decide) (fun K hK => ?_)
     refine goes_ Try.func16 (by kernel_rfl) rfl #[.agg #[.int .i64 a1_0, .int .i64 a1_1, .int .i64 a1_2, .int .i64 a1_3]] (by rfl) rfl rfl (by (try simp only [List.map_toArray, List.map_cons, List.map_nil]); first | done | rfl | (simp only [List.length_drop, List.length_take]; rfl)) ?_
     with_reducible refine (laws_toInterval.calls a1_0 a1_1 a1_2 a1_3 t330 t331 t332 t333 _ A7.out).mono ?_
     rintro e w28 ⟨rfl, hb⟩
     refine ⟨_, rfl, ?_⟩
     have n0_ := Aside0.mk (zbb BK310 hb)
     have n1_ := Aside0.mk (zbb BK311 hb)
     have n2_ := Aside0.mk (zbb BK325 hb)
     have n3_ := Aside0.mk (zbb BK339 hb)
     have n4_ := Aside0.mk (below_step (z6_1 HB) hb)
     clear BK310 BK311 BK325 BK339 HB
     have BK310 := n0_; have BK311 := n1_; have BK325 := n2_; have BK339 := n3_; have HB := n4_
     clear n0_ n1_ n2_ n3_ n4_
     (try clear hb)
     (try clear hb2)
     (try clear hk)
     (try clear hi)
     refine hK.out _ _ ⟨zc BK310 0, zc BK310 1, zc BK310 2, zc BK310 3, zc BK311 0, zc BK311 1, zc BK311 2, zc BK311 3⟩ (fun hHeld => ?_)
     clear hK K
     refine norm_ (a' := ?_) ?_ ?_
     rotate_left
     ·
      show Act.put _ (some 21) _ = _
      simp only [Act.put, List.setIfInBounds_toArray, List.set_cons_zero, List.set_cons_succ, i64_w, i32_w]; rfl
     refine one_ (i := 4) (N := some 22) #[true, true, true, true, true, false, false, false, true, false, false] rfl rfl (one_of HT_.out (by kernel_rfl)) (by decide) (fun K hK => ?_)
     refine goes_ Try.func23 (by kernel_rfl) rfl #[.agg #[.int .i64 t326, .int .i64 t327, .int .i64 t328, .int .i64 t329], .agg #[.int .i64 t330, .int .i64 t331, .int .i64 t332, .int .i64 t333]] (by rfl) rfl rfl (by (try simp only [List.map_toArray, List.map_cons, List.map_nil]); first | done | rfl | (simp only [List.length_drop, List.length_take]; rfl)) ?_
     with_reducible refine (impl_HullOf.calls k t326 t327 t328 t329 t330 t331 t332 t333 t334 t335 t336 t337 t338 _ A8.out).mono ?_
     rintro e w29 ⟨rfl, hb⟩
     refine ⟨_, rfl, ?_⟩
     have n0_ := Aside0.mk (zbb BK310 hb)
     have n1_ := Aside0.mk (zbb BK311 hb)
     have n2_ := Aside0.mk (zbb BK325 hb)
     have n3_ := Aside0.mk (zbb BK339 hb)
     have n4_ := Aside0.mk (below_step (z6_1 HB) hb)
     clear BK310 BK311 BK325 BK339 HB
     have BK310 := n0_; have BK311 := n1_; have BK325 := n2_; have BK339 := n3_; have HB := n4_
     clear n0_ n1_ n2_ n3_ n4_
     (try clear hb)
     (try clear hb2)
     (try clear hk)
     (try clear hi)
     refine hK.out _ _ ⟨zc BK310 0, zc BK310 1, zc BK310 2, zc BK310 3, zc BK311 0, zc BK311 1, zc BK311 2, zc BK311 3⟩ (fun hHeld => ?_)
     clear hK K
     refine norm_ (a' := ?_) ?_ ?_
     rotate_left
     ·
      show Act.put _ (some 22) _ = _
      simp only [Act.put, List.setIfInBounds_toArray, List.set_cons_zero, List.set_cons_succ, i64_w, i32_w]; rfl
     refine pure_ (i := 5) (N := some 17) (v := ?_) (a' := ?_) #[true, true, true, true, true, true, false, false, true, false, false] rfl rfl (any_of HT_.out (by kernel_rfl)) (fun _ _ _ h => h) (Or.inl ⟨by rfl, ?_⟩) ?_ ?_
     rotate_left
     ·
      intro w'
      go_simp
      with_reducible rfl
     rotate_left
     ·
      simp only [Act.put, List.setIfInBounds_toArray, List.set_cons_zero, List.set_cons_succ, i64_w, i32_w]
      rfl
     refine pure_ (i := 6) (N := some 23) (v := ?_) (a' := ?_) #[true, true, true, true, true, true, true, false, true, false, false] rfl rfl (any_of HT_.out (by kernel_rfl)) (fun _ _ _ h => h) (Or.inl ⟨by rfl, ?_⟩) ?_ ?_
     rotate_left
     ·
      intro w'
      go_simp
      with_reducible rfl
     rotate_left
     ·
      simp only [Act.put, List.setIfInBounds_toArray, List.set_cons_zero, List.set_cons_succ, i64_w, i32_w]
      rfl
     refine pure_ (i := 7) (N := some 24) (v := ?_) (a' := ?_) #[true, true, true, true, true, true, true, true, true, false, false] rfl rfl (any_of HT_.out (by kernel_rfl)) (fun _ _ _ h => h) (Or.inl ⟨by rfl, ?_⟩) ?_ ?_
     rotate_left
     ·
      intro w'
      go_simp
      with_reducible rfl
     rotate_left
     ·
      simp only [Act.put, List.setIfInBounds_toArray, List.set_cons_zero, List.set_cons_succ, i64_w, i32_w]
      rfl
     exact norm_ (by simp only [putAll, Act.put, List.setIfInBounds_toArray, List.set_cons_zero, List.set_cons_succ]) (hCont (gb339) _ ⟨hHeld, (zq1 BK310), (zq1 BK311), (zq1 BK325), (zq1 BK339), GW339.out, GE339.out, NB310_339.out, NB339_310.out, NB311_339.out, NB339_311.out, NB325_339.out, NB339_325.out, (z6_1 HB)⟩)
   rintro gb339 w30 ⟨hS_, h0_, h1_, h2_, h3_, h4_, h5_, h6_, h7_, h8_, h9_, h10_, h11_, h12_⟩
   have n0_ : Aside0 (w30.heap[gb310]? = some (.cells #[.int .i64 a0_0, .int .i64 a0_1, .int .i64 a0_2, .int .i64 a0_3] 25 (0, 0))) := ⟨h0_⟩
   have n1_ : Aside0 (w30.heap[gb311]? = some (.cells #[.int .i64 a1_0, .int .i64 a1_1, .int .i64 a1_2, .int .i64 a1_3] 25 (0, 0))) := ⟨h1_⟩
   have n2_ : Aside0 (w30.heap[gb325]? = some (.cells #[.int .i64 t320, .int .i64 t321, .int .i64 t322, .int .i64 t323] 29 (0, 0))) := ⟨h2_⟩
   have BK339 : Aside0 (w30.heap[gb339]? = some (.cells #[.int .i64 0, .int .i64 0, .int .i64 0, .int .i64 0] 29 (0, 0))) := ⟨h3_⟩
   have GW339 : Aside0 (w.heap.size ≤ gb339) := ⟨h4_⟩
   have GE339 : Aside0 (w.heap.size ≤ gb339) := ⟨h5_⟩
   have NB310_339 : Aside0 (gb310 ≠ gb339) := ⟨h6_⟩
   have NB339_310 : Aside0 (gb339 ≠ gb310) := ⟨h7_⟩
   have NB311_339 : Aside0 (gb311 ≠ gb339) := ⟨h8_⟩
   have NB339_311 : Aside0 (gb339 ≠ gb311) := ⟨h9_⟩
   have NB325_339 : Aside0 (gb325 ≠ gb339) := ⟨h10_⟩
   have NB339_325 : Aside0 (gb339 ≠ gb325) := ⟨h11_⟩
   have n12_ : Aside0 (Below w.heap.size w w30) := ⟨h12_⟩
   clear BK310 BK311 BK325 HB h0_ h1_ h2_ h3_ h4_ h5_ h6_ h7_ h8_ h9_ h10_ h11_ h12_
   have BK310 := n0_; have BK311 := n1_; have BK325 := n2_; have HB := n12_
   clear n0_ n1_ n2_ n12_
   have hHeld : w30.cell? ⟨gb310, 0, none⟩ = some (.int .i64 a0_0) ∧ w30.cell? ⟨gb310, 1, none⟩ = some (.int .i64 a0_1) ∧ w30.cell? ⟨gb310, 2, none⟩ = some (.int .i64 a0_2) ∧ w30.cell? ⟨gb310, 3, none⟩ = some (.int .i64 a0_3) ∧ w30.cell? ⟨gb311, 0, none⟩ = some (.int .i64 a1_0) ∧ w30.cell? ⟨gb311, 1, none⟩ = some (.int .i64 a1_1) ∧ w30.cell? ⟨gb311, 2, none⟩ = some (.int .i64 a1_2) ∧ w30.cell? ⟨gb311, 3, none⟩ = some (.int .i64 a1_3) := hS_
   refine norm_ (a' := ?_) ?_ ?_
   rotate_left
   ·
    simp only [putAll, Act.put, List.setIfInBounds_toArray, List.set_cons_zero, List.set_cons_succ]
    rfl
   refine one_ (i := 9) (N := none) #[true, true, true, true, true, true, true, true, true, true, false] rfl rfl (one_of HT_.out (by kernel_rfl)) (by decide) (fun K hK => ?_)
   have hs31 : w30.cell? ⟨gb339, 0, none⟩ = some (.int .i64 0) := zc BK339 0
   have hfs31 := blk_frozen BK339.out 0
   have hns31_0 := NB310_339.out
   have hns31_1 := NB311_339.out
   have hns31_2 := NB325_339.out
   have hms31_0 := NB339_310.out
   have hms31_1 := NB339_311.out
   have hms31_2 := NB339_325.out
   have hs32 : w30.cell? ⟨gb339, 1, none⟩ = some (.int .i64 0) := zc BK339 1
   have hfs32 := blk_frozen BK339.out 1
   have hns32_0 := NB310_339.out
   have hns32_1 := NB311_339.out
   have hns32_2 := NB325_339.out
   have hms32_0 := NB339_310.out
   have hms32_1 := NB339_311.out
   have hms32_2 := NB339_325.out
   have hs33 : w30.cell? ⟨gb339, 2, none⟩ = some (.int .i64 0) := zc BK339 2
   have hfs33 := blk_frozen BK339.out 2
   have hns33_0 := NB310_339.out
   have hns33_1 := NB311_339.out
   have hns33_2 := NB325_339.out
   have hms33_0 := NB339_310.out
   have hms33_1 := NB339_311.out
   have hms33_2 := NB339_325.out
   have hs34 : w30.cell? ⟨gb339, 3, none⟩ = some (.int .i64 0) := zc BK339 3
   have hfs34 := blk_frozen BK339.out 3
   have hns34_0 := NB310_339.out
   have hns34_1 := NB311_339.out
   have hns34_2 := NB325_339.out
   have hms34_0 := NB339_310.out
   have hms34_1 := NB339_311.out
   have hms34_2 := NB339_325.out
   refine skip_ (w1 := ?_) (by rfl) rfl ?_ ?_
   rotate_left
   ·
    go_simp
    rfl
   refine hK.out _ _ ⟨((cell_far (p := ⟨gb339, _, none⟩) NB310_339.out _).trans (((cell_far (p := ⟨gb339, _, none⟩) NB310_339.out _).trans (((cell_far (p := ⟨gb339, _, none⟩) NB310_339.out _).trans (((cell_far (p := ⟨gb339, _, none⟩) NB310_339.out _).trans (hHeld.1)))))))), ((cell_far (p := ⟨gb339, _, none⟩) NB310_339.out _).trans (((cell_far (p := ⟨gb339, _, none⟩) NB310_339.out _).trans (((cell_far (p := ⟨gb339, _, none⟩) NB310_339.out _).trans (((cell_far (p := ⟨gb339, _, none⟩) NB310_339.out _).trans (hHeld.2.1)))))))), ((cell_far (p := ⟨gb339, _, none⟩) NB310_339.out _).trans (((cell_far (p := ⟨gb339, _, none⟩) NB310_339.out _).trans (((cell_far (p := ⟨gb339, _, none⟩) NB310_339.out _).trans (((cell_far (p := ⟨gb339, _, none⟩) NB310_339.out _).trans (hHeld.2.2.1)))))))), ((cell_far (p := ⟨gb339, _, none⟩) NB310_339.out _).trans (((cell_far (p := ⟨gb339, _, none⟩) NB310_339.out _).trans (((cell_far (p := ⟨gb339, _, none⟩) NB310_339.out _).trans (((cell_far (p := ⟨gb339, _, none⟩) NB310_339.out _).trans (hHeld.2.2.2.1)))))))), ((cell_far (p := ⟨gb339, _, none⟩) NB311_339.out _).trans (((cell_far (p := ⟨gb339, _, none⟩) NB311_339.out _).trans (((cell_far (p := ⟨gb339, _, none⟩) NB311_339.out _).trans (((cell_far (p := ⟨gb339, _, none⟩) NB311_339.out _).trans (hHeld.2.2.2.2.1)))))))), ((cell_far (p := ⟨gb339, _, none⟩) NB311_339.out _).trans (((cell_far (p := ⟨gb339, _, none⟩) NB311_339.out _).trans (((cell_far (p := ⟨gb339, _, none⟩) NB311_339.out _).trans (((cell_far (p := ⟨gb339, _, none⟩) NB311_339.out _).trans (hHeld.2.2.2.2.2.1)))))))), ((cell_far (p := ⟨gb339, _, none⟩) NB311_339.out _).trans (((cell_far (p := ⟨gb339, _, none⟩) NB311_339.out _).trans (((cell_far (p := ⟨gb339, _, none⟩) NB311_339.out _).trans (((cell_far (p := ⟨gb339, _, none⟩) NB311_339.out _).trans (hHeld.2.2.2.2.2.2.1)))))))), ((cell_far (p := ⟨gb339, _, none⟩) NB311_339.out _).trans (((cell_far (p := ⟨gb339, _, none⟩) NB311_339.out _).trans (((cell_far (p := ⟨gb339, _, none⟩) NB311_339.out _).trans (((cell_far (p := ⟨gb339, _, none⟩) NB311_339.out _).trans (hHeld.2.2.2.2.2.2.2))))))))⟩ (fun hHeld => ?_)
   clear hK K
   refine pure_ (i := 10) (N := some 8) (v := ?_) (a' := ?_) #[true, true, true, true, true, true, true, true, true, true, true] rfl rfl (any_of HT_.out (by kernel_rfl)) (fun _ _ _ h => h) (Or.inl ⟨by rfl, ?_⟩) ?_ ?_
   rotate_left
   ·
    intro w'
    go_simp
    with_reducible rfl
   rotate_left
   ·
    simp only [Act.put, List.setIfInBounds_toArray, List.set_cons_zero, List.set_cons_succ, i64_w, i32_w]
    rfl
   refine done_ (done_of HT_.out (by kernel_rfl)) ?_
   have hnb35 := NB339_310.out
   have hnc35 := NB310_339.out
   have hnb36 := NB339_311.out
   have hnc36 := NB311_339.out
   have hnb37 := NB339_325.out
   have hnc37 := NB325_339.out
   have hcz38_0 : w30.cell? ⟨gb339, 0, none⟩ = some (.int .i64 0) := zc BK339 0
   have hcz38_1 : w30.cell? ⟨gb339, 1, none⟩ = some (.int .i64 0) := zc BK339 1
   have hcz38_2 : w30.cell? ⟨gb339, 2, none⟩ = some (.int .i64 0) := zc BK339 2
   have hcz38_3 : w30.cell? ⟨gb339, 3, none⟩ = some (.int .i64 0) := zc BK339 3
   have hfz38_0 := blk_frozen BK339.out 0
   have hfz38_1 := blk_frozen BK339.out 1
   have hfz38_2 := blk_frozen BK339.out 2
   have hfz38_3 := blk_frozen BK339.out 3
   have hnb39 := NB325_310.out
   have hnc39 := NB310_325.out
   have hnb40 := NB325_311.out
   have hnc40 := NB311_325.out
   have hcz41_0 : w30.cell? ⟨gb325, 0, none⟩ = some (.int .i64 t320) := zc BK325 0
   have hcz41_1 : w30.cell? ⟨gb325, 1, none⟩ = some (.int .i64 t321) := zc BK325 1
   have hcz41_2 : w30.cell? ⟨gb325, 2, none⟩ = some (.int .i64 t322) := zc BK325 2
   have hcz41_3 : w30.cell? ⟨gb325, 3, none⟩ = some (.int .i64 t323) := zc BK325 3
   have hfz41_0 := blk_frozen BK325.out 0
   have hfz41_1 := blk_frozen BK325.out 1
   have hfz41_2 := blk_frozen BK325.out 2
   have hfz41_3 := blk_frozen BK325.out 3
   try go_wp2_with (first | ((with_reducible refine gate_callee (f := 24) rfl ?_); refine goesL_ (some 27) rfl rfl Try.func24 (by kernel_rfl) rfl #[.agg #[.int .i64 t334, .int .i64 t335, .int .i64 t336, .int .i64 t337], .agg #[.int .i64 t320, .int .i64 t321, .int .i64 t322, .int .i64 t323]] rfl (by (try simp only [List.map_toArray, List.map_cons, List.map_nil]); first | done | rfl | (simp only [List.length_drop, List.length_take]; rfl)) ?_; (with_reducible refine (laws_eqInterval.calls t334 t335 t336 t337 t320 t321 t322 t323 true _ A9.out).mono ?_); rintro e w42 ⟨rfl, hb⟩; refine ⟨_, rfl, ?_⟩; have n0_ := Aside0.mk (blk_below (g := gb310) (o := .cells #[.int .i64 a0_0, .int .i64 a0_1, .int .i64 a0_2, .int .i64 a0_3] 25 (0, 0)) (zq5 BK310) hb); have n1_ := Aside0.mk (blk_below (g := gb311) (o := .cells #[.int .i64 a1_0, .int .i64 a1_1, .int .i64 a1_2, .int .i64 a1_3] 25 (0, 0)) (zq5 BK311) hb); have n2_ := Aside0.mk (blk_below (g := gb325) (o := .cells #[.int .i64 t320, .int .i64 t321, .int .i64 t322, .int .i64 t323] 29 (0, 0)) (zq5 BK325) hb); have n3_ := Aside0.mk (blk_below (g := gb339) (o := .cells #[.int .i64 t334, .int .i64 t335, .int .i64 t336, .int .i64 t337] 29 (0, 0)) (by (with_reducible repeat (first | refine blk_drewN ?_ _ | refine blk_drew ?_ | refine blk_alloc ?_ _)); refine blk_put (cs := #[.int .i64 t334, .int .i64 t335, .int .i64 t336, .int .i64 0]) ?_ 3 _ rfl; (with_reducible repeat (first | refine blk_drewN ?_ _ | refine blk_drew ?_ | refine blk_alloc ?_ _)); refine blk_put (cs := #[.int .i64 t334, .int .i64 t335, .int .i64 0, .int .i64 0]) ?_ 2 _ rfl; (with_reducible repeat (first | refine blk_drewN ?_ _ | refine blk_drew ?_ | refine blk_alloc ?_ _)); refine blk_put (cs := #[.int .i64 t334, .int .i64 0, .int .i64 0, .int .i64 0]) ?_ 1 _ rfl; (with_reducible repeat (first | refine blk_drewN ?_ _ | refine blk_drew ?_ | refine blk_alloc ?_ _)); refine blk_put (cs := #[.int .i64 0, .int .i64 0, .int .i64 0, .int .i64 0]) ?_ 0 _ rfl; (with_reducible repeat (first | refine blk_drewN ?_ _ | refine blk_drew ?_ | refine blk_alloc ?_ _)); exact BK339.out) hb); have n4_ := Aside0.mk (below_step (z6_1 HB) hb); clear BK310; clear BK311; clear BK325; clear BK339; clear HB; have BK310 := n0_; have BK311 := n1_; have BK325 := n2_; have BK339 := n3_; have HB := n4_; clear n0_ n1_ n2_ n3_ n4_; (try clear hb); (try clear hb2); (try clear hk); (try clear hi)))
   go_ret
   exact ⟨by first | rfl | (simp [errW_none, errW_some] <;> rfl) | (simp [*, errW_none, errW_some] <;> rfl), (z6_1 HB)⟩
 ·
  replace c10 := Bool.eq_false_iff.mpr c10
  subst c10
  have H1 : (none) = some r := by rw [if_neg (show ¬ (false = true) by decide)] at H; exact H
  clear H
  have H := H1
  clear H1
  exact absurd H (by simp)
end Go.Proofs.Ytinpcalgdiigiaa.PD
