-- Written by a program of this session (wip/mk/drv.py) out of the seat's translation; Lean checks it.
import Derived.Test.YtinpcalgdiigiaaQCommonPartPDx0
import Derived.Test.YtinpcalgdiigiaaQCommonPartPDx1
import Derived.Test.YtinpcalgdiigiaaQCommonPartPDx2
import Derived.Test.YtinpcalgdiigiaaQCommonPartPDx30
import Derived.Test.YtinpcalgdiigiaaQCommonPartPDx33
import Derived.Test.YtinpcalgdiigiaaQCommonPartPDx35
namespace Go.Proofs.Ytinpcalgdiigiaa.PD
open Go.RowKit Go.Proofs.YtinpcalgdiigiaaW.PrintWords Go.Proofs.YtinpcalgdiigiaaW.PrintLast Go.Proofs.YtinpcalgdiigiaaW.PrintMore
attribute [local go_sem] max2_int min2_int max_two min_two max_three min_three max_four min_four   -- for this text's walks alone
set_option linter.unusedVariables false
set_option linter.unusedSimpArgs false
/-! ### laws_FnExactCommonPart: function 7 -/
theorem z7_0 {w W0 W1 : World} {B : Nat} (h : Aside0 (Below B w W0)) (f : Below B w W0 → Below B w W1 := by intro h_; repeat (first | (with_reducible first | exact h_ | apply below_alloc | apply pw_below_drewN | apply below_drew1) | exact h_)) : Below B w W1 := f h.out
theorem z7_1 {w W0 W1 : World} {B : Nat} (h : Aside0 (Below B w W0)) (f : Below B w W0 → Below B w W1 := by intro h_; repeat (first | (with_reducible first | exact h_ | apply below_alloc | apply pw_below_drewN | apply below_drew1 | refine below_set ?_ (Aside0.out (by assumption))) | exact h_)) : Below B w W1 := f h.out
def laws_FnExactCommonPart.T1 : Bool × List (List Nat × List Nat) := (true, [([], []), ([0], [0]), ([], []), ([2, 1], [2]), ([1, 3, 3], [1, 3]), ([4], [4]), ([5], [5]), ([5], [5]), ([], []), ([8, 6, 4, 0, 1, 2, 3, 4, 5, 6, 8], [6, 8]), ([7, 9, 0, 1, 2, 3, 4, 5, 6, 7, 8, 9], [7])])
def laws_FnExactCommonPart.B1 : List Nat := [0, 1, 0, 7, 15, 31, 63, 63, 0, 383, 1023]
theorem laws_FnExactCommonPart.tab1 : rtab .any (opsOf Try.f7 1) = laws_FnExactCommonPart.T1 := by kernel_rfl
theorem laws_FnExactCommonPart.bits1 : waitsOk laws_FnExactCommonPart.T1.2 laws_FnExactCommonPart.B1 = true := by kernel_rfl
def laws_FnExactCommonPart.T2 : Bool × List (List Nat × List Nat) := (true, [([], []), ([0], [0]), ([], []), ([2, 1], [2]), ([1, 3, 3], [1, 3]), ([4], [4]), ([5], [5]), ([5], [5]), ([], []), ([8, 6, 4, 0, 1, 2, 3, 4, 5, 6, 8], [6, 8]), ([7, 9, 0, 1, 2, 3, 4, 5, 6, 7, 8, 9], [7])])
def laws_FnExactCommonPart.B2 : List Nat := [0, 1, 0, 7, 15, 31, 63, 63, 0, 383, 1023]
theorem laws_FnExactCommonPart.tab2 : rtab .any (opsOf Try.f7 2) = laws_FnExactCommonPart.T2 := by kernel_rfl
theorem laws_FnExactCommonPart.bits2 : waitsOk laws_FnExactCommonPart.T2.2 laws_FnExactCommonPart.B2 = true := by kernel_rfl
set_option maxHeartbeats 8000000 in
set_option maxRecDepth 100000 in
theorem laws_FnExactCommonPart.calls (k : Nat) (a0_0 : Int) (a0_1 : Int) (a0_2 : Int) (a0_3 : Int) (a1_0 : Int) (a1_1 : Int) (a1_2 : Int) (a1_3 : Int) (r : Bool) (w : World) (h : laws_FnExactCommonPart.f k a0_0 a0_1 a0_2 a0_3 a1_0 a1_1 a1_2 a1_3 = some r) :
  Calls Try.prog 7 #[.agg #[.int .i64 a0_0, .int .i64 a0_1, .int .i64 a0_2, .int .i64 a0_3], .agg #[.int .i64 a1_0, .int .i64 a1_1, .int .i64 a1_2, .int .i64 a1_3]] w fun e w' => e = .returned (.bool r) ∧ Below w.heap.size w w' := by
 have hu25 := Try.underlying25
 have hu29 := Try.underlying29
 have HB := Aside0.mk (Below.refl w.heap.size w)
 have H : ((laws_toInterval.f a0_0 a0_1 a0_2 a0_3).bind fun bt390 => ((laws_toInterval.f a1_0 a1_1 a1_2 a1_3).bind fun bt394 => ((spec_CommonPart.f k bt390.1 bt390.2.1 bt390.2.2.1 bt390.2.2.2 bt394.1 bt394.2.1 bt394.2.2.1 bt394.2.2.2).bind fun bt398 => ((laws_toInterval.f a0_0 a0_1 a0_2 a0_3).bind fun bt404 => ((laws_toInterval.f a1_0 a1_1 a1_2 a1_3).bind fun bt408 => ((impl_CommonPart.f k bt404.1 bt404.2.1 bt404.2.2.1 bt404.2.2.2 bt408.1 bt408.2.1 bt408.2.2.1 bt408.2.2.2).bind fun bt412 => ((laws_eqInterval.f bt412.1 bt412.2.1 bt412.2.2.1 bt412.2.2.2.1 bt398.1 bt398.2.1 bt398.2.2.1 bt398.2.2.2.1).bind fun t418 => (if t418 = true then (if (bt412.2.2.2.2 != bt398.2.2.2.2) = true then (none) else (some true)) else (none))))))))) = some r := h
 clear h
 replace H := Option.bind_eq_some_iff.mp H
 obtain ⟨⟨t390, t391, t392, t393⟩, A30, H⟩ := H
 replace H : ((laws_toInterval.f a1_0 a1_1 a1_2 a1_3).bind fun bt394 => ((spec_CommonPart.f k t390 t391 t392 t393 bt394.1 bt394.2.1 bt394.2.2.1 bt394.2.2.2).bind fun bt398 => ((laws_toInterval.f a0_0 a0_1 a0_2 a0_3).bind fun bt404 => ((laws_toInterval.f a1_0 a1_1 a1_2 a1_3).bind fun bt408 => ((impl_CommonPart.f k bt404.1 bt404.2.1 bt404.2.2.1 bt404.2.2.2 bt408.1 bt408.2.1 bt408.2.2.1 bt408.2.2.2).bind fun bt412 => ((laws_eqInterval.f bt412.1 bt412.2.1 bt412.2.2.1 bt412.2.2.2.1 bt398.1 bt398.2.1 bt398.2.2.1 bt398.2.2.2.1).bind fun t418 => (if t418 = true then (if (bt412.2.2.2.2 != bt398.2.2.2.2) = true then (none) else (some true)) else (none)))))))) = some r := H
 have A3 := Aside0.mk A30
 clear A30
 replace H := Option.bind_eq_some_iff.mp H
 obtain ⟨⟨t394, t395, t396, t397⟩, A40, H⟩ := H
 replace H : ((spec_CommonPart.f k t390 t391 t392 t393 t394 t395 t396 t397).bind fun bt398 => ((laws_toInterval.f a0_0 a0_1 a0_2 a0_3).bind fun bt404 => ((laws_toInterval.f a1_0 a1_1 a1_2 a1_3).bind fun bt408 => ((impl_CommonPart.f k bt404.1 bt404.2.1 bt404.2.2.1 bt404.2.2.2 bt408.1 bt408.2.1 bt408.2.2.1 bt408.2.2.2).bind fun bt412 => ((laws_eqInterval.f bt412.1 bt412.2.1 bt412.2.2.1 bt412.2.2.2.1 bt398.1 bt398.2.1 bt398.2.2.1 bt398.2.2.2.1).bind fun t418 => (if t418 = true then (if (bt412.2.2.2.2 != bt398.2.2.2.2) = true then (none) else (some true)) else (none))))))) = some r := H
 have A4 := Aside0.mk A40
 clear A40
 replace H := Option.bind_eq_some_iff.mp H
 obtain ⟨⟨t398, t399, t400, t401, t402⟩, A50, H⟩ := H
 replace H : ((laws_toInterval.f a0_0 a0_1 a0_2 a0_3).bind fun bt404 => ((laws_toInterval.f a1_0 a1_1 a1_2 a1_3).bind fun bt408 => ((impl_CommonPart.f k bt404.1 bt404.2.1 bt404.2.2.1 bt404.2.2.2 bt408.1 bt408.2.1 bt408.2.2.1 bt408.2.2.2).bind fun bt412 => ((laws_eqInterval.f bt412.1 bt412.2.1 bt412.2.2.1 bt412.2.2.2.1 t398 t399 t400 t401).bind fun t418 => (if t418 = true then (if (bt412.2.2.2.2 != t402) = true then (none) else (some true)) else (none)))))) = some r := H
 have A5 := Aside0.mk A50
 clear A50
 replace H := Option.bind_eq_some_iff.mp H
 obtain ⟨⟨t404, t405, t406, t407⟩, A60, H⟩ := H
 replace H : ((laws_toInterval.f a1_0 a1_1 a1_2 a1_3).bind fun bt408 => ((impl_CommonPart.f k t404 t405 t406 t407 bt408.1 bt408.2.1 bt408.2.2.1 bt408.2.2.2).bind fun bt412 => ((laws_eqInterval.f bt412.1 bt412.2.1 bt412.2.2.1 bt412.2.2.2.1 t398 t399 t400 t401).bind fun t418 => (if t418 = true then (if (bt412.2.2.2.2 != t402) = true then (none) else (some true)) else (none))))) = some r := H
 have A6 := Aside0.mk A60
 clear A60
 replace H := Option.bind_eq_some_iff.mp H
 obtain ⟨⟨t408, t409, t410, t411⟩, A70, H⟩ := H
 replace H : ((impl_CommonPart.f k t404 t405 t406 t407 t408 t409 t410 t411).bind fun bt412 => ((laws_eqInterval.f bt412.1 bt412.2.1 bt412.2.2.1 bt412.2.2.2.1 t398 t399 t400 t401).bind fun t418 => (if t418 = true then (if (bt412.2.2.2.2 != t402) = true then (none) else (some true)) else (none)))) = some r := H
 have A7 := Aside0.mk A70
 clear A70
 replace H := Option.bind_eq_some_iff.mp H
 obtain ⟨⟨t412, t413, t414, t415, t416⟩, A80, H⟩ := H
 replace H : ((laws_eqInterval.f t412 t413 t414 t415 t398 t399 t400 t401).bind fun t418 => (if t418 = true then (if (t416 != t402) = true then (none) else (some true)) else (none))) = some r := H
 have A8 := Aside0.mk A80
 clear A80
 replace H := Option.bind_eq_some_iff.mp H
 obtain ⟨t418, A90, H⟩ := H
 replace H : (if t418 = true then (if (t416 != t402) = true then (none) else (some true)) else (none)) = some r := H
 have A9 := Aside0.mk A90
 clear A90
 by_cases c10 : t418 = true
 ·
  subst c10
  have H1 : (if (t416 != t402) = true then (none) else (some true)) = some r := by rw [if_pos rfl] at H; exact H
  clear H
  have H := H1
  clear H1
  by_cases c11 : (t416 != t402) = true
  ·
   rw [if_pos c11] at H
   exact absurd H (by simp)
  ·
   rw [if_neg c11] at H
   have c11b0 : (t416 != t402) = false := by simpa using c11
   (try (have c11b1 : decide (t416 = t402) = true := by simpa using c11))
   (try (have c11b2 : (t416 == t402) = true := by simpa using c11))
   clear c11
   obtain rfl := Option.some.inj H
   go_enter Try.func7, Try.ntmps7
   try go_wp2_with (first | ((with_reducible refine gate_dst (N := 2) rfl ?_); refine box_event ?hg (N := 2) ?hd (cs := #[.int .i64 a0_0, .int .i64 a0_1, .int .i64 a0_2, .int .i64 a0_3]) (t := 25) ?hr ?_; (case hd => rfl); (case hg => rfl); (case hr => first | (go_simp; done) | (go_simp; rfl)); intro gb388 hg w12 hbox hb; have n0_ := Aside0.mk (below_step (z7_0 HB) hb); have n1_ := Aside0.mk (hbox); have n2_ := Aside0.mk ((by rw [hg]; exact (below_size (z7_0 HB)) : w.heap.size ≤ gb388)); have n3_ := Aside0.mk ((by rw [hg]; exact (below_size (z7_0 HB)) : w.heap.size ≤ gb388)); clear HB; have HB := n0_; have BK388 := n1_; have GW388 := n2_; have GE388 := n3_; clear n0_ n1_ n2_ n3_; clear hb hbox hg) | ((with_reducible refine gate_dst (N := 3) rfl ?_); refine box_event ?hg (N := 3) ?hd (cs := #[.int .i64 a1_0, .int .i64 a1_1, .int .i64 a1_2, .int .i64 a1_3]) (t := 25) ?hr ?_; (case hd => rfl); (case hg => rfl); (case hr => first | (go_simp; done) | (go_simp; rfl)); intro gb389 hg w13 hbox hb; have n0_ := Aside0.mk (zbb BK388 hb); have n1_ := Aside0.mk (below_step (z7_1 HB) hb); have n2_ := Aside0.mk (hbox); have n3_ := Aside0.mk ((by rw [hg]; exact (below_size (z7_1 HB)) : w.heap.size ≤ gb389)); have n4_ := Aside0.mk ((by rw [hg]; exact (below_size (z7_1 HB)) : w.heap.size ≤ gb389)); have n5_ := Aside0.mk (zlt BK388 hg); have n6_ := Aside0.mk (zgt BK388 hg); clear BK388; clear HB; have BK388 := n0_; have HB := n1_; have BK389 := n2_; have GW389 := n3_; have GE389 := n4_; have NB388_389 := n5_; have NB389_388 := n6_; clear n0_ n1_ n2_ n3_ n4_ n5_ n6_; clear hb hbox hg))
   have n0_ := Aside0.mk (blk_drew BK388.out)
   have n1_ := Aside0.mk (blk_drew BK389.out)
   have n2_ := Aside0.mk (below_drew1 HB.out)
   clear BK388 BK389 HB
   have BK388 := n0_; have BK389 := n1_; have HB := n2_
   clear n0_ n1_ n2_
   refine start_ (n := 11) (S := fun w' => w'.cell? ⟨gb388, 0, none⟩ = some (.int .i64 a0_0) ∧ w'.cell? ⟨gb388, 1, none⟩ = some (.int .i64 a0_1) ∧ w'.cell? ⟨gb388, 2, none⟩ = some (.int .i64 a0_2) ∧ w'.cell? ⟨gb388, 3, none⟩ = some (.int .i64 a0_3) ∧ w'.cell? ⟨gb389, 0, none⟩ = some (.int .i64 a1_0) ∧ w'.cell? ⟨gb389, 1, none⟩ = some (.int .i64 a1_1) ∧ w'.cell? ⟨gb389, 2, none⟩ = some (.int .i64 a1_2) ∧ w'.cell? ⟨gb389, 3, none⟩ = some (.int .i64 a1_3)) (ds := []) #[false, false, false, false, false, false, false, false, false, false, false] (by kernel_rfl) rfl rfl ⟨zc BK388 0, zc BK388 1, zc BK388 2, zc BK388 3, zc BK389 0, zc BK389 1, zc BK389 2, zc BK389 3⟩ (fun hHeld => ?_); refine with_tabW laws_FnExactCommonPart.tab1 laws_FnExactCommonPart.bits1 (fun HT_ HW_ => ?_)
   generalize w13.drew = w14 at BK388 BK389 HB hHeld ⊢
   refine take_ (i := 0) (N := some 10) (v := ?_) (a' := ?_) #[true, false, false, false, false, false, false, false, false, false, false] rfl rfl (take_ofW HT_.out HW_.out (by kernel_rfl)) (fun _ _ _ h => h) (Or.inl ⟨by rfl, ?_⟩) hHeld ?_ ?_
   rotate_left
   ·
    rintro w' ⟨s0, s1, s2, s3, s4, s5, s6, s7⟩
    go_simp
    with_reducible rfl
   rotate_left
   ·
    simp only [Act.put, List.setIfInBounds_toArray, List.set_cons_zero, List.set_cons_succ, i64_w, i32_w]
    rfl
   refine take_ (i := 2) (N := some 12) (v := ?_) (a' := ?_) #[true, false, true, false, false, false, false, false, false, false, false] rfl rfl (take_ofW HT_.out HW_.out (by kernel_rfl)) (fun _ _ _ h => h) (Or.inl ⟨by rfl, ?_⟩) hHeld ?_ ?_
   rotate_left
   ·
    rintro w' ⟨s0, s1, s2, s3, s4, s5, s6, s7⟩
    go_simp
    with_reducible rfl
   rotate_left
   ·
    simp only [Act.put, List.setIfInBounds_toArray, List.set_cons_zero, List.set_cons_succ, i64_w, i32_w]
    rfl
   refine join_ (σ := Nat) 2 #[true, true, true, true, true, true, true, true, true, false, false] (fun s_ => [(11, .agg #[.int .i64 t390, .int .i64 t391, .int .i64 t392, .int .i64 t393]), (13, .agg #[.int .i64 t394, .int .i64 t395, .int .i64 t396, .int .i64 t397]), (14, .tuple #[.agg #[.int .i64 t398, .int .i64 t399, .int .i64 t400, .int .i64 t401], .bool t402]), (5, .pointer (some ⟨s_, 0, none⟩)), (9, .tuple #[.agg #[.int .i64 t398, .int .i64 t399, .int .i64 t400, .int .i64 t401], .bool t402]), (15, .agg #[.int .i64 t398, .int .i64 t399, .int .i64 t400, .int .i64 t401]), (16, .bool t402)]) (fun s_ w' => (w'.cell? ⟨gb388, 0, none⟩ = some (.int .i64 a0_0) ∧ w'.cell? ⟨gb388, 1, none⟩ = some (.int .i64 a0_1) ∧ w'.cell? ⟨gb388, 2, none⟩ = some (.int .i64 a0_2) ∧ w'.cell? ⟨gb388, 3, none⟩ = some (.int .i64 a0_3) ∧ w'.cell? ⟨gb389, 0, none⟩ = some (.int .i64 a1_0) ∧ w'.cell? ⟨gb389, 1, none⟩ = some (.int .i64 a1_1) ∧ w'.cell? ⟨gb389, 2, none⟩ = some (.int .i64 a1_2) ∧ w'.cell? ⟨gb389, 3, none⟩ = some (.int .i64 a1_3)) ∧ (w'.heap[gb388]? = some (.cells #[.int .i64 a0_0, .int .i64 a0_1, .int .i64 a0_2, .int .i64 a0_3] 25 (0, 0))) ∧ (w'.heap[gb389]? = some (.cells #[.int .i64 a1_0, .int .i64 a1_1, .int .i64 a1_2, .int .i64 a1_3] 25 (0, 0))) ∧ (w'.heap[s_]? = some (.cells #[.int .i64 0, .int .i64 0, .int .i64 0, .int .i64 0] 29 (0, 0))) ∧ (w.heap.size ≤ s_) ∧ (w.heap.size ≤ s_) ∧ (gb388 ≠ s_) ∧ (s_ ≠ gb388) ∧ (gb389 ≠ s_) ∧ (s_ ≠ gb389) ∧ (Below w.heap.size w w')) ?_ ?_
   rotate_left
   ·
    intro hCont
    refine two_ (i := 1) (j := 8) (Ni := some 11) (Nj := some 5) #[true, true, true, false, false, false, false, false, false, false, false] #[true, false, true, false, false, false, false, false, true, false, false] rfl rfl rfl rfl (two_of HT_.out (by kernel_rfl)) (by decide) (by decide) (fun K hK => ?_) (fun K hK => ?_)
    ·
     refine goes_ Try.func16 (by kernel_rfl) rfl #[.agg #[.int .i64 a0_0, .int .i64 a0_1, .int .i64 a0_2, .int .i64 a0_3]] (by rfl) rfl rfl (by (try simp only [List.map_toArray, List.map_cons, List.map_nil]); first | done | rfl | (simp only [List.length_drop, List.length_take]; rfl)) ?_
     with_reducible refine (laws_toInterval.calls a0_0 a0_1 a0_2 a0_3 t390 t391 t392 t393 _ A3.out).mono ?_
     rintro e w15 ⟨rfl, hb⟩
     refine ⟨_, rfl, ?_⟩
     have n0_ := Aside0.mk (zbb BK388 hb)
     have n1_ := Aside0.mk (zbb BK389 hb)
     have n2_ := Aside0.mk (below_step (z7_1 HB) hb)
     clear BK388 BK389 HB
     have BK388 := n0_; have BK389 := n1_; have HB := n2_
     clear n0_ n1_ n2_
     (try clear hb)
     (try clear hb2)
     (try clear hk)
     (try clear hi)
     refine hK.out _ _ ⟨zc BK388 0, zc BK388 1, zc BK388 2, zc BK388 3, zc BK389 0, zc BK389 1, zc BK389 2, zc BK389 3⟩ (fun hHeld => ?_)
     clear hK K
     refine norm_ (a' := ?_) ?_ ?_
     rotate_left
     ·
      show Act.put _ (some 11) _ = _
      simp only [Act.put, List.setIfInBounds_toArray, List.set_cons_zero, List.set_cons_succ, i64_w, i32_w]; rfl
     refine two_ (i := 3) (j := 8) (Ni := some 13) (Nj := some 5) #[true, true, true, true, false, false, false, false, false, false, false] #[true, true, true, false, false, false, false, false, true, false, false] rfl rfl rfl rfl (two_of HT_.out (by kernel_rfl)) (by decide) (by decide) (fun K hK => ?_) (fun K hK => ?_)
     ·
      refine goes_ Try.func16 (by kernel_rfl) rfl #[.agg #[.int .i64 a1_0, .int .i64 a1_1, .int .i64 a1_2, .int .i64 a1_3]] (by rfl) rfl rfl (by (try simp only [List.map_toArray, List.map_cons, List.map_nil]); first | done | rfl | (simp only [List.length_drop, List.length_take]; rfl)) ?_
      with_reducible refine (laws_toInterval.calls a1_0 a1_1 a1_2 a1_3 t394 t395 t396 t397 _ A4.out).mono ?_
      rintro e w16 ⟨rfl, hb⟩
      refine ⟨_, rfl, ?_⟩
      have n0_ := Aside0.mk (zbb BK388 hb)
      have n1_ := Aside0.mk (zbb BK389 hb)
      have n2_ := Aside0.mk (below_step (z7_1 HB) hb)
      clear BK388 BK389 HB
      have BK388 := n0_; have BK389 := n1_; have HB := n2_
      clear n0_ n1_ n2_
      (try clear hb)
      (try clear hb2)
      (try clear hk)
      (try clear hi)
      refine hK.out _ _ ⟨zc BK388 0, zc BK388 1, zc BK388 2, zc BK388 3, zc BK389 0, zc BK389 1, zc BK389 2, zc BK389 3⟩ (fun hHeld => ?_)
      clear hK K
      refine norm_ (a' := ?_) ?_ ?_
      rotate_left
      ·
       show Act.put _ (some 13) _ = _
       simp only [Act.put, List.setIfInBounds_toArray, List.set_cons_zero, List.set_cons_succ, i64_w, i32_w]; rfl
      refine two_ (i := 4) (j := 8) (Ni := some 14) (Nj := some 5) #[true, true, true, true, true, false, false, false, false, false, false] #[true, true, true, true, false, false, false, false, true, false, false] rfl rfl rfl rfl (two_of HT_.out (by kernel_rfl)) (by decide) (by decide) (fun K hK => ?_) (fun K hK => ?_)
      ·
       refine goes_ Try.func25 (by kernel_rfl) rfl #[.agg #[.int .i64 t390, .int .i64 t391, .int .i64 t392, .int .i64 t393], .agg #[.int .i64 t394, .int .i64 t395, .int .i64 t396, .int .i64 t397]] (by rfl) rfl rfl (by (try simp only [List.map_toArray, List.map_cons, List.map_nil]); first | done | rfl | (simp only [List.length_drop, List.length_take]; rfl)) ?_
       with_reducible refine (spec_CommonPart.calls k t390 t391 t392 t393 t394 t395 t396 t397 t398 t399 t400 t401 t402 _ A5.out).mono ?_
       rintro e w17 ⟨rfl, hb⟩
       refine ⟨_, rfl, ?_⟩
       have n0_ := Aside0.mk (zbb BK388 hb)
       have n1_ := Aside0.mk (zbb BK389 hb)
       have n2_ := Aside0.mk (below_step (z7_1 HB) hb)
       clear BK388 BK389 HB
       have BK388 := n0_; have BK389 := n1_; have HB := n2_
       clear n0_ n1_ n2_
       (try clear hb)
       (try clear hb2)
       (try clear hk)
       (try clear hi)
       refine hK.out _ _ ⟨zc BK388 0, zc BK388 1, zc BK388 2, zc BK388 3, zc BK389 0, zc BK389 1, zc BK389 2, zc BK389 3⟩ (fun hHeld => ?_)
       clear hK K
       refine norm_ (a' := ?_) ?_ ?_
       rotate_left
       ·
        show Act.put _ (some 14) _ = _
        simp only [Act.put, List.setIfInBounds_toArray, List.set_cons_zero, List.set_cons_succ, i64_w, i32_w]; rfl
       refine pure_ (i := 5) (N := some 9) (v := ?_) (a' := ?_) #[true, true, true, true, true, true, false, false, false, false, false] rfl rfl (any_of HT_.out (by kernel_rfl)) (fun _ _ _ h => h) (Or.inl ⟨by rfl, ?_⟩) ?_ ?_
       rotate_left
       ·
        intro w'
        go_simp
        with_reducible rfl
       rotate_left
       ·
        simp only [Act.put, List.setIfInBounds_toArray, List.set_cons_zero, List.set_cons_succ, i64_w, i32_w]
        rfl
       refine pure_ (i := 6) (N := some 15) (v := ?_) (a' := ?_) #[true, true, true, true, true, true, true, false, false, false, false] rfl rfl (any_of HT_.out (by kernel_rfl)) (fun _ _ _ h => h) (Or.inl ⟨by rfl, ?_⟩) ?_ ?_
       rotate_left
       ·
        intro w'
        go_simp
        with_reducible rfl
       rotate_left
       ·
        simp only [Act.put, List.setIfInBounds_toArray, List.set_cons_zero, List.set_cons_succ, i64_w, i32_w]
        rfl
       refine pure_ (i := 7) (N := some 16) (v := ?_) (a' := ?_) #[true, true, true, true, true, true, true, true, false, false, false] rfl rfl (any_of HT_.out (by kernel_rfl)) (fun _ _ _ h => h) (Or.inl ⟨by rfl, ?_⟩) ?_ ?_
       rotate_left
       ·
        intro w'
        go_simp
        with_reducible rfl
       rotate_left
       ·
        simp only [Act.put, List.setIfInBounds_toArray, List.set_cons_zero, List.set_cons_succ, i64_w, i32_w]
        rfl
       refine one_ (i := 8) (N := some 5) #[true, true, true, true, true, true, true, true, true, false, false] rfl rfl (one_of HT_.out (by kernel_rfl)) (by decide) (fun K hK => ?_)
       refine box_step ?hg (N := 5) ?hd (cs := #[.int .i64 0, .int .i64 0, .int .i64 0, .int .i64 0]) (t := 29) ?hr ?_; (case hd => rfl); (case hg => rfl); (case hr => first | (go_simp; done) | (go_simp; rfl))
       intro gb403 hg w18 hbox hb
       have n0_ := Aside0.mk (zbb BK388 hb)
       have n1_ := Aside0.mk (zbb BK389 hb)
       have n2_ := Aside0.mk (below_step (z7_1 HB) hb)
       have BK403 := Aside0.mk (hbox)
       have GW403 := Aside0.mk ((by rw [hg]; exact (below_size (z7_1 HB)) : w.heap.size ≤ gb403))
       have GE403 := Aside0.mk ((by rw [hg]; exact (below_size (z7_1 HB)) : w.heap.size ≤ gb403))
       have NB388_403 := Aside0.mk (zlt BK388 hg)
       have NB403_388 := Aside0.mk (zgt BK388 hg)
       have NB389_403 := Aside0.mk (zlt BK389 hg)
       have NB403_389 := Aside0.mk (zgt BK389 hg)
       clear BK388 BK389 HB
       have BK388 := n0_; have BK389 := n1_; have HB := n2_
       clear n0_ n1_ n2_ hb hbox hg
       refine hK.out _ _ ⟨zc BK388 0, zc BK388 1, zc BK388 2, zc BK388 3, zc BK389 0, zc BK389 1, zc BK389 2, zc BK389 3⟩ (fun hHeld => ?_)
       clear hK K
       refine norm_ (a' := ?_) ?_ ?_
       rotate_left
       ·
        show Act.put _ (some 5) _ = _
        simp only [Act.put, List.setIfInBounds_toArray, List.set_cons_zero, List.set_cons_succ, i64_w, i32_w]; rfl
       exact norm_ (by simp only [putAll, Act.put, List.setIfInBounds_toArray, List.set_cons_zero, List.set_cons_succ]) (hCont (gb403) _ ⟨hHeld, (zq1 BK388), (zq1 BK389), (zq1 BK403), GW403.out, GE403.out, NB388_403.out, NB403_388.out, NB389_403.out, NB403_389.out, (z7_1 HB)⟩)
      ·
       refine box_step ?hg (N := 5) ?hd (cs := #[.int .i64 0, .int .i64 0, .int .i64 0, .int .i64 0]) (t := 29) ?hr ?_; (case hd => rfl); (case hg => rfl); (case hr => first | (go_simp; done) | (go_simp; rfl))
       intro gb403 hg w17 hbox hb
       have n0_ := Aside0.mk (zbb BK388 hb)
       have n1_ := Aside0.mk (zbb BK389 hb)
       have n2_ := Aside0.mk (below_step (z7_1 HB) hb)
       have BK403 := Aside0.mk (hbox)
       have GW403 := Aside0.mk ((by rw [hg]; exact (below_size (z7_1 HB)) : w.heap.size ≤ gb403))
       have GE403 := Aside0.mk ((by rw [hg]; exact (below_size (z7_1 HB)) : w.heap.size ≤ gb403))
       have NB388_403 := Aside0.mk (zlt BK388 hg)
       have NB403_388 := Aside0.mk (zgt BK388 hg)
       have NB389_403 := Aside0.mk (zlt BK389 hg)
       have NB403_389 := Aside0.mk (zgt BK389 hg)
       clear BK388 BK389 HB
       have BK388 := n0_; have BK389 := n1_; have HB := n2_
       clear n0_ n1_ n2_ hb hbox hg
       refine hK.out _ _ ⟨zc BK388 0, zc BK388 1, zc BK388 2, zc BK388 3, zc BK389 0, zc BK389 1, zc BK389 2, zc BK389 3⟩ (fun hHeld => ?_)
       clear hK K
       refine norm_ (a' := ?_) ?_ ?_
       rotate_left
       ·
        show Act.put _ (some 5) _ = _
        simp only [Act.put, List.setIfInBounds_toArray, List.set_cons_zero, List.set_cons_succ, i64_w, i32_w]; rfl
       refine one_ (i := 4) (N := some 14) #[true, true, true, true, true, false, false, false, true, false, false] rfl rfl (one_of HT_.out (by kernel_rfl)) (by decide) (fun K hK => ?_)
       refine goes_ Try.func25 (by kernel_rfl) rfl #[.agg #[.int .i64 t390, .int .i64 t391, .int .i64 t392, .int .i64 t393], .agg #[.int .i64 t394, .int .i64 t395, .int .i64 t396, .int .i64 t397]] (by rfl) rfl rfl (by (try simp only [List.map_toArray, List.map_cons, List.map_nil]); first | done | rfl | (simp only [List.length_drop, List.length_take]; rfl)) ?_
       with_reducible refine (spec_CommonPart.calls k t390 t391 t392 t393 t394 t395 t396 t397 t398 t399 t400 t401 t402 _ A5.out).mono ?_
       rintro e w18 ⟨rfl, hb⟩
       refine ⟨_, rfl, ?_⟩
       have n0_ := Aside0.mk (zbb BK388 hb)
       have n1_ := Aside0.mk (zbb BK389 hb)
       have n2_ := Aside0.mk (zbb BK403 hb)
       have n3_ := Aside0.mk (below_step (z7_1 HB) hb)
       clear BK388 BK389 BK403 HB
       have BK388 := n0_; have BK389 := n1_; have BK403 := n2_; have HB := n3_
       clear n0_ n1_ n2_ n3_
       (try clear hb)
       (try clear hb2)
       (try clear hk)
       (try clear hi)
       refine hK.out _ _ ⟨zc BK388 0, zc BK388 1, zc BK388 2, zc BK388 3, zc BK389 0, zc BK389 1, zc BK389 2, zc BK389 3⟩ (fun hHeld => ?_)
       clear hK K
       refine norm_ (a' := ?_) ?_ ?_
       rotate_left
       ·
        show Act.put _ (some 14) _ = _
        simp only [Act.put, List.setIfInBounds_toArray, List.set_cons_zero, List.set_cons_succ, i64_w, i32_w]; rfl
       refine pure_ (i := 5) (N := some 9) (v := ?_) (a' := ?_) #[true, true, true, true, true, true, false, false, true, false, false] rfl rfl (any_of HT_.out (by kernel_rfl)) (fun _ _ _ h => h) (Or.inl ⟨by rfl, ?_⟩) ?_ ?_
       rotate_left
       ·
        intro w'
        go_simp
        with_reducible rfl
       rotate_left
       ·
        simp only [Act.put, List.setIfInBounds_toArray, List.set_cons_zero, List.set_cons_succ, i64_w, i32_w]
        rfl
       refine pure_ (i := 6) (N := some 15) (v := ?_) (a' := ?_) #[true, true, true, true, true, true, true, false, true, false, false] rfl rfl (any_of HT_.out (by kernel_rfl)) (fun _ _ _ h => h) (Or.inl ⟨by rfl, ?_⟩) ?_ ?_
       rotate_left
       ·
        intro w'
        go_simp
        with_reducible rfl
       rotate_left
       ·
        simp only [Act.put, List.setIfInBounds_toArray, List.set_cons_zero, List.set_cons_succ, i64_w, i32_w]
        rfl
       refine pure_ (i := 7) (N := some 16) (v := ?_) (a' := ?_) #[true, true, true, true, true, true, true, true, true, false, false] rfl rfl (any_of HT_.out (by kernel_rfl)) (fun _ _ _ h => h) (Or.inl ⟨by rfl, ?_⟩) ?_ ?_
       rotate_left
       ·
        intro w'
        go_simp
        with_reducible rfl
       rotate_left
       ·
        simp only [Act.put, List.setIfInBounds_toArray, List.set_cons_zero, List.set_cons_succ, i64_w, i32_w]
        rfl
       exact norm_ (by simp only [putAll, Act.put, List.setIfInBounds_toArray, List.set_cons_zero, List.set_cons_succ]) (hCont (gb403) _ ⟨hHeld, (zq1 BK388), (zq1 BK389), (zq1 BK403), GW403.out, GE403.out, NB388_403.out, NB403_388.out, NB389_403.out, NB403_389.out, (z7_1 HB)⟩)
     ·
      refine box_step ?hg (N := 5) ?hd (cs := #[.int .i64 0, .int .i64 0, .int .i64 0, .int .i64 0]) (t := 29) ?hr ?_; (case hd => rfl); (case hg => rfl); (case hr => first | (go_simp; done) | (go_simp; rfl))
      intro gb403 hg w16 hbox hb
      have n0_ := Aside0.mk (zbb BK388 hb)
      have n1_ := Aside0.mk (zbb BK389 hb)
      have n2_ := Aside0.mk (below_step (z7_1 HB) hb)
      have BK403 := Aside0.mk (hbox)
      have GW403 := Aside0.mk ((by rw [hg]; exact (below_size (z7_1 HB)) : w.heap.size ≤ gb403))
      have GE403 := Aside0.mk ((by rw [hg]; exact (below_size (z7_1 HB)) : w.heap.size ≤ gb403))
      have NB388_403 := Aside0.mk (zlt BK388 hg)
      have NB403_388 := Aside0.mk (zgt BK388 hg)
      have NB389_403 := Aside0.mk (zlt BK389 hg)
      have NB403_389 := Aside0.mk (zgt BK389 hg)
      clear BK388 BK389 HB
      have BK388 := n0_; have BK389 := n1_; have HB := n2_
      clear n0_ n1_ n2_ hb hbox hg
      refine hK.out _ _ ⟨zc BK388 0, zc BK388 1, zc BK388 2, zc BK388 3, zc BK389 0, zc BK389 1, zc BK389 2, zc BK389 3⟩ (fun hHeld => ?_)
      clear hK K
      refine norm_ (a' := ?_) ?_ ?_
      rotate_left
      ·
       show Act.put _ (some 5) _ = _
       simp only [Act.put, List.setIfInBounds_toArray, List.set_cons_zero, List.set_cons_succ, i64_w, i32_w]; rfl
      refine one_ (i := 3) (N := some 13) #[true, true, true, true, false, false, false, false, true, false, false] rfl rfl (one_of HT_.out (by kernel_rfl)) (by decide) (fun K hK => ?_)
      refine goes_ Try.func16 (by kernel_rfl) rfl #[.agg #[.int .i64 a1_0, .int .i64 a1_1, .int .i64 a1_2, .int .i64 a1_3]] (by rfl) rfl rfl (by (try simp only [List.map_toArray, List.map_cons, List.map_nil]); first | done | rfl | (simp only [List.length_drop, List.length_take]; rfl)) ?_
      with_reducible refine (laws_toInterval.calls a1_0 a1_1 a1_2 a1_3 t394 t395 t396 t397 _ A4.out).mono ?_
      rintro e w17 ⟨rfl, hb⟩
      refine ⟨_, rfl, ?_⟩
      have n0_ := Aside0.mk (zbb BK388 hb)
      have n1_ := Aside0.mk (zbb BK389 hb)
      have n2_ := Aside0.mk (zbb BK403 hb)
      have n3_ := Aside0.mk (below_step (z7_1 HB) hb)
      clear BK388 BK389 BK403 HB
      have BK388 := n0_; have BK389 := n1_; have BK403 := n2_; have HB := n3_
      clear n0_ n1_ n2_ n3_
      (try clear hb)
      (try clear hb2)
      (try clear hk)
      (try clear hi)
      refine hK.out _ _ ⟨zc BK388 0, zc BK388 1, zc BK388 2, zc BK388 3, zc BK389 0, zc BK389 1, zc BK389 2, zc BK389 3⟩ (fun hHeld => ?_)
      clear hK K
      refine norm_ (a' := ?_) ?_ ?_
      rotate_left
      ·
       show Act.put _ (some 13) _ = _
       simp only [Act.put, List.setIfInBounds_toArray, List.set_cons_zero, List.set_cons_succ, i64_w, i32_w]; rfl
      refine one_ (i := 4) (N := some 14) #[true, true, true, true, true, false, false, false, true, false, false] rfl rfl (one_of HT_.out (by kernel_rfl)) (by decide) (fun K hK => ?_)
      refine goes_ Try.func25 (by kernel_rfl) rfl #[.agg #[.int .i64 t390, .int .i64 t391, .int .i64 t392, .int .i64 t393], .agg #[.int .i64 t394, .int .i64 t395, .int .i64 t396, .int .i64 t397]] (by rfl) rfl rfl (by (try simp only [List.map_toArray, List.map_cons, List.map_nil]); first | done | rfl | (simp only [List.length_drop, List.length_take]; rfl)) ?_
      with_reducible refine (spec_CommonPart.calls k t390 t391 t392 t393 t394 t395 t396 t397 t398 t399 t400 t401 t402 _ A5.out).mono ?_
      rintro e w18 ⟨rfl, hb⟩
      refine ⟨_, rfl, ?_⟩
      have n0_ := Aside0.mk (zbb BK388 hb)
      have n1_ := Aside0.mk (zbb BK389 hb)
      have n2_ := Aside0.mk (zbb BK403 hb)
      have n3_ := Aside0.mk (below_step (z7_1 HB) hb)
      clear BK388 BK389 BK403 HB
      have BK388 := n0_; have BK389 := n1_; have BK403 := n2_; have HB := n3_
      clear n0_ n1_ n2_ n3_
      (try clear hb)
      (try clear hb2)
      (try clear hk)
      (try clear hi)
      refine hK.out _ _ ⟨zc BK388 0, zc BK388 1, zc BK388 2, zc BK388 3, zc BK389 0, zc BK389 1, zc BK389 2, zc BK389 3⟩ (fun hHeld => ?_)
      clear hK K
      refine norm_ (a' := ?_) ?_ ?_
      rotate_left
      ·
       show Act.put _ (some 14) _ = _
       simp only [Act.put, List.setIfInBounds_toArray, List.set_cons_zero, List.set_cons_succ, i64_w, i32_w]; rfl
      refine pure_ (i := 5) (N := some 9) (v := ?_) (a' := ?_) #[true, true, true, true, true, true, false, false, true, false, false] rfl rfl (any_of HT_.out (by kernel_rfl)) (fun _ _ _ h => h) (Or.inl ⟨by rfl, ?_⟩) ?_ ?_
      rotate_left
      ·
       intro w'
       go_simp
       with_reducible rfl
      rotate_left
      ·
       simp only [Act.put, List.setIfInBounds_toArray, List.set_cons_zero, List.set_cons_succ, i64_w, i32_w]
       rfl
      refine pure_ (i := 6) (N := some 15) (v := ?_) (a' := ?_) #[true, true, true, true, true, true, true, false, true, false, false] rfl rfl (any_of HT_.out (by kernel_rfl)) (fun _ _ _ h => h) (Or.inl ⟨by rfl, ?_⟩) ?_ ?_
      rotate_left
      ·
       intro w'
       go_simp
       with_reducible rfl
      rotate_left
      ·
       simp only [Act.put, List.setIfInBounds_toArray, List.set_cons_zero, List.set_cons_succ, i64_w, i32_w]
       rfl
      refine pure_ (i := 7) (N := some 16) (v := ?_) (a' := ?_) #[true, true, true, true, true, true, true, true, true, false, false] rfl rfl (any_of HT_.out (by kernel_rfl)) (fun _ _ _ h => h) (Or.inl ⟨by rfl, ?_⟩) ?_ ?_
      rotate_left
      ·
       intro w'
       go_simp
       with_reducible rfl
      rotate_left
      ·
       simp only [Act.put, List.setIfInBounds_toArray, List.set_cons_zero, List.set_cons_succ, i64_w, i32_w]
       rfl
      exact norm_ (by simp only [putAll, Act.put, List.setIfInBounds_toArray, List.set_cons_zero, List.set_cons_succ]) (hCont (gb403) _ ⟨hHeld, (zq1 BK388), (zq1 BK389), (zq1 BK403), GW403.out, GE403.out, NB388_403.out, NB403_388.out, NB389_403.out, NB403_389.out, (z7_1 HB)⟩)
    ·
     refine box_step ?hg (N := 5) ?hd (cs := #[.int .i64 0, .int .i64 0, .int .i64 0, .int .i64 0]) (t := 29) ?hr ?_; (case hd => rfl); (case hg => rfl); (case hr => first | (go_simp; done) | (go_simp; rfl))
     intro gb403 hg w15 hbox hb
     have n0_ := Aside0.mk (zbb BK388 hb)
     have n1_ := Aside0.mk (zbb BK389 hb)
     have n2_ := Aside0.mk (below_step (z7_1 HB) hb)
     have BK403 := Aside0.mk (hbox)
     have GW403 := Aside0.mk ((by rw [hg]; exact (below_size (z7_1 HB)) : w.heap.size ≤ gb403))
     have GE403 := Aside0.mk ((by rw [hg]; exact (below_size (z7_1 HB)) : w.heap.size ≤ gb403))
     have NB388_403 := Aside0.mk (zlt BK388 hg)
     have NB403_388 := Aside0.mk (zgt BK388 hg)
     have NB389_403 := Aside0.mk (zlt BK389 hg)
     have NB403_389 := Aside0.mk (zgt BK389 hg)
     clear BK388 BK389 HB
     have BK388 := n0_; have BK389 := n1_; have HB := n2_
     clear n0_ n1_ n2_ hb hbox hg
     refine hK.out _ _ ⟨zc BK388 0, zc BK388 1, zc BK388 2, zc BK388 3, zc BK389 0, zc BK389 1, zc BK389 2, zc BK389 3⟩ (fun hHeld => ?_)
     clear hK K
     refine norm_ (a' := ?_) ?_ ?_
     rotate_left
     ·
      show Act.put _ (some 5) _ = _
      simp only [Act.put, List.setIfInBounds_toArray, List.set_cons_zero, List.set_cons_succ, i64_w, i32_w]; rfl
     refine one_ (i := 1) (N := some 11) #[true, true, true, false, false, false, false, false, true, false, false] rfl rfl (one_of HT_.out (by kernel_rfl)) (by decide) (fun K hK => ?_)
     refine goes_ Try.func16 (by kernel_rfl) rfl #[.agg #[.int .i64 a0_0, .int .i64 a0_1, .int .i64 a0_2, .int .i64 a0_3]] (by rfl) rfl rfl (by (try simp only [List.map_toArray, List.map_cons, List.map_nil]); first | done | rfl | (simp only [List.length_drop, List.length_take]; rfl)) ?_
     with_reducible refine (laws_toInterval.calls a0_0 a0_1 a0_2 a0_3 t390 t391 t392 t393 _ A3.out).mono ?_
     rintro e w16 ⟨rfl, hb⟩
     refine ⟨_, rfl, ?_⟩
     have n0_ := Aside0.mk (zbb BK388 hb)
     have n1_ := Aside0.mk (zbb BK389 hb)
     have n2_ := Aside0.mk (zbb BK403 hb)
     have n3_ := Aside0.mk (below_step (z7_1 HB) hb)
     clear BK388 BK389 BK403 HB
     have BK388 := n0_; have BK389 := n1_; have BK403 := n2_; have HB := n3_
     clear n0_ n1_ n2_ n3_
     (try clear hb)
     (try clear hb2)
     (try clear hk)
     (try clear hi)
     refine hK.out _ _ ⟨zc BK388 0, zc BK388 1, zc BK388 2, zc BK388 3, zc BK389 0, zc BK389 1, zc BK389 2, zc BK389 3⟩ (fun hHeld => ?_)
     clear hK K
     refine norm_ (a' := ?_) ?_ ?_
     rotate_left
     ·
      show Act.put _ (some 11) _ = _
      simp only [Act.put, List.setIfInBounds_toArray, List.set_cons_zero, List.set_cons_succ, i64_w, i32_w]; rfl
     refine one_ (i := 3) (N := some 13) #[true, true, true, true, false, false, false, false, true, false, false] rfl rfl (one_of HT_.out (by kernel_rfl)) (by decide) (fun K hK => ?_)
     refine goes_ Try.func16 (by kernel_rfl) rfl #[.agg #[.int .i64 a1_0, .int .i64 a1_1, .int .i64 a1_2, .int .i64 a1_3]] (by rfl) rfl rfl (by (try simp only [List.map_toArray, List.map_cons, List.map_nil]); first | done | rfl | (simp only [List.length_drop, List.length_take]; rfl)) ?_
     with_reducible refine (laws_toInterval.calls a1_0 a1_1 a1_2 a1_3 t394 t395 t396 t397 _ A4.out).mono ?_
     rintro e w17 ⟨rfl, hb⟩
     refine ⟨_, rfl, ?_⟩
     have n0_ := Aside0.mk (zbb BK388 hb)
     have n1_ := Aside0.mk (zbb BK389 hb)
     have n2_ := Aside0.mk (zbb BK403 hb)
     have n3_ := Aside0.mk (below_step (z7_1 HB) hb)
     clear BK388 BK389 BK403 HB
     have BK388 := n0_; have BK389 := n1_; have BK403 := n2_; have HB := n3_
     clear n0_ n1_ n2_ n3_
     (try clear hb)
     (try clear hb2)
     (try clear hk)
     (try clear hi)
     refine hK.out _ _ ⟨zc BK388 0, zc BK388 1, zc BK388 2, zc BK388 3, zc BK389 0, zc BK389 1, zc BK389 2, zc BK389 3⟩ (fun hHeld => ?_)
     clear hK K
     refine norm_ (a' := ?_) ?_ ?_
     rotate_left
     ·
      show Act.put _ (some 13) _ = _
      simp only [Act.put, List.setIfInBounds_toArray, List.set_cons_zero, List.set_cons_succ, i64_w, i32_w]; rfl
     refine one_ (i := 4) (N := some 14) #[true, true, true, true, true, false, false, false, true, false, false] rfl rfl (one_of HT_.out (by kernel_rfl)) (by decide) (fun K hK => ?_)
     refine goes_ Try.func25 (by kernel_rfl) rfl #[.agg #[.int .i64 t390, .int .i64 t391, .int .i64 t392, .int .i64 t393], .agg #[.int .i64 t394, .int .i64 t395, .int .i64 t396, .int .i64 t397]] (by rfl) rfl rfl (by (try simp only [List.map_toArray, List.map_cons, List.map_nil]); first | done | rfl | (simp only [List.length_drop, List.length_take]; rfl)) ?_
     with_reducible refine (spec_CommonPart.calls k t390 t391 t392 t393 t394 t395 t396 t397 t398 t399 t400 t401 t402 _ A5.out).mono ?_
     rintro e w18 ⟨rfl, hb⟩
     refine ⟨_, rfl, ?_⟩
     have n0_ := Aside0.mk (zbb BK388 hb)
     have n1_ := Aside0.mk (zbb BK389 hb)
     have n2_ := Aside0.mk (zbb BK403 hb)
     have n3_ := Aside0.mk (below_step (z7_1 HB) hb)
     clear BK388 BK389 BK403 HB
     have BK388 := n0_; have BK389 := n1_; have BK403 := n2_; have HB := n3_
     clear n0_ n1_ n2_ n3_
     (try clear hb)
     (try clear hb2)
     (try clear hk)
     (try clear hi)
     refine hK.out _ _ ⟨zc BK388 0, zc BK388 1, zc BK388 2, zc BK388 3, zc BK389 0, zc BK389 1, zc BK389 2, zc BK389 3⟩ (fun hHeld => ?_)
     clear hK K
     refine norm_ (a' := ?_) ?_ ?_
     rotate_left
     ·
      show Act.put _ (some 14) _ = _
      simp only [Act.put, List.setIfInBounds_toArray, List.set_cons_zero, List.set_cons_succ, i64_w, i32_w]; rfl
     refine pure_ (i := 5) (N := some 9) (v := ?_) (a' := ?_) #[true, true, true, true, true, true, false, false, true, false, false] rfl rfl (any_of HT_.out (by kernel_rfl)) (fun _ _ _ h => h) (Or.inl ⟨by rfl, ?_⟩) ?_ ?_
     rotate_left
     ·
      intro w'
      go_simp
      with_reducible rfl
     rotate_left
     ·
      simp only [Act.put, List.setIfInBounds_toArray, List.set_cons_zero, List.set_cons_succ, i64_w, i32_w]
      rfl
     refine pure_ (i := 6) (N := some 15) (v := ?_) (a' := ?_) #[true, true, true, true, true, true, true, false, true, false, false] rfl rfl (any_of HT_.out (by kernel_rfl)) (fun _ _ _ h => h) (Or.inl ⟨by rfl, ?_⟩) ?_ ?_
     rotate_left
     ·
      intro w'
      go_simp
      with_reducible rfl
     rotate_left
     ·
      simp only [Act.put, List.setIfInBounds_toArray, List.set_cons_zero, List.set_cons_succ, i64_w, i32_w]
      rfl
     refine pure_ (i := 7) (N := some 16) (v := ?_) (a' := ?_) #[true, true, true, true, true, true, true, true, true, false, false] rfl rfl (any_of HT_.out (by kernel_rfl)) (fun _ _ _ h => h) (Or.inl ⟨by rfl, ?_⟩) ?_ ?_
     rotate_left
     ·
      intro w'
      go_simp
      with_reducible rfl
     rotate_left
     ·
      simp only [Act.put, List.setIfInBounds_toArray, List.set_cons_zero, List.set_cons_succ, i64_w, i32_w]
      rfl
     exact norm_ (by simp only [putAll, Act.put, List.setIfInBounds_toArray, List.set_cons_zero, List.set_cons_succ]) (hCont (gb403) _ ⟨hHeld, (zq1 BK388), (zq1 BK389), (zq1 BK403), GW403.out, GE403.out, NB388_403.out, NB403_388.out, NB389_403.out, NB403_389.out, (z7_1 HB)⟩)
   rintro gb403 w19 ⟨hS_, h0_, h1_, h2_, h3_, h4_, h5_, h6_, h7_, h8_, h9_⟩
   have n0_ : Aside0 (w19.heap[gb388]? = some (.cells #[.int .i64 a0_0, .int .i64 a0_1, .int .i64 a0_2, .int .i64 a0_3] 25 (0, 0))) := ⟨h0_⟩
   have n1_ : Aside0 (w19.heap[gb389]? = some (.cells #[.int .i64 a1_0, .int .i64 a1_1, .int .i64 a1_2, .int .i64 a1_3] 25 (0, 0))) := ⟨h1_⟩
   have BK403 : Aside0 (w19.heap[gb403]? = some (.cells #[.int .i64 0, .int .i64 0, .int .i64 0, .int .i64 0] 29 (0, 0))) := ⟨h2_⟩
   have GW403 : Aside0 (w.heap.size ≤ gb403) := ⟨h3_⟩
   have GE403 : Aside0 (w.heap.size ≤ gb403) := ⟨h4_⟩
   have NB388_403 : Aside0 (gb388 ≠ gb403) := ⟨h5_⟩
   have NB403_388 : Aside0 (gb403 ≠ gb388) := ⟨h6_⟩
   have NB389_403 : Aside0 (gb389 ≠ gb403) := ⟨h7_⟩
   have NB403_389 : Aside0 (gb403 ≠ gb389) := ⟨h8_⟩
   have n9_ : Aside0 (Below w.heap.size w w19) := ⟨h9_⟩
   clear BK388 BK389 HB h0_ h1_ h2_ h3_ h4_ h5_ h6_ h7_ h8_ h9_
   have BK388 := n0_; have BK389 := n1_; have HB := n9_
   clear n0_ n1_ n9_
   have hHeld : w19.cell? ⟨gb388, 0, none⟩ = some (.int .i64 a0_0) ∧ w19.cell? ⟨gb388, 1, none⟩ = some (.int .i64 a0_1) ∧ w19.cell? ⟨gb388, 2, none⟩ = some (.int .i64 a0_2) ∧ w19.cell? ⟨gb388, 3, none⟩ = some (.int .i64 a0_3) ∧ w19.cell? ⟨gb389, 0, none⟩ = some (.int .i64 a1_0) ∧ w19.cell? ⟨gb389, 1, none⟩ = some (.int .i64 a1_1) ∧ w19.cell? ⟨gb389, 2, none⟩ = some (.int .i64 a1_2) ∧ w19.cell? ⟨gb389, 3, none⟩ = some (.int .i64 a1_3) := hS_
   refine norm_ (a' := ?_) ?_ ?_
   rotate_left
   ·
    simp only [putAll, Act.put, List.setIfInBounds_toArray, List.set_cons_zero, List.set_cons_succ]
    rfl
   refine one_ (i := 9) (N := none) #[true, true, true, true, true, true, true, true, true, true, false] rfl rfl (one_of HT_.out (by kernel_rfl)) (by decide) (fun K hK => ?_)
   have hs20 : w19.cell? ⟨gb403, 0, none⟩ = some (.int .i64 0) := zc BK403 0
   have hfs20 := blk_frozen BK403.out 0
   have hns20_0 := NB388_403.out
   have hns20_1 := NB389_403.out
   have hms20_0 := NB403_388.out
   have hms20_1 := NB403_389.out
   have hs21 : w19.cell? ⟨gb403, 1, none⟩ = some (.int .i64 0) := zc BK403 1
   have hfs21 := blk_frozen BK403.out 1
   have hns21_0 := NB388_403.out
   have hns21_1 := NB389_403.out
   have hms21_0 := NB403_388.out
   have hms21_1 := NB403_389.out
   have hs22 : w19.cell? ⟨gb403, 2, none⟩ = some (.int .i64 0) := zc BK403 2
   have hfs22 := blk_frozen BK403.out 2
   have hns22_0 := NB388_403.out
   have hns22_1 := NB389_403.out
   have hms22_0 := NB403_388.out
   have hms22_1 := NB403_389.out
   have hs23 : w19.cell? ⟨gb403, 3, none⟩ = some (.int .i64 0) := zc BK403 3
   have hfs23 := blk_frozen BK403.out 3
   have hns23_0 := NB388_403.out
   have hns23_1 := NB389_403.out
   have hms23_0 := NB403_388.out
   have hms23_1 := NB403_389.out
   refine skip_ (w1 := ?_) (by rfl) rfl ?_ ?_
   rotate_left
   ·
    go_simp
    rfl
   refine hK.out _ _ ⟨((cell_far (p := ⟨gb403, _, none⟩) NB388_403.out _).trans (((cell_far (p := ⟨gb403, _, none⟩) NB388_403.out _).trans (((cell_far (p := ⟨gb403, _, none⟩) NB388_403.out _).trans (((cell_far (p := ⟨gb403, _, none⟩) NB388_403.out _).trans (hHeld.1)))))))), ((cell_far (p := ⟨gb403, _, none⟩) NB388_403.out _).trans (((cell_far (p := ⟨gb403, _, none⟩) NB388_403.out _).trans (((cell_far (p := ⟨gb403, _, none⟩) NB388_403.out _).trans (((cell_far (p := ⟨gb403, _, none⟩) NB388_403.out _).trans (hHeld.2.1)))))))), ((cell_far (p := ⟨gb403, _, none⟩) NB388_403.out _).trans (((cell_far (p := ⟨gb403, _, none⟩) NB388_403.out _).trans (((cell_far (p := ⟨gb403, _, none⟩) NB388_403.out _).trans (((cell_far (p := ⟨gb403, _, none⟩) NB388_403.out _).trans (hHeld.2.2.1)))))))), ((cell_far (p := ⟨gb403, _, none⟩) NB388_403.out _).trans (((cell_far (p := ⟨gb403, _, none⟩) NB388_403.out _).trans (((cell_far (p := ⟨gb403, _, none⟩) NB388_403.out _).trans (((cell_far (p := ⟨gb403, _, none⟩) NB388_403.out _).trans (hHeld.2.2.2.1)))))))), ((cell_far (p := ⟨gb403, _, none⟩) NB389_403.out _).trans (((cell_far (p := ⟨gb403, _, none⟩) NB389_403.out _).trans (((cell_far (p := ⟨gb403, _, none⟩) NB389_403.out _).trans (((cell_far (p := ⟨gb403, _, none⟩) NB389_403.out _).trans (hHeld.2.2.2.2.1)))))))), ((cell_far (p := ⟨gb403, _, none⟩) NB389_403.out _).trans (((cell_far (p := ⟨gb403, _, none⟩) NB389_403.out _).trans (((cell_far (p := ⟨gb403, _, none⟩) NB389_403.out _).trans (((cell_far (p := ⟨gb403, _, none⟩) NB389_403.out _).trans (hHeld.2.2.2.2.2.1)))))))), ((cell_far (p := ⟨gb403, _, none⟩) NB389_403.out _).trans (((cell_far (p := ⟨gb403, _, none⟩) NB389_403.out _).trans (((cell_far (p := ⟨gb403, _, none⟩) NB389_403.out _).trans (((cell_far (p := ⟨gb403, _, none⟩) NB389_403.out _).trans (hHeld.2.2.2.2.2.2.1)))))))), ((cell_far (p := ⟨gb403, _, none⟩) NB389_403.out _).trans (((cell_far (p := ⟨gb403, _, none⟩) NB389_403.out _).trans (((cell_far (p := ⟨gb403, _, none⟩) NB389_403.out _).trans (((cell_far (p := ⟨gb403, _, none⟩) NB389_403.out _).trans (hHeld.2.2.2.2.2.2.2))))))))⟩ (fun hHeld => ?_)
   clear hK K
   refine pure_ (i := 10) (N := some 6) (v := ?_) (a' := ?_) #[true, true, true, true, true, true, true, true, true, true, true] rfl rfl (any_of HT_.out (by kernel_rfl)) (fun _ _ _ h => h) (Or.inl ⟨by rfl, ?_⟩) ?_ ?_
   rotate_left
   ·
    intro w'
    go_simp
    with_reducible rfl
   rotate_left
   ·
    simp only [Act.put, List.setIfInBounds_toArray, List.set_cons_zero, List.set_cons_succ, i64_w, i32_w]
    rfl
   refine done_ (done_of HT_.out (by kernel_rfl)) ?_
   try go_wp2
   have n0_ : Aside0 (((((w19.setCell ⟨gb403, 0, none⟩ (.int .i64 t398)).setCell ⟨gb403, 1, none⟩ (.int .i64 t399)).setCell ⟨gb403, 2, none⟩ (.int .i64 t400)).setCell ⟨gb403, 3, none⟩ (.int .i64 t401)).heap[gb388]? = some (.cells #[.int .i64 a0_0, .int .i64 a0_1, .int .i64 a0_2, .int .i64 a0_3] 25 (0, 0))) := ⟨zq5 BK388⟩
   have n1_ : Aside0 (((((w19.setCell ⟨gb403, 0, none⟩ (.int .i64 t398)).setCell ⟨gb403, 1, none⟩ (.int .i64 t399)).setCell ⟨gb403, 2, none⟩ (.int .i64 t400)).setCell ⟨gb403, 3, none⟩ (.int .i64 t401)).heap[gb389]? = some (.cells #[.int .i64 a1_0, .int .i64 a1_1, .int .i64 a1_2, .int .i64 a1_3] 25 (0, 0))) := ⟨zq5 BK389⟩
   have n2_ : Aside0 (((((w19.setCell ⟨gb403, 0, none⟩ (.int .i64 t398)).setCell ⟨gb403, 1, none⟩ (.int .i64 t399)).setCell ⟨gb403, 2, none⟩ (.int .i64 t400)).setCell ⟨gb403, 3, none⟩ (.int .i64 t401)).heap[gb403]? = some (.cells #[.int .i64 t398, .int .i64 t399, .int .i64 t400, .int .i64 t401] 29 (0, 0))) := ⟨by (with_reducible repeat (first | refine blk_drewN ?_ _ | refine blk_drew ?_ | refine blk_alloc ?_ _)); refine blk_put (cs := #[.int .i64 t398, .int .i64 t399, .int .i64 t400, .int .i64 0]) ?_ 3 _ rfl; (with_reducible repeat (first | refine blk_drewN ?_ _ | refine blk_drew ?_ | refine blk_alloc ?_ _)); refine blk_put (cs := #[.int .i64 t398, .int .i64 t399, .int .i64 0, .int .i64 0]) ?_ 2 _ rfl; (with_reducible repeat (first | refine blk_drewN ?_ _ | refine blk_drew ?_ | refine blk_alloc ?_ _)); refine blk_put (cs := #[.int .i64 t398, .int .i64 0, .int .i64 0, .int .i64 0]) ?_ 1 _ rfl; (with_reducible repeat (first | refine blk_drewN ?_ _ | refine blk_drew ?_ | refine blk_alloc ?_ _)); refine blk_put (cs := #[.int .i64 0, .int .i64 0, .int .i64 0, .int .i64 0]) ?_ 0 _ rfl; (with_reducible repeat (first | refine blk_drewN ?_ _ | refine blk_drew ?_ | refine blk_alloc ?_ _)); exact BK403.out⟩
   have n3_ : Aside0 (Below w.heap.size w ((((w19.setCell ⟨gb403, 0, none⟩ (.int .i64 t398)).setCell ⟨gb403, 1, none⟩ (.int .i64 t399)).setCell ⟨gb403, 2, none⟩ (.int .i64 t400)).setCell ⟨gb403, 3, none⟩ (.int .i64 t401))) := ⟨(z7_1 HB)⟩
   (try clear BK388)
   (try clear BK389)
   (try clear BK403)
   (try clear HB)
   generalize ((((w19.setCell ⟨gb403, 0, none⟩ (.int .i64 t398)).setCell ⟨gb403, 1, none⟩ (.int .i64 t399)).setCell ⟨gb403, 2, none⟩ (.int .i64 t400)).setCell ⟨gb403, 3, none⟩ (.int .i64 t401)) = w24 at n0_ n1_ n2_ n3_ ⊢
   have BK388 := n0_; have BK389 := n1_; have BK403 := n2_; have HB := n3_
   clear n0_ n1_ n2_ n3_
   have n0_ := Aside0.mk (blk_drew BK388.out)
   have n1_ := Aside0.mk (blk_drew BK389.out)
   have n2_ := Aside0.mk (blk_drew BK403.out)
   have n3_ := Aside0.mk (below_drew1 HB.out)
   clear BK388 BK389 BK403 HB
   have BK388 := n0_; have BK389 := n1_; have BK403 := n2_; have HB := n3_
   clear n0_ n1_ n2_ n3_
   refine start_ (n := 11) (S := fun w' => w'.cell? ⟨gb388, 0, none⟩ = some (.int .i64 a0_0) ∧ w'.cell? ⟨gb388, 1, none⟩ = some (.int .i64 a0_1) ∧ w'.cell? ⟨gb388, 2, none⟩ = some (.int .i64 a0_2) ∧ w'.cell? ⟨gb388, 3, none⟩ = some (.int .i64 a0_3) ∧ w'.cell? ⟨gb389, 0, none⟩ = some (.int .i64 a1_0) ∧ w'.cell? ⟨gb389, 1, none⟩ = some (.int .i64 a1_1) ∧ w'.cell? ⟨gb389, 2, none⟩ = some (.int .i64 a1_2) ∧ w'.cell? ⟨gb389, 3, none⟩ = some (.int .i64 a1_3)) (ds := []) #[false, false, false, false, false, false, false, false, false, false, false] (by kernel_rfl) rfl rfl ⟨zc BK388 0, zc BK388 1, zc BK388 2, zc BK388 3, zc BK389 0, zc BK389 1, zc BK389 2, zc BK389 3⟩ (fun hHeld => ?_); refine with_tabW laws_FnExactCommonPart.tab2 laws_FnExactCommonPart.bits2 (fun HT_ HW_ => ?_)
   generalize w24.drew = w25 at BK388 BK389 BK403 HB hHeld ⊢
   refine take_ (i := 0) (N := some 18) (v := ?_) (a' := ?_) #[true, false, false, false, false, false, false, false, false, false, false] rfl rfl (take_ofW HT_.out HW_.out (by kernel_rfl)) (fun _ _ _ h => h) (Or.inl ⟨by rfl, ?_⟩) hHeld ?_ ?_
   rotate_left
   ·
    rintro w' ⟨s0, s1, s2, s3, s4, s5, s6, s7⟩
    go_simp
    with_reducible rfl
   rotate_left
   ·
    simp only [Act.put, List.setIfInBounds_toArray, List.set_cons_zero, List.set_cons_succ, i64_w, i32_w]
    rfl
   refine take_ (i := 2) (N := some 20) (v := ?_) (a' := ?_) #[true, false, true, false, false, false, false, false, false, false, false] rfl rfl (take_ofW HT_.out HW_.out (by kernel_rfl)) (fun _ _ _ h => h) (Or.inl ⟨by rfl, ?_⟩) hHeld ?_ ?_
   rotate_left
   ·
    rintro w' ⟨s0, s1, s2, s3, s4, s5, s6, s7⟩
    go_simp
    with_reducible rfl
   rotate_left
   ·
    simp only [Act.put, List.setIfInBounds_toArray, List.set_cons_zero, List.set_cons_succ, i64_w, i32_w]
    rfl
   refine join_ (σ := Nat) 2 #[true, true, true, true, true, true, true, true, true, false, false] (fun s_ => [(19, .agg #[.int .i64 t404, .int .i64 t405, .int .i64 t406, .int .i64 t407]), (21, .agg #[.int .i64 t408, .int .i64 t409, .int .i64 t410, .int .i64 t411]), (22, .tuple #[.agg #[.int .i64 t412, .int .i64 t413, .int .i64 t414, .int .i64 t415], .bool t416]), (7, .pointer (some ⟨s_, 0, none⟩)), (17, .tuple #[.agg #[.int .i64 t412, .int .i64 t413, .int .i64 t414, .int .i64 t415], .bool t416]), (23, .agg #[.int .i64 t412, .int .i64 t413, .int .i64 t414, .int .i64 t415]), (24, .bool t416)]) (fun s_ w' => (w'.cell? ⟨gb388, 0, none⟩ = some (.int .i64 a0_0) ∧ w'.cell? ⟨gb388, 1, none⟩ = some (.int .i64 a0_1) ∧ w'.cell? ⟨gb388, 2, none⟩ = some (.int .i64 a0_2) ∧ w'.cell? ⟨gb388, 3, none⟩ = some (.int .i64 a0_3) ∧ w'.cell? ⟨gb389, 0, none⟩ = some (.int .i64 a1_0) ∧ w'.cell? ⟨gb389, 1, none⟩ = some (.int .i64 a1_1) ∧ w'.cell? ⟨gb389, 2, none⟩ = some (.int .i64 a1_2) ∧ w'.cell? ⟨gb389, 3, none⟩ = some (.int .i64 a1_3)) ∧ (w'.heap[gb388]? = some (.cells #[.int .i64 a0_0, .int .i64 a0_1, .int .i64 a0_2, .int .i64 a0_3] 25 (0, 0))) ∧ (w'.heap[gb389]? = some (.cells #[.int .i64 a1_0, .int .i64 a1_1, .int .i64 a1_2, .int .i64 a1_3] 25 (0, 0))) ∧ (w'.heap[gb403]? = some (.cells #[.int .i64 t398, .int .i64 t399, .int .i64 t400, .int .i64 t401] 29 (0, 0))) ∧ (w'.heap[s_]? = some (.cells #[.int .i64 0, .int .i64 0, .int .i64 0, .int .i64 0] 29 (0, 0))) ∧ (w.heap.size ≤ s_) ∧ (w.heap.size ≤ s_) ∧ (gb388 ≠ s_) ∧ (s_ ≠ gb388) ∧ (gb389 ≠ s_) ∧ (s_ ≠ gb389) ∧ (gb403 ≠ s_) ∧ (s_ ≠ gb403) ∧ (Below w.heap.size w w')) ?_ ?_
   rotate_left
   ·
    intro hCont
    refine two_ (i := 1) (j := 8) (Ni := some 19) (Nj := some 7) #[true, true, true, false, false, false, false, false, false, false, false] #[true, false, true, false, false, false, false, false, true, false, false] rfl rfl rfl rfl (two_of HT_.out (by kernel_rfl)) (by decide) (by decide) (fun K hK => ?_) (fun K hK => ?_)
    ·
     refine goes_ Try.func16 (by kernel_rfl) rfl #[.agg #[.int .i64 a0_0, .int .i64 a0_1, .int .i64 a0_2, .int .i64 a0_3]] (by rfl) rfl rfl (by (try simp only [List.map_toArray, List.map_cons, List.map_nil]); first | done | rfl | (simp only [List.length_drop, List.length_take]; rfl)) ?_
     with_reducible refine (laws_toInterval.calls a0_0 a0_1 a0_2 a0_3 t404 t405 t406 t407 _ A6.out).mono ?_
     rintro e w26 ⟨rfl, hb⟩
     refine ⟨_, rfl, ?_⟩
     have n0_ := Aside0.mk (zbb BK388 hb)
     have n1_ := Aside0.mk (zbb BK389 hb)
     have n2_ := Aside0.mk (zbb BK403 hb)
     have n3_ := Aside0.mk (below_step (z7_1 HB) hb)
     clear BK388 BK389 BK403 HB
     have BK388 := n0_; have BK389 := n1_; have BK403 := n2_; have HB := n3_
     clear n0_ n1_ n2_ n3_
     (try clear hb)
     (try clear hb2)
     (try clear hk)
     (try clear hi)
     refine hK.out _ _ ⟨zc BK388 0, zc BK388 1, zc BK388 2, zc BK388 3, zc BK389 0, zc BK389 1, zc BK389 2, zc BK389 3⟩ (fun hHeld => ?_)
     clear hK K
     refine norm_ (a' := ?_) ?_ ?_
     rotate_left
     ·
      show Act.put _ (some 19) _ = _
      simp only [Act.put, List.setIfInBounds_toArray, List.set_cons_zero, List.set_cons_succ, i64_w, i32_w]; rfl
     refine two_ (i := 3) (j := 8) (Ni := some 21) (Nj := some 7) #[true, true, true, true, false, false, false, false, false, false, false] #[true, true, true, false, false, false, false, false, true, false, false] rfl rfl rfl rfl (two_of HT_.out (by kernel_rfl)) (by decide) (by decide) (fun K hK => ?_) (fun K hK => ?_)
     ·
      refine goes_ Try.func16 (by kernel_rfl) rfl #[.agg #[.int .i64 a1_0, .int .i64 a1_1, .int .i64 a1_2, .int .i64 a1_3]] (by rfl) rfl rfl (by (try simp only [List.map_toArray, List.map_cons, List.map_nil]); first | done | rfl | (simp only [List.length_drop, List.length_take]; rfl)) ?_
      with_reducible refine (laws_toInterval.calls a1_0 a1_1 a1_2 a1_3 t408 t409 t410 t411 _ A7.out).mono ?_
      rintro e w27 ⟨rfl, hb⟩
      refine ⟨_, rfl, ?_⟩
      have n0_ := Aside0.mk (zbb BK388 hb)
      have n1_ := Aside0.mk (zbb BK389 hb)
      have n2_ := Aside0.mk (zbb BK403 hb)
      have n3_ := Aside0.mk (below_step (z7_1 HB) hb)
      clear BK388 BK389 BK403 HB
      have BK388 := n0_; have BK389 := n1_; have BK403 := n2_; have HB := n3_
      clear n0_ n1_ n2_ n3_
      (try clear hb)
      (try clear hb2)
      (try clear hk)
      (try clear hi)
      refine hK.out _ _ ⟨zc BK388 0, zc BK388 1, zc BK388 2, zc BK388 3, zc BK389 0, zc BK389 1, zc BK389 2, zc BK389 3⟩ (fun hHeld => ?_)
      clear hK K
      refine norm_ (a' := ?_) ?_ ?_
      rotate_left
      ·
       show Act.put _ (some 21) _ = _
       simp only [Act.put, List.setIfInBounds_toArray, List.set_cons_zero, List.set_cons_succ, i64_w, i32_w]; rfl
      refine two_ (i := 4) (j := 8) (Ni := some 22) (Nj := some 7) #[true, true, true, true, true, false, false, false, false, false, false] #[true, true, true, true, false, false, false, false, true, false, false] rfl rfl rfl rfl (two_of HT_.out (by kernel_rfl)) (by decide) (by decide) (fun K hK => ?_) (fun K hK => ?_)
      ·
       refine goes_ Try.func26 (by kernel_rfl) rfl #[.agg #[.int .i64 t404, .int .i64 t405, .int .i64 t406, .int .i64 t407], .agg #[.int .i64 t408, .int .i64 t409, .int .i64 t410, .int .i64 t411]] (by rfl) rfl rfl (by (try simp only [List.map_toArray, List.map_cons, List.map_nil]); first | done | rfl | (simp only [List.length_drop, List.length_take]; rfl)) ?_
       with_reducible refine (impl_CommonPart.calls k t404 t405 t406 t407 t408 t409 t410 t411 t412 t413 t414 t415 t416 _ A8.out).mono ?_
       rintro e w28 ⟨rfl, hb⟩
       refine ⟨_, rfl, ?_⟩
       have n0_ := Aside0.mk (zbb BK388 hb)
       have n1_ := Aside0.mk (zbb BK389 hb)
       have n2_ := Aside0.mk (zbb BK403 hb)
       have n3_ := Aside0.mk (below_step (z7_1 HB) hb)
       clear BK388 BK389 BK403 HB
       have BK388 := n0_; have BK389 := n1_; have BK403 := n2_; have HB := n3_
       clear n0_ n1_ n2_ n3_
       (try clear hb)
       (try clear hb2)
       (try clear hk)
       (try clear hi)
       refine hK.out _ _ ⟨zc BK388 0, zc BK388 1, zc BK388 2, zc BK388 3, zc BK389 0, zc BK389 1, zc BK389 2, zc BK389 3⟩ (fun hHeld => ?_)
       clear hK K
       refine norm_ (a' := ?_) ?_ ?_
       rotate_left
       ·
        show Act.put _ (some 22) _ = _
        simp only [Act.put, List.setIfInBounds_toArray, List.set_cons_zero, List.set_cons_succ, i64_w, i32_w]; rfl
       refine pure_ (i := 5) (N := some 17) (v := ?_) (a' := ?_) #[true, true, true, true, true, true, false, false, false, false, false] rfl rfl (any_of HT_.out (by kernel_rfl)) (fun _ _ _ h => h) (Or.inl ⟨by rfl, ?_⟩) ?_ ?_
       rotate_left
       ·
        intro w'
        go_simp
        with_reducible rfl
       rotate_left
       ·
        simp only [Act.put, List.setIfInBounds_toArray, List.set_cons_zero, List.set_cons_succ, i64_w, i32_w]
        rfl
       refine pure_ (i := 6) (N := some 23) (v := ?_) (a' := ?_) #[true, true, true, true, true, true, true, false, false, false, false] rfl rfl (any_of HT_.out (by kernel_rfl)) (fun _ _ _ h => h) (Or.inl ⟨by rfl, ?_⟩) ?_ ?_
       rotate_left
       ·
        intro w'
        go_simp
        with_reducible rfl
       rotate_left
       ·
        simp only [Act.put, List.setIfInBounds_toArray, List.set_cons_zero, List.set_cons_succ, i64_w, i32_w]
        rfl
       refine pure_ (i := 7) (N := some 24) (v := ?_) (a' := ?_) #[true, true, true, true, true, true, true, true, false, false, false] rfl rfl (any_of HT_.out (by kernel_rfl)) (fun _ _ _ h => h) (Or.inl ⟨by rfl, ?_⟩) ?_ ?_
       rotate_left
       ·
        intro w'
        go_simp
        with_reducible rfl
       rotate_left
       ·
        simp only [Act.put, List.setIfInBounds_toArray, List.set_cons_zero, List.set_cons_succ, i64_w, i32_w]
        rfl
       refine one_ (i := 8) (N := some 7) #[true, true, true, true, true, true, true, true, true, false, false] rfl rfl (one_of HT_.out (by kernel_rfl)) (by decide) (fun K hK => ?_)
       refine box_step ?hg (N := 7) ?hd (cs := #[.int .i64 0, .int .i64 0, .int .i64 0, .int .i64 0]) (t := 29) ?hr ?_; (case hd => rfl); (case hg => rfl); (case hr => first | (go_simp; done) | (go_simp; rfl))
       intro gb417 hg w29 hbox hb
       have n0_ := Aside0.mk (zbb BK388 hb)
       have n1_ := Aside0.mk (zbb BK389 hb)
       have n2_ := Aside0.mk (zbb BK403 hb)
       have n3_ := Aside0.mk (below_step (z7_1 HB) hb)
       have BK417 := Aside0.mk (hbox)
       have GW417 := Aside0.mk ((by rw [hg]; exact (below_size (z7_1 HB)) : w.heap.size ≤ gb417))
       have GE417 := Aside0.mk ((by rw [hg]; exact (below_size (z7_1 HB)) : w.heap.size ≤ gb417))
       have NB388_417 := Aside0.mk (zlt BK388 hg)
       have NB417_388 := Aside0.mk (zgt BK388 hg)
       have NB389_417 := Aside0.mk (zlt BK389 hg)
       have NB417_389 := Aside0.mk (zgt BK389 hg)
       have NB403_417 := Aside0.mk (zlt BK403 hg)
       have NB417_403 := Aside0.mk (zgt BK403 hg)
       clear BK388 BK389 BK403 HB
       have BK388 := n0_; have BK389 := n1_; have BK403 := n2_; have HB := n3_
       clear n0_ n1_ n2_ n3_ hb hbox hg
       refine hK.out _ _ ⟨zc BK388 0, zc BK388 1, zc BK388 2, zc BK388 3, zc BK389 0, zc BK389 1, zc BK389 2, zc BK389 3⟩ (fun hHeld => ?_)
       clear hK K
       refine norm_ (a' := ?_) ?_ ?_
       rotate_left
       ·
        show Act.put _ (some 7) _ = _
        simp only [Act.put, List.setIfInBounds_toArray, List.set_cons_zero, List.set_cons_succ, i64_w, i32_w]; rfl
       exact norm_ (by simp only [putAll, Act.put, List.setIfInBounds_toArray, List.set_cons_zero, List.set_cons_succ]) (hCont (gb417) _ ⟨hHeld, (zq1 BK388), (zq1 BK389), (zq1 BK403), (zq1 BK417), GW417.out, GE417.out, NB388_417.out, NB417_388.out, NB389_417.out, NB417_389.out, NB403_417.out, NB417_403.out, (z7_1 HB)⟩)
      ·
       refine box_step ?hg (N := 7) ?hd (cs := #[.int .i64 0, .int .i64 0, .int .i64 0, .int .i64 0]) (t := 29) ?hr ?_; (case hd => rfl); (case hg => rfl); (case hr => first | (go_simp; done) | (go_simp; rfl))
       intro gb417 hg w28 hbox hb
       have n0_ := Aside0.mk (zbb BK388 hb)
       have n1_ := Aside0.mk (zbb BK389 hb)
       have n2_ := Aside0.mk (zbb BK403 hb)
       have n3_ := Aside0.mk (below_step (z7_1 HB) hb)
       have BK417 := Aside0.mk (hbox)
       have GW417 := Aside0.mk ((by rw [hg]; exact (below_size (z7_1 HB)) : w.heap.size ≤ gb417))
       have GE417 := Aside0.mk ((by rw [hg]; exact (below_size (z7_1 HB)) : w.heap.size ≤ gb417))
       have NB388_417 := Aside0.mk (zlt BK388 hg)
       have NB417_388 := Aside0.mk (zgt BK388 hg)
       have NB389_417 := Aside0.mk (zlt BK389 hg)
       have NB417_389 := Aside0.mk (zgt BK389 hg)
       have NB403_417 := Aside0.mk (zlt BK403 hg)
       have NB417_403 := Aside0.mk (zgt BK403 hg)
       clear BK388 BK389 BK403 HB
       have BK388 := n0_; have BK389 := n1_; have BK403 := n2_; have HB := n3_
       clear n0_ n1_ n2_ n3_ hb hbox hg
       refine hK.out _ _ ⟨zc BK388 0, zc BK388 1, zc BK388 2, zc BK388 3, zc BK389 0, zc BK389 1, zc BK389 2, zc BK389 3⟩ (fun hHeld => ?_)
       clear hK K
       refine norm_ (a' := ?_) ?_ ?_
       rotate_left
       ·
        show Act.put _ (some 7) _ = _
        simp only [Act.put, List.setIfInBounds_toArray, List.set_cons_zero, List.set_cons_succ, i64_w, i32_w]; rfl
       refine one_ (i := 4) (N := some 22) #[true, true, true, true, true, false, false, false, true, false, false] rfl rfl (one_of HT_.out (by kernel_rfl)) (by decide) (fun K hK => ?_)
       refine goes_ Try.func26 (by kernel_rfl) rfl #[.agg #[.int .i64 t404, .int .i64 t405, .int .i64 t406, .int .i64 t407], .agg #[.int .i64 t408, .int .i64 t409, .int .i64 t410, .int .i64 t411]] (by rfl) rfl rfl (by (try simp only [List.map_toArray, List.map_cons, List.map_nil]); first | done | rfl | (simp only [List.length_drop, List.length_take]; rfl)) ?_
       with_reducible refine (impl_CommonPart.calls k t404 t405 t406 t407 t408 t409 t410 t411 t412 t413 t414 t415 t416 _ A8.out).mono ?_
       rintro e w29 ⟨rfl, hb⟩
       refine ⟨_, rfl, ?_⟩
       have n0_ := Aside0.mk (zbb BK388 hb)
       have n1_ := Aside0.mk (zbb BK389 hb)
       have n2_ := Aside0.mk (zbb BK403 hb)
       have n3_ := Aside0.mk (zbb BK417 hb)
       have n4_ := Aside0.mk (below_step (z7_1 HB) hb)
       clear BK388 BK389 BK403 BK417 HB
       have BK388 := n0_; have BK389 := n1_; have BK403 := n2_; have BK417 := n3_; have HB := n4_
       clear n0_ n1_ n2_ n3_ n4_
       (try clear hb)
       (try clear hb2)
       (try clear hk)
       (try clear hi)
       refine hK.out _ _ ⟨zc BK388 0, zc BK388 1, zc BK388 2, zc BK388 3, zc BK389 0, zc BK389 1, zc BK389 2, zc BK389 3⟩ (fun hHeld => ?_)
       clear hK K
       refine norm_ (a' := ?_) ?_ ?_
       rotate_left
       ·
        show Act.put _ (some 22) _ = _
        simp only [Act.put, List.setIfInBounds_toArray, List.set_cons_zero, List.set_cons_succ, i64_w, i32_w]; rfl
       refine pure_ (i := 5) (N := some 17) (v := ?_) (a' := ?_) #[true, true, true, true, true, true, false, false, true, false, false] rfl rfl (any_of HT_.out (by kernel_rfl)) (fun _ _ _ h => h) (Or.inl ⟨by rfl, ?_⟩) ?_ ?_
       rotate_left
       ·
        intro w'
        go_simp
        with_reducible rfl
       rotate_left
       ·
        simp only [Act.put, List.setIfInBounds_toArray, List.set_cons_zero, List.set_cons_succ, i64_w, i32_w]
        rfl
       refine pure_ (i := 6) (N := some 23) (v := ?_) (a' := ?_) #[true, true, true, true, true, true, true, false, true, false, false] rfl rfl (any_of HT_.out (by kernel_rfl)) (fun _ _ _ h => h) (Or.inl ⟨by rfl, ?_⟩) ?_ ?_
       rotate_left
       ·
        intro w'
        go_simp
        with_reducible rfl
       rotate_left
       ·
        simp only [Act.put, List.setIfInBounds_toArray, List.set_cons_zero, List.set_cons_succ, i64_w, i32_w]
        rfl
       refine pure_ (i := 7) (N := some 24) (v := ?_) (a' := ?_) #[true, true, true, true, true, true, true, true, true, false, false] rfl rfl (any_of HT_.out (by kernel_rfl)) (fun _ _ _ h => h) (Or.inl ⟨by rfl, ?_⟩) ?_ ?_
       rotate_left
       ·
        intro w'
        go_simp
        with_reducible rfl
       rotate_left
       ·
        simp only [Act.put, List.setIfInBounds_toArray, List.set_cons_zero, List.set_cons_succ, i64_w, i32_w]
        rfl
       exact norm_ (by simp only [putAll, Act.put, List.setIfInBounds_toArray, List.set_cons_zero, List.set_cons_succ]) (hCont (gb417) _ ⟨hHeld, (zq1 BK388), (zq1 BK389), (zq1 BK403), (zq1 BK417), GW417.out, GE417.out, NB388_417.out, NB417_388.out, NB389_417.out, NB417_389.out, NB403_417.out, NB417_403.out, (z7_1 HB)⟩)
     ·
      refine box_step ?hg (N := 7) ?hd (cs := #[.int .i64 0, .int .i64 0, .int .i64 0, .int .i64 0]) (t := 29) ?hr ?_; (case hd => rfl); (case hg => rfl); (case hr => first | (go_simp; done) | (go_simp; rfl))
      intro gb417 hg w27 hbox hb
      have n0_ := Aside0.mk (zbb BK388 hb)
      have n1_ := Aside0.mk (zbb BK389 hb)
      have n2_ := Aside0.mk (zbb BK403 hb)
      have n3_ := Aside0.mk (below_step (z7_1 HB) hb)
      have BK417 := Aside0.mk (hbox)
      have GW417 := Aside0.mk ((by rw [hg]; exact (below_size (z7_1 HB)) : w.heap.size ≤ gb417))
      have GE417 := Aside0.mk ((by rw [hg]; exact (below_size (z7_1 HB)) : w.heap.size ≤ gb417))
      have NB388_417 := Aside0.mk (zlt BK388 hg)
      have NB417_388 := Aside0.mk (zgt BK388 hg)
      have NB389_417 := Aside0.mk (zlt BK389 hg)
      have NB417_389 := Aside0.mk (zgt BK389 hg)
      have NB403_417 := Aside0.mk (zlt BK403 hg)
      have NB417_403 := Aside0.mk (zgt BK403 hg)
      clear BK388 BK389 BK403 HB
      have BK388 := n0_; have BK389 := n1_; have BK403 := n2_; have HB := n3_
      clear n0_ n1_ n2_ n3_ hb hbox hg
      refine hK.out _ _ ⟨zc BK388 0, zc BK388 1, zc BK388 2, zc BK388 3, zc BK389 0, zc BK389 1, zc BK389 2, zc BK389 3⟩ (fun hHeld => ?_)
      clear hK K
      refine norm_ (a' := ?_) ?_ ?_
      rotate_left
      ·
       show Act.put _ (some 7) _ = _
       simp only [Act.put, List.setIfInBounds_toArray, List.set_cons_zero, List.set_cons_succ, i64_w, i32_w]; rfl
      refine one_ (i := 3) (N := some 21) #[true, true, true, true, false, false, false, false, true, false, false] rfl rfl (one_of HT_.out (by kernel_rfl)) (by decide) (fun K hK => ?_)
      refine goes_ Try.func16 (by kernel_rfl) rfl #[.agg #[.int .i64 a1_0, .int .i64 a1_1, .int .i64 a1_2, .int .i64 a1_3]] (by rfl) rfl rfl (by (try simp only [List.map_toArray, List.map_cons, List.map_nil]); first | done | rfl | (simp only [List.length_drop, List.length_take]; rfl)) ?_
      with_reducible refine (laws_toInterval.calls a1_0 a1_1 a1_2 a1_3 t408 t409 t410 t411 _ A7.out).mono ?_
      rintro e w28 ⟨rfl, hb⟩
      refine ⟨_, rfl, ?_⟩
      have n0_ := Aside0.mk (zbb BK388 hb)
      have n1_ := Aside0.mk (zbb BK389 hb)
      have n2_ := Aside0.mk (zbb BK403 hb)
      have n3_ := Aside0.mk (zbb BK417 hb)
      have n4_ := Aside0.mk (below_step (z7_1 HB) hb)
      clear BK388 BK389 BK403 BK417 HB
      have BK388 := n0_; have BK389 := n1_; have BK403 := n2_; have BK417 := n3_; have HB := n4_
      clear n0_ n1_ n2_ n3_ n4_
      (try clear hb)
      (try clear hb2)
      (try clear hk)
      (try clear hi)
      refine hK.out _ _ ⟨zc BK388 0, zc BK388 1, zc BK388 2, zc BK388 3, zc BK389 0, zc BK389 1, zc BK389 2, zc BK389 3⟩ (fun hHeld => ?_)
      clear hK K
      refine norm_ (a' := ?_) ?_ ?_
      rotate_left
      ·
       show Act.put _ (some 21) _ = _
       simp only [Act.put, List.setIfInBounds_toArray, List.set_cons_zero, List.set_cons_succ, i64_w, i32_w]; rfl
      refine one_ (i := 4) (N := some 22) #[true, true, true, true, true, false, false, false, true, false, false] rfl rfl (one_of HT_.out (by kernel_rfl)) (by decide) (fun K hK => ?_)
      refine goes_ Try.func26 (by kernel_rfl) rfl #[.agg #[.int .i64 t404, .int .i64 t405, .int .i64 t406, .int .i64 t407], .agg #[.int .i64 t408, .int .i64 t409, .int .i64 t410, .int .i64 t411]] (by rfl) rfl rfl (by (try simp only [List.map_toArray, List.map_cons, List.map_nil]); first | done | rfl | (simp only [List.length_drop, List.length_take]; rfl)) ?_
      with_reducible refine (impl_CommonPart.calls k t404 t405 t406 t407 t408 t409 t410 t411 t412 t413 t414 t415 t416 _ A8.out).mono ?_
      rintro e w29 ⟨rfl, hb⟩
      refine ⟨_, rfl, ?_⟩
      have n0_ := Aside0.mk (zbb BK388 hb)
      have n1_ := Aside0.mk (zbb BK389 hb)
      have n2_ := Aside0.mk (zbb BK403 hb)
      have n3_ := Aside0.mk (zbb BK417 hb)
      have n4_ := Aside0.mk (below_step (z7_1 HB) hb)
      clear BK388 BK389 BK403 BK417 HB
      have BK388 := n0_; have BK389 := n1_; have BK403 := n2_; have BK417 := n3_; have HB := n4_
      clear n0_ n1_ n2_ n3_ n4_
      (try clear hb)
      (try clear hb2)
      (try clear hk)
      (try clear hi)
      refine hK.out _ _ ⟨zc BK388 0, zc BK388 1, zc BK388 2, zc BK388 3, zc BK389 0, zc BK389 1, zc BK389 2, zc BK389 3⟩ (fun hHeld => ?_)
      clear hK K
      refine norm_ (a' := ?_) ?_ ?_
      rotate_left
      ·
       show Act.put _ (some 22) _ = _
       simp only [Act.put, List.setIfInBounds_toArray, List.set_cons_zero, List.set_cons_succ, i64_w, i32_w]; rfl
      refine pure_ (i := 5) (N := some 17) (v := ?_) (a' := ?_) #[true, true, true, true, true, true, false, false, true, false, false] rfl rfl (any_of HT_.out (by kernel_rfl)) (fun _ _ _ h => h) (Or.inl ⟨by rfl, ?_⟩) ?_ ?_
      rotate_left
      ·
       intro w'
       go_simp
       with_reducible rfl
      rotate_left
      ·
       simp only [Act.put, List.setIfInBounds_toArray, List.set_cons_zero, List.set_cons_succ, i64_w, i32_w]
       rfl
      refine pure_ (i := 6) (N := some 23) (v := ?_) (a' := ?_) #[true, true, true, true, true, true, true, false, true, false, false] rfl rfl (any_of HT_.out (by kernel_rfl)) (fun _ _ _ h => h) (Or.inl ⟨by rfl, ?_⟩) ?_ ?_
      rotate_left
      ·
       intro w'
       go_simp
       with_reducible rfl
      rotate_left
      ·
       simp only [Act.put, List.setIfInBounds_toArray, List.set_cons_zero, List.set_cons_succ, i64_w, i32_w]
       rfl
      refine pure_ (i := 7) (N := some 24) (v := ?_) (a' := ?_) #[true, true, true, true, true, true, true, true, true, false, false] rfl rfl (any_of HT_.out (by kernel_rfl)) (fun _ _ _ h => h) (Or.inl ⟨by rfl, ?_⟩) ?_ ?_
      rotate_left
      ·
       intro w'
       go_simp
       with_reducible rfl
      rotate_left
      ·
       simp only [Act.put, List.setIfInBounds_toArray, List.set_cons_zero, List.set_cons_succ, i64_w, i32_w]
       rfl
      exact norm_ (by simp only [putAll, Act.put, List.setIfInBounds_toArray, List.set_cons_zero, List.set_cons_succ]) (hCont (gb417) _ ⟨hHeld, (zq1 BK388), (zq1 BK389), (zq1 BK403), (zq1 BK417), GW417.out, GE417.out, NB388_417.out, NB417_388.out, NB389_417.out, NB417_389.out, NB403_417.out, NB417_403.out, (z7_1 HB)⟩)
    ·
     refine box_step ?hg (N := 7) ?hd (cs := #[.int .i64 0, .int .i64 0, .int .i64 0, .int .i64 0]) (t := 29) ?hr ?_; (case hd => rfl); (case hg => rfl); (case hr => first | (go_simp; done) | (go_simp; rfl))
     intro gb417 hg w26 hbox hb
     have n0_ := Aside0.mk (zbb BK388 hb)
     have n1_ := Aside0.mk (zbb BK389 hb)
     have n2_ := Aside0.mk (zbb BK403 hb)
     have n3_ := Aside0.mk (below_step (z7_1 HB) hb)
     have BK417 := Aside0.mk (hbox)
     have GW417 := Aside0.mk ((by rw [hg]; exact (below_size (z7_1 HB)) : w.heap.size ≤ gb417))
     have GE417 := Aside0.mk ((by rw [hg]; exact (below_size (z7_1 HB)) : w.heap.size ≤ gb417))
     have NB388_417 := Aside0.mk (zlt BK388 hg)
     have NB417_388 := Aside0.mk (zgt BK388 hg)
     have NB389_417 := Aside0.mk (zlt BK389 hg)
     have NB417_389 := Aside0.mk (zgt BK389 hg)
     have NB403_417 := Aside0.mk (zlt BK403 hg)
     have NB417_403 := Aside0.mk (zgt BK403 hg)
     clear BK388 BK389 BK403 HB
     have BK388 := n0_; have BK389 := n1_; have BK403 := n2_; have HB := n3_
     clear n0_ n1_ n2_ n3_ hb hbox hg
     refine hK.out _ _ ⟨zc BK388 0, zc BK388 1, zc BK388 2, zc BK388 3, zc BK389 0, zc BK389 1, zc BK389 2, zc BK389 3⟩ (fun hHeld => ?_)
     clear hK K
     refine norm_ (a' := ?_) ?_ ?_
     rotate_left
     ·
      show Act.put _ (some 7) _ = _
      simp only [Act.put, List.setIfInBounds_toArray, List.set_cons_zero, List.set_cons_succ, i64_w, i32_w]; rfl
     refine one_ (i := 1) (N := some 19) #[true, true, true, false, false, false, false, false, true, false, false] rfl rfl (one_of HT_.out (by kernel_rfl)) (by decide) (fun K hK => ?_)
     refine goes_ Try.func16 (by kernel_rfl) rfl #[.agg #[.int .i64 a0_0, .int .i64 a0_1, .int .i64 a0_2, .int .i64 a0_3]] (by rfl) rfl rfl (by (try simp only [List.map_toArray, List.map_cons, List.map_nil]); first | done | rfl | (simp only [List.length_drop, List.length_take]; rfl)) ?_
     with_reducible refine (laws_toInterval.calls a0_0 a0_1 a0_2 a0_3 t404 t405 t406 t407 _ A6.out).mono ?_
     rintro e w27 ⟨rfl, hb⟩
     refine ⟨_, rfl, ?_⟩
     have n0_ := Aside0.mk (zbb BK388 hb)
     have n1_ := Aside0.mk (zbb BK389 hb)
     have n2_ := Aside0.mk (zbb BK403 hb)
     have n3_ := Aside0.mk (zbb BK417 hb)
     have n4_ := Aside0.mk (below_step (z7_1 HB) hb)
     clear BK388 BK389 BK403 BK417 HB
     have BK388 := n0_; have BK389 := n1_; have BK403 := n2_; have BK417 := n3_; have HB := n4_
     clear n0_ n1_ n2_ n3_ n4_
     (try clear hb)
     (try clear hb2)
     (try clear hk)
     (try clear hi)
     refine hK.out _ _ ⟨zc BK388 0, zc BK388 1, zc BK388 2, zc BK388 3, zc BK389 0, zc BK389 1, zc BK389 2, zc BK389 3⟩ (fun hHeld => ?_)
     clear hK K
     refine norm_ (a' := ?_) ?_ ?_
     rotate_left
     ·
      show Act.put _ (some 19) _ = _
      simp only [Act.put, List.setIfInBounds_toArray, List.set_cons_zero, List.set_cons_succ, i64_w, i32_w]; rfl
     refine one_ (i := 3) (N := some 21) #[true, true, true, true, false, false, false, false, true, false, false] rfl rfl (one_of HT_.out (by kernel_rfl)) (by decide) (fun K hK => ?_)
     refine goes_ Try.func16 (by kernel_rfl) rfl #[.agg #[.int .i64 a1_0, .int .i64 a1_1, .int .i64 a1_2, .int .i64 a1_3]] (by rfl) rfl rfl (by (try simp only [List.map_toArray, List.map_cons, List.map_nil]); first | done | rfl | (simp only [List.length_drop, List.length_take]; rfl)) ?_
     with_reducible refine (laws_toInterval.calls a1_0 a1_1 a1_2 a1_3 t408 t409 t410 t411 _ A7.out).mono ?_
     rintro e w28 ⟨rfl, hb⟩
     refine ⟨_, rfl, ?_⟩
     have n0_ := Aside0.mk (zbb BK388 hb)
     have n1_ := Aside0.mk (zbb BK389 hb)
     have n2_ := Aside0.mk (zbb BK403 hb)
     have n3_ := Aside0.mk (zbb BK417 hb)
     have n4_ := Aside0.mk (below_step (z7_1 HB) hb)
     clear BK388 BK389 BK403 BK417 HB
     have BK388 := n0_; have BK389 := n1_; have BK403 := n2_; have BK417 := n3_; have HB := n4_
     clear n0_ n1_ n2_ n3_ n4_
     (try clear hb)
     (try clear hb2)
     (try clear hk)
     (try clear hi)
     refine hK.out _ _ ⟨zc BK388 0, zc BK388 1, zc BK388 2, zc BK388 3, zc BK389 0, zc BK389 1, zc BK389 2, zc BK389 3⟩ (fun hHeld => ?_)
     clear hK K
     refine norm_ (a' := ?_) ?_ ?_
     rotate_left
     ·
      show Act.put _ (some 21) _ = _
      simp only [Act.put, List.setIfInBounds_toArray, List.set_cons_zero, List.set_cons_succ, i64_w, i32_w]; rfl
     refine one_ (i := 4) (N := some 22) #[true, true, true, true, true, false, false, false, true, false, false] rfl rfl (one_of HT_.out (by kernel_rfl)) (by decide) (fun K hK => ?_)
     refine goes_ Try.func26 (by kernel_rfl) rfl #[.agg #[.int .i64 t404, .int .i64 t405, .int .i64 t406, .int .i64 t407], .agg #[.int .i64 t408, .int .i64 t409, .int .i64 t410, .int .i64 t411]] (by rfl) rfl rfl (by (try simp only [List.map_toArray, List.map_cons, List.map_nil]); first | done | rfl | (simp only [List.length_drop, List.length_take]; rfl)) ?_
     with_reducible refine (impl_CommonPart.calls k t404 t405 t406 t407 t408 t409 t410 t411 t412 t413 t414 t415 t416 _ A8.out).mono ?_
     rintro e w29 ⟨rfl, hb⟩
     refine ⟨_, rfl, ?_⟩
     have n0_ := Aside0.mk (zbb BK388 hb)
     have n1_ := Aside0.mk (zbb BK389 hb)
     have n2_ := Aside0.mk (zbb BK403 hb)
     have n3_ := Aside0.mk (zbb BK417 hb)
     have n4_ := Aside0.mk (below_step (z7_1 HB) hb)
     clear BK388 BK389 BK403 BK417 HB
     have BK388 := n0_; have BK389 := n1_; have BK403 := n2_; have BK417 := n3_; have HB := n4_
     clear n0_ n1_ n2_ n3_ n4_
     (try clear hb)
     (try clear hb2)
     (try clear hk)
     (try clear hi)
     refine hK.out _ _ ⟨zc BK388 0, zc BK388 1, zc BK388 2, zc BK388 3, zc BK389 0, zc BK389 1, zc BK389 2, zc BK389 3⟩ (fun hHeld => ?_)
     clear hK K
     refine norm_ (a' := ?_) ?_ ?_
     rotate_left
     ·
      show Act.put _ (some 22) _ = _
      simp only [Act.put, List.setIfInBounds_toArray, List.set_cons_zero, List.set_cons_succ, i64_w, i32_w]; rfl
     refine pure_ (i := 5) (N := some 17) (v := ?_) (a' := ?_) #[true, true, true, true, true, true, false, false, true, false, false] rfl rfl (any_of HT_.out (by kernel_rfl)) (fun _ _ _ h => h) (Or.inl ⟨by rfl, ?_⟩) ?_ ?_
     rotate_left
     ·
      intro w'
      go_simp
      with_reducible rfl
     rotate_left
     ·
      simp only [Act.put, List.setIfInBounds_toArray, List.set_cons_zero, List.set_cons_succ, i64_w, i32_w]
      rfl
     refine pure_ (i := 6) (N := some 23) (v := ?_) (a' := ?_) #[true, true, true, true, true, true, true, false, true, false, false] rfl rfl (any_of HT_.out (by kernel_rfl)) (fun _ _ _ h => h) (Or.inl ⟨by rfl, ?_⟩) ?_ ?_
     rotate_left
     ·
      intro w'
      go_simp
      with_reducible rfl
     rotate_left
     ·
      simp only [Act.put, List.setIfInBounds_toArray, List.set_cons_zero, List.set_cons_succ, i64_w, i32_w]
      rfl
     refine pure_ (i := 7) (N := some 24) (v := ?_) (a' := ?_) #[true, true, true, true, true, true, true, true, true, false, false] rfl rfl (any_of HT_.out (by kernel_rfl)) (fun _ _ _ h => h) (Or.inl ⟨by rfl, ?_⟩) ?_ ?_
     rotate_left
     ·
      intro w'
      go_simp
      with_reducible rfl
     rotate_left
     ·
      simp only [Act.put, List.setIfInBounds_toArray, List.set_cons_zero, List.set_cons_succ, i64_w, i32_w]
      rfl
     exact norm_ (by simp only [putAll, Act.put, List.setIfInBounds_toArray, List.set_cons_zero, List.set_cons_succ]) (hCont (gb417) _ ⟨hHeld, (zq1 BK388), (zq1 BK389), (zq1 BK403), (zq1 BK417), GW417.out, GE417.out, NB388_417.out, NB417_388.out, NB389_417.out, NB417_389.out, NB403_417.out, NB417_403.out, (z7_1 HB)⟩)
   rintro gb417 w30 ⟨hS_, h0_, h1_, h2_, h3_, h4_, h5_, h6_, h7_, h8_, h9_, h10_, h11_, h12_⟩
   have n0_ : Aside0 (w30.heap[gb388]? = some (.cells #[.int .i64 a0_0, .int .i64 a0_1, .int .i64 a0_2, .int .i64 a0_3] 25 (0, 0))) := ⟨h0_⟩
   have n1_ : Aside0 (w30.heap[gb389]? = some (.cells #[.int .i64 a1_0, .int .i64 a1_1, .int .i64 a1_2, .int .i64 a1_3] 25 (0, 0))) := ⟨h1_⟩
   have n2_ : Aside0 (w30.heap[gb403]? = some (.cells #[.int .i64 t398, .int .i64 t399, .int .i64 t400, .int .i64 t401] 29 (0, 0))) := ⟨h2_⟩
   have BK417 : Aside0 (w30.heap[gb417]? = some (.cells #[.int .i64 0, .int .i64 0, .int .i64 0, .int .i64 0] 29 (0, 0))) := ⟨h3_⟩
   have GW417 : Aside0 (w.heap.size ≤ gb417) := ⟨h4_⟩
   have GE417 : Aside0 (w.heap.size ≤ gb417) := ⟨h5_⟩
   have NB388_417 : Aside0 (gb388 ≠ gb417) := ⟨h6_⟩
   have NB417_388 : Aside0 (gb417 ≠ gb388) := ⟨h7_⟩
   have NB389_417 : Aside0 (gb389 ≠ gb417) := ⟨h8_⟩
   have NB417_389 : Aside0 (gb417 ≠ gb389) := ⟨h9_⟩
   have NB403_417 : Aside0 (gb403 ≠ gb417) := ⟨h10_⟩
   have NB417_403 : Aside0 (gb417 ≠ gb403) := ⟨h11_⟩
   have n12_ : Aside0 (Below w.heap.size w w30) := ⟨h12_⟩
   clear BK388 BK389 BK403 HB h0_ h1_ h2_ h3_ h4_ h5_ h6_ h7_ h8_ h9_ h10_ h11_ h12_
   have BK388 := n0_; have BK389 := n1_; have BK403 := n2_; have HB := n12_
   clear n0_ n1_ n2_ n12_
   have hHeld : w30.cell? ⟨gb388, 0, none⟩ = some (.int .i64 a0_0) ∧ w30.cell? ⟨gb388, 1, none⟩ = some (.int .i64 a0_1) ∧ w30.cell? ⟨gb388, 2, none⟩ = some (.int .i64 a0_2) ∧ w30.cell? ⟨gb388, 3, none⟩ = some (.int .i64 a0_3) ∧ w30.cell? ⟨gb389, 0, none⟩ = some (.int .i64 a1_0) ∧ w30.cell? ⟨gb389, 1, none⟩ = some (.int .i64 a1_1) ∧ w30.cell? ⟨gb389, 2, none⟩ = some (.int .i64 a1_2) ∧ w30.cell? ⟨gb389, 3, none⟩ = some (.int .i64 a1_3) := hS_
   refine norm_ (a' := ?_) ?_ ?_
   rotate_left
   ·
    simp only [putAll, Act.put, List.setIfInBounds_toArray, List.set_cons_zero, List.set_cons_succ]
    rfl
   refine one_ (i := 9) (N := none) #[true, true, true, true, true, true, true, true, true, true, false] rfl rfl (one_of HT_.out (by kernel_rfl)) (by decide) (fun K hK => ?_)
   have hs31 : w30.cell? ⟨gb417, 0, none⟩ = some (.int .i64 0) := zc BK417 0
   have hfs31 := blk_frozen BK417.out 0
   have hns31_0 := NB388_417.out
   have hns31_1 := NB389_417.out
   have hns31_2 := NB403_417.out
   have hms31_0 := NB417_388.out
   have hms31_1 := NB417_389.out
   have hms31_2 := NB417_403.out
   have hs32 : w30.cell? ⟨gb417, 1, none⟩ = some (.int .i64 0) := zc BK417 1
   have hfs32 := blk_frozen BK417.out 1
   have hns32_0 := NB388_417.out
   have hns32_1 := NB389_417.out
   have hns32_2 := NB403_417.out
   have hms32_0 := NB417_388.out
   have hms32_1 := NB417_389.out
   have hms32_2 := NB417_403.out
   have hs33 : w30.cell? ⟨gb417, 2, none⟩ = some (.int .i64 0) := zc BK417 2
   have hfs33 := blk_frozen BK417.out 2
   have hns33_0 := NB388_417.out
   have hns33_1 := NB389_417.out
   have hns33_2 := NB403_417.out
   have hms33_0 := NB417_388.out
   have hms33_1 := NB417_389.out
   have hms33_2 := NB417_403.out
   have hs34 : w30.cell? ⟨gb417, 3, none⟩ = some (.int .i64 0) := zc BK417 3
   have hfs34 := blk_frozen BK417.out 3
   have hns34_0 := NB388_417.out
   have hns34_1 := NB389_417.out
   have hns34_2 := NB403_417.out
   have hms34_0 := NB417_388.out
   have hms34_1 := NB417_389.out
   have hms34_2 := NB417_403.out
   refine skip_ (w1 := ?_) (by rfl) rfl ?_ ?_
   rotate_left
   ·
    go_simp
    rfl
   refine hK.out _ _ ⟨((cell_far (p := ⟨gb417, _, none⟩) NB388_417.out _).trans (((cell_far (p := ⟨gb417, _, none⟩) NB388_417.out _).trans (((cell_far (p := ⟨gb417, _, none⟩) NB388_417.out _).trans (((cell_far (p := ⟨gb417, _, none⟩) NB388_417.out _).trans (hHeld.1)))))))), ((cell_far (p := ⟨gb417, _, none⟩) NB388_417.out _).trans (((cell_far (p := ⟨gb417, _, none⟩) NB388_417.out _).trans (((cell_far (p := ⟨gb417, _, none⟩) NB388_417.out _).trans (((cell_far (p := ⟨gb417, _, none⟩) NB388_417.out _).trans (hHeld.2.1)))))))), ((cell_far (p := ⟨gb417, _, none⟩) NB388_417.out _).trans (((cell_far (p := ⟨gb417, _, none⟩) NB388_417.out _).trans (((cell_far (p := ⟨gb417, _, none⟩) NB388_417.out _).trans (((cell_far (p := ⟨gb417, _, none⟩) NB388_417.out _).trans (hHeld.2.2.1)))))))), ((cell_far (p := ⟨gb417, _, none⟩) NB388_417.out _).trans (((cell_far (p := ⟨gb417, _, none⟩) NB388_417.out _).trans (((cell_far (p := ⟨gb417, _, none⟩) NB388_417.out _).trans (((cell_far (p := ⟨gb417, _, none⟩) NB388_417.out _).trans (hHeld.2.2.2.1)))))))), ((cell_far (p := ⟨gb417, _, none⟩) NB389_417.out _).trans (((cell_far (p := ⟨gb417, _, none⟩) NB389_417.out _).trans (((cell_far (p := ⟨gb417, _, none⟩) NB389_417.out _).trans (((cell_far (p := ⟨gb417, _, none⟩) NB389_417.out _).trans (hHeld.2.2.2.2.1)))))))), ((cell_far (p := ⟨gb417, _, none⟩) NB389_417.out _).trans (((cell_far (p := ⟨gb417, _, none⟩) NB389_417.out _).trans (((cell_far (p := ⟨gb417, _, none⟩) NB389_417.out _).trans (((cell_far (p := ⟨gb417, _, none⟩) NB389_417.out _).trans (hHeld.2.2.2.2.2.1)))))))), ((cell_far (p := ⟨gb417, _, none⟩) NB389_417.out _).trans (((cell_far (p := ⟨gb417, _, none⟩) NB389_417.out _).trans (((cell_far (p := ⟨gb417, _, none⟩) NB389_417.out _).trans (((cell_far (p := ⟨gb417, _, none⟩) NB389_417.out _).trans (hHeld.2.2.2.2.2.2.1)))))))), ((cell_far (p := ⟨gb417, _, none⟩) NB389_417.out _).trans (((cell_far (p := ⟨gb417, _, none⟩) NB389_417.out _).trans (((cell_far (p := ⟨gb417, _, none⟩) NB389_417.out _).trans (((cell_far (p := ⟨gb417, _, none⟩) NB389_417.out _).trans (hHeld.2.2.2.2.2.2.2))))))))⟩ (fun hHeld => ?_)
   clear hK K
   refine pure_ (i := 10) (N := some 8) (v := ?_) (a' := ?_) #[true, true, true, true, true, true, true, true, true, true, true] rfl rfl (any_of HT_.out (by kernel_rfl)) (fun _ _ _ h => h) (Or.inl ⟨by rfl, ?_⟩) ?_ ?_
   rotate_left
   ·
    intro w'
    go_simp
    with_reducible rfl
   rotate_left
   ·
    simp only [Act.put, List.setIfInBounds_toArray, List.set_cons_zero, List.set_cons_succ, i64_w, i32_w]
    rfl
   refine done_ (done_of HT_.out (by kernel_rfl)) ?_
   have hnb35 := NB417_388.out
   have hnc35 := NB388_417.out
   have hnb36 := NB417_389.out
   have hnc36 := NB389_417.out
   have hnb37 := NB417_403.out
   have hnc37 := NB403_417.out
   have hcz38_0 : w30.cell? ⟨gb417, 0, none⟩ = some (.int .i64 0) := zc BK417 0
   have hcz38_1 : w30.cell? ⟨gb417, 1, none⟩ = some (.int .i64 0) := zc BK417 1
   have hcz38_2 : w30.cell? ⟨gb417, 2, none⟩ = some (.int .i64 0) := zc BK417 2
   have hcz38_3 : w30.cell? ⟨gb417, 3, none⟩ = some (.int .i64 0) := zc BK417 3
   have hfz38_0 := blk_frozen BK417.out 0
   have hfz38_1 := blk_frozen BK417.out 1
   have hfz38_2 := blk_frozen BK417.out 2
   have hfz38_3 := blk_frozen BK417.out 3
   have hnb39 := NB403_388.out
   have hnc39 := NB388_403.out
   have hnb40 := NB403_389.out
   have hnc40 := NB389_403.out
   have hcz41_0 : w30.cell? ⟨gb403, 0, none⟩ = some (.int .i64 t398) := zc BK403 0
   have hcz41_1 : w30.cell? ⟨gb403, 1, none⟩ = some (.int .i64 t399) := zc BK403 1
   have hcz41_2 : w30.cell? ⟨gb403, 2, none⟩ = some (.int .i64 t400) := zc BK403 2
   have hcz41_3 : w30.cell? ⟨gb403, 3, none⟩ = some (.int .i64 t401) := zc BK403 3
   have hfz41_0 := blk_frozen BK403.out 0
   have hfz41_1 := blk_frozen BK403.out 1
   have hfz41_2 := blk_frozen BK403.out 2
   have hfz41_3 := blk_frozen BK403.out 3
   try go_wp2_with (first | ((with_reducible refine gate_callee (f := 24) rfl ?_); refine goesL_ (some 27) rfl rfl Try.func24 (by kernel_rfl) rfl #[.agg #[.int .i64 t412, .int .i64 t413, .int .i64 t414, .int .i64 t415], .agg #[.int .i64 t398, .int .i64 t399, .int .i64 t400, .int .i64 t401]] rfl (by (try simp only [List.map_toArray, List.map_cons, List.map_nil]); first | done | rfl | (simp only [List.length_drop, List.length_take]; rfl)) ?_; (with_reducible refine (laws_eqInterval.calls t412 t413 t414 t415 t398 t399 t400 t401 true _ A9.out).mono ?_); rintro e w42 ⟨rfl, hb⟩; refine ⟨_, rfl, ?_⟩; have n0_ := Aside0.mk (blk_below (g := gb388) (o := .cells #[.int .i64 a0_0, .int .i64 a0_1, .int .i64 a0_2, .int .i64 a0_3] 25 (0, 0)) (zq5 BK388) hb); have n1_ := Aside0.mk (blk_below (g := gb389) (o := .cells #[.int .i64 a1_0, .int .i64 a1_1, .int .i64 a1_2, .int .i64 a1_3] 25 (0, 0)) (zq5 BK389) hb); have n2_ := Aside0.mk (blk_below (g := gb403) (o := .cells #[.int .i64 t398, .int .i64 t399, .int .i64 t400, .int .i64 t401] 29 (0, 0)) (zq5 BK403) hb); have n3_ := Aside0.mk (blk_below (g := gb417) (o := .cells #[.int .i64 t412, .int .i64 t413, .int .i64 t414, .int .i64 t415] 29 (0, 0)) (by (with_reducible repeat (first | refine blk_drewN ?_ _ | refine blk_drew ?_ | refine blk_alloc ?_ _)); refine blk_put (cs := #[.int .i64 t412, .int .i64 t413, .int .i64 t414, .int .i64 0]) ?_ 3 _ rfl; (with_reducible repeat (first | refine blk_drewN ?_ _ | refine blk_drew ?_ | refine blk_alloc ?_ _)); refine blk_put (cs := #[.int .i64 t412, .int .i64 t413, .int .i64 0, .int .i64 0]) ?_ 2 _ rfl; (with_reducible repeat (first | refine blk_drewN ?_ _ | refine blk_drew ?_ | refine blk_alloc ?_ _)); refine blk_put (cs := #[.int .i64 t412, .int .i64 0, .int .i64 0, .int .i64 0]) ?_ 1 _ rfl; (with_reducible repeat (first | refine blk_drewN ?_ _ | refine blk_drew ?_ | refine blk_alloc ?_ _)); refine blk_put (cs := #[.int .i64 0, .int .i64 0, .int .i64 0, .int .i64 0]) ?_ 0 _ rfl; (with_reducible repeat (first | refine blk_drewN ?_ _ | refine blk_drew ?_ | refine blk_alloc ?_ _)); exact BK417.out) hb); have n4_ := Aside0.mk (below_step (z7_1 HB) hb); clear BK388; clear BK389; clear BK403; clear BK417; clear HB; have BK388 := n0_; have BK389 := n1_; have BK403 := n2_; have BK417 := n3_; have HB := n4_; clear n0_ n1_ n2_ n3_ n4_; (try clear hb); (try clear hb2); (try clear hk); (try clear hi)))
   go_ret
   exact ⟨by first | rfl | (simp [errW_none, errW_some] <;> rfl) | (simp [*, errW_none, errW_some] <;> rfl), (z7_1 HB)⟩
 ·
  replace c10 := Bool.eq_false_iff.mpr c10
  subst c10
  have H1 : (none) = some r := by rw [if_neg (show ¬ (false = true) by decide)] at H; exact H
  clear H
  have H := H1
  clear H1
  exact absurd H (by simp)
end Go.Proofs.Ytinpcalgdiigiaa.PD
